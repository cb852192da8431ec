/- The law: part 20. No conditions but those that each theorem names. -/
import Derived.Test.YteikicbnfbgpnaaGreatDe18
set_option linter.all false
set_option maxHeartbeats 4000000
namespace Go.Sky
variable{d t ov:Int}{c:List Int}{i:Nat}{kd:IntKind}
theorem rev_qs(c:List Int)(x:Rat):Zb c x=Ig (λk=>(cf c k:Rat)*x^k) c.length:=by have:=Ze9 (cf c) x c.length;rwa [Zc3]at this
theorem plT_q(c:List Int)(a:Int)(f:d≠0):∀n,n<6->((plT c a d n:Int):Rat)=(d:Rat)^5*((cf c n:Rat)*((a:Rat)/(d:Rat))^n):=λn g=>by
 have h:(d:Rat)≠0:=by exact_mod_cast f
 have b:(a:Rat)=((a:Rat)/(d:Rat))*(d:Rat):=by rw [gW h]
 have e:(5-(n:Int)).toNat=5-n:=O1;unfold plT;rw [e];push_cast;rw [show c.getD n 0=cf c n from rfl];generalize (a:Rat)/(d:Rat)=u at b ⊢;rw [b]
 match n,g with
 | 0,_=>simp only [iR];grind
 | 1,_=>show _*(_^1*(d:Rat)^4)=_;grind
 | 2,_=>show _*(_^2*(d:Rat)^3)=_;grind
 | 3,_=>show _*(_^3*(d:Rat)^2)=_;grind
 | 4,_=>show _*(_^4*(d:Rat)^1)=_;grind
 | 5,_=>show _*(_^5*(d:Rat)^0)=_;grind
theorem pls_q(c:List Int)(a:Int){d:Int}(b:d≠0):∀n,n<=6->((plS c a d n:Int):Rat)=(d:Rat)^5*Ig (λk=>(cf c k:Rat)*((a:Rat)/(d:Rat))^k) n
 | 0,_=>by show((0:Int):Rat)=_*0;grind
 | n+1,e=>by rw [show plS c a d (n+1)=plS c a d n+plT c a d n from rfl,Od,Rat.mul_add,<-plT_q c a b n O1,<-pls_q c a b n O1];push_cast;rfl
theorem pl_q(b:c.length<=6)(a:Int)(e:d≠0):((pl c a d:Int):Rat)=(d:Rat)^5*Zb c ((a:Rat)/(d:Rat)):=by unfold pl;rw [pls_q c a e _ b,rev_qs]
theorem Zkz(o a d:Int)(x y z:List Int):∀i j,j<=i->gS o a d x y z i∣gS o a d x y z j/\∀k,k<j->gS o a d x y z i∣pl (Zk k x y z) a d
 | 0,j,l=>by obtain rfl:j=0:=O1;exact⟨mP _,λk b=>absurd b (cI k)⟩
 | i+1,j,l=>by
  have e:gS o a d x y z (i+1)∣gS o a d x y z i:=jL ..;have g:gS o a d x y z (i+1)∣pl (Zk i x y z) a d:=iE ..;rcases bC i j with h|h
  .obtain rfl:j=i+1:=O1;refine⟨mP _,λk b=>?_⟩;rcases bM.1 b with f|f
   .exact fO e ((Zkz o a d x y z i i (aI _)).2 k f)
   .subst f;exact g
  .exact⟨fO e (Zkz o a d x y z i j h).1,λk b=>fO e ((Zkz o a d x y z i j h).2 k b)⟩
def spX(g:Zi)(i:Nat)(s:Rat):Rat:=Zb (Zk i g.2.1.2 g.2.2.1.2 g.2.2.2.2) s
def Zxp{g:Zi}(h:SgG g)(i:Nat):(Zk i g.2.1.2 g.2.2.1.2 g.2.2.2.2).length<=6:=(h.lc i).2
theorem Ye5{g:Zi}{a:Int}(k:SgG g)(n:0<=a/\a<=3600000)(o:1<=d/\d<=3600000)(hi:i<3) :
  ((pl (Zk i g.2.1.2 g.2.2.1.2 g.2.2.2.2) a d/gS g.1.2.2 a d g.2.1.2 g.2.2.1.2 g.2.2.2.2 3:Int):Rat)*(g.1.2.2:Rat)=((g.1.2.2*d^5/gS g.1.2.2 a d g.2.1.2 g.2.2.1.2 g.2.2.2.2 3:Int):Rat)*spX g i ((a:Rat)/(d:Rat)):=by
 have p:d≠0:=O1;have v:=(Zfx k n o 3).1;obtain⟨u,m⟩:=Zkz g.1.2.2 a d g.2.1.2 g.2.2.1.2 g.2.2.2.2 3 3 (aI _);have l:=(Zkz g.1.2.2 a d g.2.1.2 g.2.2.1.2 g.2.2.2.2 3 0 O1).1;have j:=fU (m i hi);have f:g.1.2.2*d^5/gS g.1.2.2 a d g.2.1.2 g.2.2.1.2 g.2.2.2.2 3*gS g.1.2.2 a d g.2.1.2 g.2.2.1.2 g.2.2.2.2 3=g.1.2.2*d^5:=fU l;have q:=pl_q (Zxp k i) a p;unfold spX;generalize pl (Zk i g.2.1.2 g.2.2.1.2 g.2.2.2.2) a d/gS g.1.2.2 a d g.2.1.2 g.2.2.1.2 g.2.2.2.2 3=C at j ⊢;generalize g.1.2.2*d^5/gS g.1.2.2 a d g.2.1.2 g.2.2.1.2 g.2.2.2.2 3=O at f ⊢;generalize gS g.1.2.2 a d g.2.1.2 g.2.2.1.2 g.2.2.2.2 3=b at *;generalize pl (Zk i g.2.1.2 g.2.2.1.2 g.2.2.2.2) a d=s at *;generalize Zb (Zk i g.2.1.2 g.2.2.1.2 g.2.2.2.2) ((a:Rat)/(d:Rat))=R at *;generalize g.1.2.2=ov at *;have e:(b:Rat)≠0:=by exact_mod_cast (show b≠0 by omega)
 have w:(O:Rat)*(b:Rat)=(ov:Rat)*(d:Rat)^5:=by exact_mod_cast f
 have x:(C:Rat)*(b:Rat)=(d:Rat)^5*R:=by rw [<-q];exact_mod_cast j
 have r:((C:Rat)*(ov:Rat)-(O:Rat)*R)*(b:Rat)=0:=O5;rcases dJ.1 r with h|h
 .grind
 .exact absurd h e
theorem Yf7{ps:List Zi}(j:∀g∈ps,Gin g)(f:Yt ps=true)(h:Mm ps t=true)(hi:i<3) :
  ((exC ps t (Zk i (ps.getD (Nd ps t) G0).2.1.2 (ps.getD (Nd ps t) G0).2.2.1.2 (ps.getD (Nd ps t) G0).2.2.2.2):Int):Rat)*((ps.getD (Nd ps t) G0).1.2.2:Rat)=((exO ps t:Int):Rat)*spX (ps.getD (Nd ps t) G0) i ((exA ps t:Rat)/(exD ps t:Rat)):=by
 obtain⟨e,a,b⟩:=Zeg j f h;exact Ye5 e a b hi
theorem Ydl{M x:Rat}(g:0<=M)(f:0<=x)(j:x<=1):∀c:List Int,(∀a∈c,-M<=(a:Rat)/\(a:Rat)<=M)->-((c.length:Rat)*M)<=Zb c x/\Zb c x<=(c.length:Rat)*M
 | [],_=>by show -(((0:Nat):Rat)*M)<=0/\(0:Rat)<=((0:Nat):Rat)*M;constructor<;>grind
 | a::p,h=>by
  obtain⟨o,q⟩:=Ydl g f j p λb k=>h b (.tail _ k);obtain⟨m,n⟩:=h a (.head _);have l:(0:Rat)<=(p.length:Rat)*M:=aG (by exact_mod_cast bG _) g;have e:(((a::p).length:Nat):Rat)=(p.length:Rat)+1:=by rw [dG];push_cast;rfl
  have r:=aG (show 0<=1-x by grind) l;have s:=aG f (show 0<=(p.length:Rat)*M-Zb p x by grind);have u:=aG f (show 0<=(p.length:Rat)*M+Zb p x by grind);rw [e,show Zb (a::p) x=(a:Rat)+x*Zb p x from rfl];constructor<;>grind
theorem Ygr{a:Int}(b:0<=a)(e:a<=d)(f:0<d):0<=(a:Rat)/(d:Rat)/\(a:Rat)/(d:Rat)<=1:=by
 have qd:(0:Rat)<(d:Rat):=by exact_mod_cast f
 have k:(0:Rat)<=(a:Rat):=by exact_mod_cast b
 have j:(a:Rat)<=(d:Rat):=by exact_mod_cast e
 have g:((a:Rat)/(d:Rat))*(d:Rat)=(a:Rat):=gW O5;generalize (a:Rat)/(d:Rat)=u at g ⊢;constructor
 .refine mS.1 λh=>?_;have:=aT (show 0 < -u by grind) qd;grind
 .refine mS.1 λh=>?_;have:=aT (show 0<u-1 by grind) qd;grind
theorem cOb{C O M:Int}{R L:Rat}(n:1<=ov)(e:0<O)(b:0<=M)(m:L<=6)(f:(C:Rat)*(ov:Rat)=(O:Rat)*R)(r1:-(L*(M:Rat))<=R)(r2:R<=L*(M:Rat)):-(6*(O*M))<=C*ov/\C*ov<=6*(O*M):=by
 have a:(0:Rat)<(O:Rat):=by exact_mod_cast e
 have g:(0:Rat)<=(M:Rat):=by exact_mod_cast b
 have o:=aG (show 0<=6-L by grind) g;have h:R<=6*(M:Rat):=O5;have j:-(6*(M:Rat))<=R:=O5;have k:=aG (cW a) (show 0<=6*(M:Rat)-R by grind);have l:=aG (cW a) (show 0<=6*(M:Rat)+R by grind);constructor
 .have:-(6*((O:Rat)*(M:Rat)))<=(C:Rat)*(ov:Rat):=O5;exact_mod_cast this
 .have:(C:Rat)*(ov:Rat)<=6*((O:Rat)*(M:Rat)):=O5;exact_mod_cast this
theorem cOc{C O:Int}(f:1<=ov)(e:0<O)(h:-(6*(O*(83886080*ov)))<=C*ov/\C*ov<=6*(O*(83886080*ov))):C.natAbs<=503316480*O.natAbs:=by
 have f1:C*ov<=(503316480*O)*ov:=by have:=h.2;grind
 have f2:(-(503316480*O))*ov<=C*ov:=by have:=h.1;grind
 have a:=fS f1 O1;have b:=fS f2 O1;omega
theorem Zpi{ps:List Zi}(e:Yt ps=true)(f:Mm ps t=true):exA ps t<=exD ps t:=by
 have a:=Zb6 e f;have b:=kX (xs:=ps) (p:=λg:Zi=>decide (t<=g.1.2.1)) (w:=a);have h:t<=(ps.getD (Nd ps t) G0).1.2.1:=by rw [aF,aL a];exact bL b
 unfold exA exD;omega
theorem Yf5{ps:List Zi}(n:∀g∈ps,Gin g)(k:Yt ps=true)(m:Mm ps t=true):0<exO ps t:=by obtain⟨b,h,j⟩:=Zeg n k m;have o:=b.o1;have l:=(Zfx b h j 3).1;have f:=(Zkz (ps.getD (Nd ps t) G0).1.2.2 (exA ps t) (exD ps t) (ps.getD (Nd ps t) G0).2.1.2 (ps.getD (Nd ps t) G0).2.2.1.2 (ps.getD (Nd ps t) G0).2.2.2.2 3 0 O1).1;have e:0<(ps.getD (Nd ps t) G0).1.2.2*exD ps t^5:=gO O1 (kD O1);obtain⟨q,a⟩:=f;have a:(ps.getD (Nd ps t) G0).1.2.2*exD ps t^5=_*q:=a;unfold exO;rw [a]at e ⊢;rw [fZ _ O1];exact mH e l
theorem exC_b{ps:List Zi}(m:∀g∈ps,Gin g)(b:Yt ps=true)(f:Mm ps t=true)(hi:i<3) :
  (exC ps t (Zk i (ps.getD (Nd ps t) G0).2.1.2 (ps.getD (Nd ps t) G0).2.2.1.2 (ps.getD (Nd ps t) G0).2.2.2.2)).natAbs<=503316480*(exO ps t).natAbs:=by
 obtain⟨v,z,I⟩:=Zeg m b f;have q:=Zb6 b f;have e:=Znz (Lm ((Yz b).1 _ q));have F:AxC (Zk i (ps.getD (Nd ps t) G0).2.1.2 (ps.getD (Nd ps t) G0).2.2.1.2 (ps.getD (Nd ps t) G0).2.2.2.2) (ps.getD (Nd ps t) G0).1.2.2:=Gc (p:=λl=>AxC l (ps.getD (Nd ps t) G0).1.2.2) e.1 e.2.1 e.2.2;have w:=v.o1;obtain⟨G,H⟩:=Ygr z.1 (Zpi b f) O1;have r:=Yf7 m b f hi;have j:=Zxp v i;refine cOc w (Yf5 m b f) ?_;obtain⟨M,s⟩:∃M:Int,M=83886080*(ps.getD (Nd ps t) G0).1.2.2:=⟨_,rfl⟩;rw [<-s];have h:0<=M:=O1;have o:∀a∈Zk i (ps.getD (Nd ps t) G0).2.1.2 (ps.getD (Nd ps t) G0).2.2.1.2 (ps.getD (Nd ps t) G0).2.2.2.2,-(M:Rat)<=(a:Rat)/\(a:Rat)<=(M:Rat):=λa B=>by obtain⟨k,D,rfl⟩:=jR B;have n:=F.cg k;unfold cf at n;rw [aF,aL D,eZ,<-s]at n;generalize (Zk i (ps.getD (Nd ps t) G0).2.1.2 (ps.getD (Nd ps t) G0).2.2.1.2 (ps.getD (Nd ps t) G0).2.2.2.2)[k]=u at n;have x:-M<=u:=O1;have y:u<=M:=O1;exact⟨by exact_mod_cast x,by exact_mod_cast y⟩
 obtain⟨r1,r2⟩:=Ydl (M:=(M:Rat)) (by exact_mod_cast h) G H _ o;exact cOb w (Yf5 m b f) h (by exact_mod_cast j) r r1 r2
def exN(ps:List Zi)(t:Int)(i:Nat):Int:=exC ps t (Zk i (ps.getD (Nd ps t) G0).2.1.2 (ps.getD (Nd ps t) G0).2.2.1.2 (ps.getD (Nd ps t) G0).2.2.2.2)
theorem Ylg(ps:List Zi)(t:Int)(i:Nat):Zk i (exC ps t (ps.getD (Nd ps t) G0).2.1.2) (exC ps t (ps.getD (Nd ps t) G0).2.2.1.2) (exC ps t (ps.getD (Nd ps t) G0).2.2.2.2)=exN ps t i:=by unfold exN Zk;split<;>rfl
def rdN(ps:List Zi)(t:Int)(i:Nat):Int:=(exN ps t i+exN ps t i+exO ps t)/(exO ps t+exO ps t)
def rdL(ps:List Zi)(t:Int):Nat->List Int
 | 0=>[0,0,0]
 | i+1=>(rdL ps t i).set i (rdN ps t i)
theorem Zfc(ps:List Zi)(t:Int):∀i,(rdL ps t i).length=3
 | 0=>rfl
 | i+1=>by show(List.set _ _ _).length=3;rw [cH];exact Zfc ps t i
theorem rdL_s(ps:List Zi)(t:Int)(i:Nat):rdL ps t (i+1)=(rdL ps t i).set (0+i*1) (rdN ps t i):=by rw [bW,iP];rfl
structure AtB (n o:Int):Prop where
 b1:bl n.natAbs<=30000
 b2:bl o.natAbs<=30000
 n2:bl (n+n).natAbs<=30000
 o2:bl (o+o).natAbs<=30000
 s:bl (n+n+o).natAbs<=30000
 z:o+o≠0
 q:((n+n+o)/(o+o)).natAbs<=9223372036854775807
theorem atB{n o:Int}(k:0<o)(j:bl o.natAbs<=200)(h:n.natAbs<=503316480*o.natAbs):AtB n o:=by
 have b:=(Xz 200 _).1 j;have f:n.natAbs<2^230:=by refine aZ h ?_;exact cZ (gV b O4) O8
 have w:∀m:Nat,m<2^240->bl m<=30000:=λm g=>aB ((Xz 240 m).2 g) O4;have a:2^200<=2^230:=O8;have e:4*2^230<=2^240:=O8;generalize 2^200=A at b a;generalize 2^230=B at f a e;generalize 2^240=C at w e;refine⟨w _ O1,w _ O1,w _ O1,w _ O1,w _ O1,O1,?_⟩;have l:-503316481<=(n+n+o)/(o+o):=Int.le_ediv_of_mul_le O1 O1;have p:(n+n+o)/(o+o)<503316482:=Int.ediv_lt_of_lt_mul O1 O1;omega
theorem exN_b{ps:List Zi}(e:∀g∈ps,Gin g)(a:Yt ps=true)(b:Mm ps t=true)(hi:i<3):AtB (exN ps t i) (exO ps t):=by obtain⟨j,f,h⟩:=Zeg e a b;exact atB (Yf5 e a b) (gS_d j f h) (exC_b e a b hi)
theorem Ca{ps:List Zi}(h:exO ps t=1)(i:Nat):rdN ps t i=exN ps t i:=by unfold rdN;rw [h];omega
section
variable {P:Program} {N:Nat} {sc:Nat->Prop} {env:Qt} {H:Hp}
theorem d_ixw3 {o:Oper} {x y:Operand} {t e:TypeId}   {m f g h:Int} (p:o.op= .index t x y) (r:ev env x=some (.agg #[.bool (decide (f<0)),.string (Xu f.natAbs),.bool (decide (g<0)),.string (Xu g.natAbs),.bool (decide (h<0)),.string (Xu h.natAbs)])) (s:ev env y=some (.int kd m))
  (q:P.underlying t=some (.array 3 e)) (l:∀w,(sizeOf e).run P w= .ok 2 w) (k:∀w,(isAgg e).run P w= .ok true w) (b:m=(i:Int)) (n:i<3):Nv P N sc o env H (wv (Zk i f g h)):=λa w hs=>by
 subst b;have j:i=0\/i=1\/i=2:=O1;rcases j with rfl|rfl|rfl<;>simp [execOp,p,hs.ev r,hs.ev s,Instr.index,asIntOf,run_underlying q,l,k,asAgg,part,Zk,wv]
end
theorem fill32(j k l m n o a b e f g h:Value):Instr.fill (λi=>some (i*2,2)) #[j,k,l,m,n,o] [(0,.agg #[a,b]),(1,.agg #[e,f]),(2,.agg #[g,h])]=some #[a,b,e,f,g,h]:=by simp [Instr.fill,Value.cells]
end Go.Sky
namespace Go.Sky
open Go.Proofs
variable{c:List Int}{ov t G:Int}{u:Rat}{i:Nat}{h q:Zi}
def ti_w3:Tryz.prog.info? 166=some Tryz.t166:=O6
def ti_wd:Tryz.prog.info? 80=some Tryz.t80:=O6
theorem Yh7{a b d e f g:Value} : Tryz.prog.built 166 [(0,.agg #[a,b]),(1,.agg #[d,e]),(2,.agg #[f,g])]=some #[a,b,d,e,f,g]:=by refine Es _ ti_w3 Tryz.underlying166 rfl ti_wd ?_;rw [show Tryz.t80.size=2 from rfl];exact fill32 _ _ _ _ _ _ _ _ _ _ _ _
open Go.Proofs.Tryz
set_option synthInstance.maxHeartbeats 0
set_option synthInstance.maxSize 100000
set_option maxRecDepth 20000
set_option maxHeartbeats 1000000
set_option linter.unusedSimpArgs false
theorem sm_at(v:Value)(ps:List Zi)(t:Int)(o:∀g∈ps,Gin g)(m:Yt ps=true)(f:Mm ps t=true):Xo prog 55 #[v,.int .i64 t] [Qc 6 Pd qG v ps] (.tuple #[.agg #[.int .i64 (rdN ps t 0),.int .i64 (rdN ps t 1),.int .i64 (rdN ps t 2)],.int .i64 0]):=by
 refine Zf func55 ntmps55 λy x p j=>go 2 ?_;refine Yh (Zw 2) λs _=>go 7 ?_;refine cl 2 [1] (Yct _ _ _ o m f) λ_ _=>go 3 ?_;refine Yh (Zw 3) λk _=>go 8 ?_;refine kf (aJ O4)<|go 7 ?_;refine Yh (Zw 4) λd _=>go 11 ?_;refine dt (Qa (ivs:=[(0,_),(1,_),(2,_)]) J K6 (λa w hs=>Yh7))<|go 4 ?_;refine Zg (Om 4 (q:=box d 165 (Du (rdL ps t 0))) J J J)<|lp (G:=Nat) [4,6,8,27] [0,1,2,3] (λi=>[(28,.int .i64 (i:Int))]) (λi=>[(4,box d 165 (Du (rdL ps t i)))]) (λi=>i<=3) (λi=>3-i) 0 O2 K1 K1 ?_;rintro i hi;refine go 6 ?_;refine Zc J (λe=>?_) (λe=>?_)
 .refine go 7 ?_;refine dt (Xq (r':=wv (exN ps t i)) (d_ixw3 (i:=i) J J J Zi8 Lf isAgg80 J O1) (aK wv (Ylg ps t i)))<|Yh (Zw 5) λl _=>go 4 ?_;have b:=exN_b o m f (i:=i) O1;refine Ld [3,5] []<|Zm (n:=0) [(0,0),(1,0),(2,0),(4,0),(5,0),(7,0),(8,0),(9,0),(10,0),(3,1),(6,1),(11,1),(12,1),(13,1),(14,0),(15,0),(16,0),(17,0),(18,1)]<|go 9 ?_;refine Yv (Zj 5 [] (Zjj (exN ps t i) (exN ps t i) b.b1 b.b1)) λ_ _=>Yv (Zj 5 [] (Zjj ((exN ps t i)+(exN ps t i)) (exO ps t) b.n2 b.b2)) λ_ _=>Yv (Zj 5 [] (Zjj (exO ps t) (exO ps t) b.b2 b.b2)) λ_ _=>Yv (Zj 5 [] (Zd5 (((exN ps t i)+(exN ps t i))+(exO ps t)) ((exO ps t)+(exO ps t)) b.s b.o2 b.z)) λ_ _=>Yv (Zj 5 [] (Zi2 (rdN ps t i) b.q)) λ_ _=>go 3 ?_;refine Xn J J (An (Ii (i:=i) J J J underlying165 Km J) K2)<|Dn J (t_off 4 J J K2 (λr=>(Znt (i:=4) J J J J J Km J p.h r O4 (by rw [Zfc];omega)))) λ_ _=>go 1 ?_;refine Zz<|go 6 ⟨O1,?_⟩;exact Yq (i+1) O2 O2 K1 ⟨by rw [rdL_s];rfl,aA⟩
 .obtain rfl:i=3:=O1;refine go 7 ?_;refine dt (Ii (i:=0) J J J underlying165 Km J O4)<|dt (Zpr (i:=4) J J J iA3 (by rw [Zfc];decide))<|dt (Ii (i:=1) J J J underlying165 Km J O4)<|dt (Zpr (i:=4) J J J iA3 (by rw [Zfc];decide))<|dt (Ii (i:=2) J J J underlying165 Km J O4)<|dt (Zpr (i:=4) J J J iA3 (by rw [Zfc];decide))<|dt (Qa (ivs:=[(0,_),(1,_),(2,_)]) J K6 (λa w hs=>Zzi ((Zr J) a w hs) ((Zr J) a w hs) ((Zr J) a w hs)))<|go 5 ?_;exact Mn j () results55 J aA Za
theorem Zq2(f g h:Nat->Int):∀n,Yd (λi=>(f i-g i)*h i) n=Yd (λi=>f i*h i) n-Yd (λi=>g i*h i) n
 | 0=>by rw [Mz,Mz,Mz];rfl
 | n+1=>by rw [Yf,Yf,Yf,Zq2 f g h n,Int.sub_mul];omega
theorem Yhs(d:Nat)(p q:List Int)(j:Nat):Ln d (Cb p q) j=Ln d p j-Ln d q j:=by unfold Ln;rw [<-Zq2];refine aK (λf=>Yd f (j+1)) (funext λi=>?_);rw [Ci]
theorem Zza(M:Int):∀(d j:Nat),j<=d->Ln d [M] j=M*(Pp d j:Int)
 | d,0,_=>by rw [Yht,Zhx];omega
 | 0,j+1,h=>absurd h O1
 | d+1,j+1,h=>by rw [brS_s,Zp8];omega
theorem Zwy(M:Int)(x:Rat):Zb [M] x=(M:Rat):=by show(M:Rat)+x*0=_;grind
theorem rev_M(h:AxC c ov)(e:0<=u)(f:u<=1):-((1048576*ov:Int):Rat)<=Zb c u/\Zb c u<=((1048576*ov:Int):Rat):=by
 have k:=h.l;have a:∀j,j<(c.length-1)+1->-(1048576*ov*(Pp (c.length-1) j:Int))<=Ln (c.length-1) c j/\Ln (c.length-1) c j<=1048576*ov*(Pp (c.length-1) j:Int):=λj b=>by have:=h.b j O1;omega
 generalize 1048576*ov=M at a ⊢;have g:∀j,Ln (c.length-1) [] j=0:=λj=>Zp8 _ _;constructor
 .-- c + M
  have d:(Cb c [-M]).length<=(c.length-1)+1:=Zo3 O1 (by show 1<=_;omega);have:=Ztp d (λj b=>by rw [Zj5,Yhs,Zza _ _ _ O1];have:=(a j b).1;rw [nL];omega) e f;rw [Zjw,Zwy]at this;push_cast at this;grind
 .have d:(Cb [M] c).length<=(c.length-1)+1:=Zo3 (by show 1<=_;omega) O1;have:=Ztp d (λj b=>by rw [Zj5,Yhs,Zza _ _ _ O1];have:=(a j b).2;omega) e f;rw [Zjw,Zwy]at this;grind
theorem Zu5{ps:List Zi}(j:∀g∈ps,Gin g)(d:Yt ps=true)(e:Mm ps t=true)(m:exO ps t=1)(hi:i<3):-1048576<=exN ps t i/\exN ps t i<=1048576:=by
 obtain⟨r,n,D⟩:=Zeg j d e;have f:=Zb6 d e;have b:=Znz (Lm ((Yz d).1 _ f));have w:AxC (Zk i (ps.getD (Nd ps t) G0).2.1.2 (ps.getD (Nd ps t) G0).2.2.1.2 (ps.getD (Nd ps t) G0).2.2.2.2) (ps.getD (Nd ps t) G0).1.2.2:=Gc (p:=λl=>AxC l (ps.getD (Nd ps t) G0).1.2.2) b.1 b.2.1 b.2.2;have s:=r.o1;obtain⟨x,y⟩:=Ygr n.1 (Zpi d e) O1;have a:=Yf7 j d e hi;obtain⟨r1,r2⟩:=rev_M w x y;rw [m]at a;have a:(exN ps t i:Rat)*((ps.getD (Nd ps t) G0).1.2.2:Rat)=((1:Int):Rat)*spX (ps.getD (Nd ps t) G0) i ((exA ps t:Rat)/(exD ps t:Rat)):=a;unfold spX at a;generalize Zb (Zk i _ _ _) _=R at a r1 r2;generalize exN ps t i=C at a ⊢;generalize (ps.getD (Nd ps t) G0).1.2.2=ov at *;have v:(1:Int)<=ov:=s;obtain⟨M,o⟩:∃M:Int,M=1048576*ov:=⟨_,rfl⟩;rw [<-o]at r1 r2;have k:(C:Rat)*(ov:Rat)=R:=by rw [a];grind
 have z:C*ov<=M:=by
  have:(C:Rat)*(ov:Rat)<=(M:Rat):=by rw [k];exact r2
  exact_mod_cast this
 have B:-M<=C*ov:=by
  have:-(M:Rat)<=(C:Rat)*(ov:Rat):=by rw [k];exact r1
  exact_mod_cast this
 have f1:C*ov<=1048576*ov:=O1;have f2:-1048576*ov<=C*ov:=O1;exact⟨fS f2 O1,fS f1 O1⟩
def SmP(g:Zi)(s:Rat)(h:Zi)(u:Rat):Prop:=∀i,i<3->spX g i s*(h.1.2.2:Rat)=spX h i u*(g.1.2.2:Rat)
def SmP.symm{g:Zi}{s:Rat}(e:SmP g s h u):SmP h u g s:=λi hi=>(e i hi).symm
theorem SmP.trans{g k:Zi}{s v:Rat}(a:(h.1.2.2:Rat)≠0)(e:SmP g s h u)(f:SmP h u k v):SmP g s k v:=λi hi=>by
 have b:=e i hi;have d:=f i hi;have:(spX g i s*(k.1.2.2:Rat)-spX k i v*(g.1.2.2:Rat))*(h.1.2.2:Rat)=0:=O5;rcases dJ.1 this with q|q
 .grind
 .exact absurd q a
theorem ov_ne{g:Zi}(h:SgG g):(g.1.2.2:Rat)≠0:=by have:=h.o1;exact_mod_cast (show g.1.2.2≠0 by omega)
theorem SmP_me{g:Zi}(b:SgG g)(n:SgG h)(f:meG g h=true):SmP g 1 h 0:=λi hi=>by
 unfold meG Zht Ydd at f;rw [aO,cK,cK]at f;obtain⟨-,o,p,r,s⟩:=f;have m:=Ye5 (a:=1) (d:=1) b ⟨O4,O4⟩ ⟨O4,O4⟩ hi;have k:=Ye5 (a:=0) (d:=1) n ⟨O4,O4⟩ ⟨O4,O4⟩ hi;have hs:pl (Zk i g.2.1.2 g.2.2.1.2 g.2.2.2.2) 1 1/gS g.1.2.2 1 1 g.2.1.2 g.2.2.1.2 g.2.2.2.2 3=pl (Zk i h.2.1.2 h.2.2.1.2 h.2.2.2.2) 0 1/gS h.1.2.2 0 1 h.2.1.2 h.2.2.1.2 h.2.2.2.2 3:=by
  match i,hi with
  | 0,_=>exact o
  | 1,_=>exact p
  | 2,_=>exact r
 rw [<-hs,<-s]at k;rw [show((1:Int):Rat)/((1:Int):Rat)=1 by decide +kernel]at m;rw [show((0:Int):Rat)/((1:Int):Rat)=0 by decide +kernel]at k;have w:0<g.1.2.2*1^5/gS g.1.2.2 1 1 g.2.1.2 g.2.2.1.2 g.2.2.2.2 3:=by
  have e:=(Zfx b (a:=1) (d:=1) ⟨O4,O4⟩ ⟨O4,O4⟩ 3).1;obtain⟨q,j⟩:=(Zkz g.1.2.2 1 1 g.2.1.2 g.2.2.1.2 g.2.2.2.2 3 0 O1).1;have j:g.1.2.2*1^5=gS g.1.2.2 1 1 g.2.1.2 g.2.2.1.2 g.2.2.2.2 3*q:=j;have l:0<g.1.2.2*1^5:=by have:=b.o1;omega
  rw [j]at l ⊢;rw [fZ _ O1];exact mH l e
 generalize g.1.2.2*1^5/gS g.1.2.2 1 1 g.2.1.2 g.2.2.1.2 g.2.2.2.2 3=O at *;generalize pl (Zk i g.2.1.2 g.2.2.1.2 g.2.2.2.2) 1 1/gS g.1.2.2 1 1 g.2.1.2 g.2.2.1.2 g.2.2.2.2 3=C at *;have v:(O:Rat)≠0:=by exact_mod_cast (show O≠0 by omega)
 have:(spX g i 1*(h.1.2.2:Rat)-spX h i 0*(g.1.2.2:Rat))*(O:Rat)=0:=O5;rcases dJ.1 this with q|q
 .grind
 .exact absurd q v
theorem Ymu{g:Zi}(h:Prt q g G){t:Rat}(e:t*((g.1.2.1-g.1.1:Int):Rat)=((q.1.1-g.1.1:Int):Rat)+((q.1.2.1-q.1.1:Int):Rat)*u):SmP q u g t:=λi hi=>by
 have f:=h.x i t u e;have d:(q.1.2.2:Rat)*(G:Rat)=(g.1.2.2:Rat)*((g.1.2.1-g.1.1:Int):Rat)^5:=by exact_mod_cast h.o
 have b:(G:Rat)≠0:=by have:=h.g0;exact_mod_cast (show G≠0 by omega)
 unfold spX;have:(Zb (Zk i q.2.1.2 q.2.2.1.2 q.2.2.2.2) u*(g.1.2.2:Rat)-Zb (Zk i g.2.1.2 g.2.2.1.2 g.2.2.2.2) t*(q.1.2.2:Rat))*(G:Rat)=0:=O5;rcases dJ.1 this with a|a
 .grind
 .exact absurd a b
def sTm(g:Zi)(t:Int):Rat:=((t-g.1.1:Int):Rat)/((g.1.2.1-g.1.1:Int):Rat)
theorem SmP_ex{ps:List Zi}(r:∀g∈ps,Gin g)(a:Yt ps=true)(p:Mm ps t=true){j:Nat}(d:j<ps.length)(z:(ps.getD j G0).1.1<=t)(n:t<=(ps.getD j G0).1.2.1):SmP (ps.getD (Nd ps t) G0) (sTm (ps.getD (Nd ps t) G0) t) (ps.getD j G0) (sTm (ps.getD j G0) t):=by
 have b:=Zb6 a p;have sg:∀k,k<ps.length->SgG (ps.getD k G0):=λk o=>Nx (r _ (Ze o)) (Lm ((Yz a).1 _ o));have D:t<=(ps.getD (Nd ps t) G0).1.2.1:=by have:=Zpi a p;unfold exA exD at this;omega
 have x:Nd ps t<=j:=by refine Nat.not_lt.1 λh=>?_;have:=iV h;rw [aF,aL d]at n;exact kB this n
 rcases bC (Nd ps t) j with h|h
 .-- a joint
  have H:=Zk6 a (i:=Nd ps t) O1;have l:j=Nd ps t+1:=by refine bE λI=>?_;have w:Nd ps t+2<=j:=O1;obtain⟨m,rfl⟩:∃m,j=m+1:=⟨j-1,O1⟩;have e:=Zk6 a d;have f:=(sg m O1).t2;have B:=Znr r a (k:=Nd ps t+1) (m:=m) O1 O1;have F:=(sg (Nd ps t+1) O1).t2;omega
  subst l;have y:meG (ps.getD (Nd ps t) G0) (ps.getD (Nd ps t+1) G0)=true:=by have e:=(Yz a).1 _ d;have f:=Zbu (Lm e) (kK _);rw [e]at f;exact f.symm
  have s:sTm (ps.getD (Nd ps t) G0) t=1:=by have w:=(sg _ b).t2;unfold sTm;rw [show t-(ps.getD (Nd ps t) G0).1.1=(ps.getD (Nd ps t) G0).1.2.1-(ps.getD (Nd ps t) G0).1.1 by omega];rw [iI];exact jZ _ (by exact_mod_cast (show(ps.getD (Nd ps t) G0).1.2.1-(ps.getD (Nd ps t) G0).1.1≠0 by omega))
  have v:sTm (ps.getD (Nd ps t+1) G0) t=0:=by unfold sTm;rw [show t-(ps.getD (Nd ps t+1) G0).1.1=0 by omega];show((0:Int):Rat)/_=0;rw [iI];grind
  rw [s,v];exact SmP_me (sg _ b) (sg _ d) y
 .obtain rfl:j=Nd ps t:=O1;exact λi hi=>rfl
theorem Yc9{ps:List Zi}(B:∀g∈ps,Gin g)(f:Yt ps=true){fr a:Int}(D:spF ps<=fr)(F:fr<a)(v:a<=spL ps)(o:∀g∈ps,¬(fr<g.1.1/\g.1.1<a)) :
  ∃j,j<ps.length/\(ps.getD j G0).1.1<=fr/\a<=(ps.getD j G0).1.2.1:=by
 have n:Mm ps a=true:=by unfold Mm;rw [aM (show spF ps<=a by omega),aM v];rfl
 have d:=Zb6 f n;have w:a<=(ps.getD (Nd ps a) G0).1.2.1:=by have:=Zpi f n;unfold exA exD at this;omega
 have x:=(Zeg B f n).2.1.1;unfold exA at x;refine⟨Nd ps a,d,?_,w⟩;refine oQ.1 λy=>?_;rcases fY (ps.getD (Nd ps a) G0).1.1 a with r|r
 .exact o _ (Ze d) ⟨y,r⟩
 .have e:(ps.getD (Nd ps a) G0).1.1=a:=O1;rcases aU (Nd ps a)with s|s
  .rw [s]at e;have:spF ps=a:=e;omega
  .obtain⟨m,z⟩:∃m,Nd ps a=m+1:=⟨Nd ps a-1,O1⟩;have k:=Zk6 f (i:=m) O1;rw [<-z,e]at k;have l:=iV (xs:=ps) (p:=λg:Zi=>decide (a<=g.1.2.1)) (i:=m) (show m<Nd ps a by omega);have b:a<=(ps.getD m G0).1.2.1:=O1;rw [aF,aL (show m<ps.length by omega)]at b;exact kB l b
theorem Zyr{ps:List Zi}(y:∀g∈ps,Gin g)(o:Yt ps=true){fr a:Int}(s:spF ps<=fr)(m:fr<a)(v:a<=spL ps)(d:∀g∈ps,¬(fr<g.1.1/\g.1.1<a))(b:Pb fr a ps=true){j:Nat}(w:j<ps.length)(B:(ps.getD j G0).1.1<=fr)(D:a<=(ps.getD j G0).1.2.1) :
  Zaf fr a ps=[Zh5 fr a (ps.getD j G0)]/\Ko fr a (ps.getD j G0)=true/\Zh6 fr a (ps.getD j G0)=true/\(Zh5 fr a (ps.getD j G0)).1.1=fr/\(Zh5 fr a (ps.getD j G0)).1.2.1=a:=by
 have p:=(Yz o).2.1;have k:cA fr (ps.getD j G0)=fr:=by unfold cA;omega
 have l:cB a (ps.getD j G0)=a:=by unfold cB;omega
 have n:Ko fr a (ps.getD j G0)=true:=by unfold Ko;rw [k,l];exact aM m
 have r:ps.getD j G0∈ps.filter (Ko fr a):=fI.2 ⟨Ze w,n⟩;have x:=Zpw (Zbs y o).1 (λe=>by rw [e]at p;simp at p) s m v d;obtain⟨z,f⟩:=List.length_eq_one_iff.1 x;rw [f]at r;obtain rfl:=aY.1 r;refine⟨?_,n,?_,k,l⟩
 .unfold Zaf;rw [aH b,f];rfl
 .unfold Pb at b;rw [f]at b;simpa using b
theorem zip_sn{α β:Type}{l:List α}{m:List β}(h:l.length=m.length)(x:α)(y:β):(l ++ [x]).zip (m ++ [y])=l.zip m ++ [(x,y)]:=by rw [List.zip_append h];rfl
theorem Zne{ts:List Int}{a b:List Zi}{ua ub:Nat->Zl8} : ∀n,(∀k,k<n->Zaf (ts.getD k 0) (ts.getD (k+1) 0) a=[ua k]/\Zaf (ts.getD k 0) (ts.getD (k+1) 0) b=[ub k])->
  (Ba ts a n).length=n/\(Ba ts b n).length=n/\∀k,k<n->(ua k,ub k)∈(Ba ts a n).zip (Ba ts b n)
 | 0,_=>⟨rfl,rfl,λk d=>absurd d (cI k)⟩
 | n+1,h=>by
  obtain⟨f,g,m⟩:=Zne n λk d=>h k O1;obtain⟨o,p⟩:=h n (kP n);have j:Ba ts a (n+1)=Ba ts a n ++ [ua n]:=by show Ba ts a n ++ _=_;rw [o]
  have l:Ba ts b (n+1)=Ba ts b n ++ [ub n]:=by show Ba ts b n ++ _=_;rw [p]
  rw [j,l,zip_sn (f.trans g.symm)];refine⟨by rw [bA,f];rfl,by rw [bA,g];rfl,λk d=>?_⟩;rcases bM.1 d with e|e
  .exact List.mem_append_left _ (m k e)
  .subst e;exact List.mem_append_right _ (aY.2 rfl)
theorem btw{ts:List Int}{t:Int}(a:ts.getD 0 0<=t):∀n,1<=n->t<=ts.getD n 0->∃k,k<n/\ts.getD k 0<=t/\t<=ts.getD (k+1) 0
 | 0,h,_=>absurd h O1
 | 1,_,h=>⟨0,O1,a,h⟩
 | n+2,_,h=>by
  rcases fY t (ts.getD (n+1) 0)with b|b
  .obtain⟨k,f,d,e⟩:=btw a (n+1) O1 O1;exact⟨k,O1,d,e⟩
  .exact⟨n+1,O1,b,h⟩
theorem Ztc{ts:List Int}{a b:List Zi} : ∀{n:Nat},Hf ts a b n=true->∀k,k<n->Pb (ts.getD k 0) (ts.getD (k+1) 0) a=true/\Pb (ts.getD k 0) (ts.getD (k+1) 0) b=true
 | 0,_,k,e=>absurd e (cI k)
 | n+1,h,k,e=>by
  have f:Hf ts a b (n+1)=(Hf ts a b n && (Pb (ts.getD n 0) (ts.getD (n+1) 0) a && Pb (ts.getD n 0) (ts.getD (n+1) 0) b)):=rfl;rw [f,aO,aO]at h;rcases bM.1 e with d|d
  .exact Ztc h.1 k d
  .subst d;exact h.2
theorem Zxa {ps:List Zi}  (l:∀g∈ps,Gin g) (b:Yt ps=true) (d:Mm ps t=true) (r:exO ps t=1) {j:Nat} (o:j<ps.length) {T a:Int} (t1:T<=t) (t2:t<=a) (t3:T<a) (F:(ps.getD j G0).1.1<=T) (H:a<=(ps.getD j G0).1.2.1)
    (w:Prt q (ps.getD j G0) G) (x:q.1.1=T) (y:q.1.2.1=a)  (hi:i<3) :
  spX q i (((t-T:Int):Rat)/((a-T:Int):Rat))=(exN ps t i:Rat)*(q.1.2.2:Rat):=by
 have f:=Zb6 b d;have sg:∀k,k<ps.length->SgG (ps.getD k G0):=λk p=>Nx (l _ (Ze p)) (Lm ((Yz b).1 _ p));have n:=sg j o;have D:=n.t2;have e:sTm (ps.getD j G0) t*(((ps.getD j G0).1.2.1-(ps.getD j G0).1.1:Int):Rat)=((q.1.1-(ps.getD j G0).1.1:Int):Rat)+((q.1.2.1-q.1.1:Int):Rat)*(((t-T:Int):Rat)/((a-T:Int):Rat)):=by rw [x,y];unfold sTm;rw [gW (by exact_mod_cast (show(ps.getD j G0).1.2.1-(ps.getD j G0).1.1≠0 by omega)),jN ((a-T:Int):Rat),gW (by exact_mod_cast (show a-T≠0 by omega))];push_cast;grind
 have z:=Ymu w e;have B:=SmP_ex l b d o O1 O1;have I:=(z.trans (ov_ne n) B.symm) i hi;have m:=Yf7 l b d hi;have s:(exA ps t:Rat)/(exD ps t:Rat)=sTm (ps.getD (Nd ps t) G0) t:=rfl;rw [s,r]at m;have m:(exN ps t i:Rat)*((ps.getD (Nd ps t) G0).1.2.2:Rat)=((1:Int):Rat)*spX (ps.getD (Nd ps t) G0) i (sTm (ps.getD (Nd ps t) G0) t):=m;have v:=ov_ne (sg _ f);have:(spX q i (((t-T:Int):Rat)/((a-T:Int):Rat))-(exN ps t i:Rat)*(q.1.2.2:Rat))*((ps.getD (Nd ps t) G0).1.2.2:Rat)=0:=O5;rcases dJ.1 this with k|k
 .grind
 .exact absurd k v
theorem fv_pts {D n d a b f g j l m:Int} {x y z s v w:List Int}  (R:ov≠0) (p:a≠0)
  (B:Zb x u=(b:Rat)*(ov:Rat)) (F:Zb y u=(f:Rat)*(ov:Rat)) (H:Zb z u=(g:Rat)*(ov:Rat)) (I:Zb s u=(j:Rat)*(a:Rat)) (M:Zb v u=(l:Rat)*(a:Rat)) (N:Zb w u=(m:Rat)*(a:Rat))
  (h:0<=fvE D n d ov a x y z s v w u):Yah b f g j l m D n d=true:=by
 unfold Yah;refine aM (oQ.1 λQ=>?_);have Y:((b:Rat)-j)*d*(((b:Rat)-j)*d)+((f:Rat)-l)*d*(((f:Rat)-l)*d)+((g:Rat)-m)*n*(((g:Rat)-m)*n)<(D:Rat)*d*((D:Rat)*d):=by exact_mod_cast Q
 have o:(ov:Rat)*(a:Rat)≠0:=by
  intro e;rcases dJ.1 e with k|k
  .exact R (by exact_mod_cast k)
  .exact p (by exact_mod_cast k)
 have r:0<((ov:Rat)*(a:Rat))*((ov:Rat)*(a:Rat)):=by have S:=Yco ((ov:Rat)*(a:Rat));refine oR.1 λV=>?_;have P:((ov:Rat)*(a:Rat))*((ov:Rat)*(a:Rat))=0:=O5;rcases dJ.1 P with k|k<;>exact o k
 have W:=aT r (show 0<(D:Rat)*d*((D:Rat)*d)-(((b:Rat)-j)*d*(((b:Rat)-j)*d)+((f:Rat)-l)*d*(((f:Rat)-l)*d)+((g:Rat)-m)*n*(((g:Rat)-m)*n)) by grind);unfold fvE dfA at h;rw [B,F,H,I,M,N]at h;grind
theorem pts_ok {D n d:Int} {a b:List Zi}  (o:∀g∈a,Gin g) (p:∀g∈b,Gin g) (l:Yt a=true) (m:Yt b=true) (la:Mm a t=true) (lb:Mm b t=true) (oa:exO a t=1) (ob:exO b t=1)
  (V:∀g∈Nz D n d a b,Cvd g.2.2) (hc:Bw a b<Bv a b) (h:Bz D n d a b=true) :
  Yah (exN a t 0) (exN a t 1) (exN a t 2) (exN b t 0) (exN b t 1) (exN b t 2) D n d=true:=by
 obtain⟨S,hf⟩:=(Zen V).1 h;have H:Fq a b=0:=by
  unfold Fa at S;split at S
  .rename_i M;unfold Fq at M;rw [aE O1]at M;split at M<;>cases M
  .exact S
 obtain⟨-,hK⟩:=Yhf H;have B:=bks hc;have b7:=B.two;have eR:∀ps,Ow a b ps=Ba (Oc a b) ps ((Oc a b).length-1):=λps=>aH H;have kk:=Ztc hK;have ga:∀k,k+1<(Oc a b).length->∃j,j<a.length/\(a.getD j G0).1.1<=(Oc a b).getD k 0/\(Oc a b).getD (k+1) 0<=(a.getD j G0).1.2.1:=λk e=>by obtain⟨r,f,s⟩:=B.lt k e;unfold Bw at r;unfold Bv at s;exact Yc9 o l O1 f O1 λg v=>B.no k e g (.inl v)
 have gb:∀k,k+1<(Oc a b).length->∃j,j<b.length/\(b.getD j G0).1.1<=(Oc a b).getD k 0/\(Oc a b).getD (k+1) 0<=(b.getD j G0).1.2.1:=λk e=>by obtain⟨r,f,s⟩:=B.lt k e;unfold Bw at r;unfold Bv at s;exact Yc9 p m O1 f O1 λg v=>B.no k e g (.inr v)
 have ca:∀k j,k+1<(Oc a b).length->j<a.length->(a.getD j G0).1.1<=(Oc a b).getD k 0->(Oc a b).getD (k+1) 0<=(a.getD j G0).1.2.1->_:=λk j e w W Y=>by obtain⟨r,f,s⟩:=B.lt k e;unfold Bw at r;unfold Bv at s;exact Zyr o l O1 f O1 (λg v=>B.no k e g (.inl v)) (kk k O1).1 w W Y
 have cb:∀k j,k+1<(Oc a b).length->j<b.length->(b.getD j G0).1.1<=(Oc a b).getD k 0->(Oc a b).getD (k+1) 0<=(b.getD j G0).1.2.1->_:=λk j e w W Y=>by obtain⟨r,f,s⟩:=B.lt k e;unfold Bw at r;unfold Bv at s;exact Zyr p m O1 f O1 (λg v=>B.no k e g (.inr v)) (kk k O1).2 w W Y
 have I:∃(x y:Nat->Nat),∀k,k+1<(Oc a b).length->(x k<a.length/\(a.getD (x k) G0).1.1<=(Oc a b).getD k 0/\(Oc a b).getD (k+1) 0<=(a.getD (x k) G0).1.2.1)/\(y k<b.length/\(b.getD (y k) G0).1.1<=(Oc a b).getD k 0/\(Oc a b).getD (k+1) 0<=(b.getD (y k) G0).1.2.1):=by refine⟨λk=>if e:k+1<(Oc a b).length then Classical.choose (ga k e)else 0,λk=>if e:k+1<(Oc a b).length then Classical.choose (gb k e)else 0,λk e=>?_⟩;simp only [e,dif_pos];exact⟨kL (ga k e),kL (gb k e)⟩
 obtain⟨x,y,w⟩:=I;obtain⟨-,-,hz⟩:=Zne (ts:=Oc a b) (a:=a) (b:=b) (ua:=λk=>Zh5 ((Oc a b).getD k 0) ((Oc a b).getD (k+1) 0) (a.getD (x k) G0)) (ub:=λk=>Zh5 ((Oc a b).getD k 0) ((Oc a b).getD (k+1) 0) (b.getD (y k) G0)) ((Oc a b).length-1) (λk e=>by obtain⟨⟨z,N,P⟩,F,Q,R⟩:=w k O1;exact⟨(ca k _ O1 z N P).1,(cb k _ O1 F Q R).1⟩)
 have l1:=Zku la;have l2:=Zku lb;obtain⟨k,e,k1,k2⟩:=btw (ts:=Oc a b) (t:=t) (by rw [B.hd];unfold Bw;omega) ((Oc a b).length-1) O1 (by rw [B.ls];unfold Bv;omega);obtain⟨⟨z,N,P⟩,F,Q,R⟩:=w k O1;obtain⟨-,Z,a0,a1,a2⟩:=ca k _ O1 z N P;obtain⟨-,a3,a4,a5,a6⟩:=cb k _ O1 F Q R;obtain⟨-,f,-⟩:=B.lt k O1;have b3:=Lm ((Yz l).1 _ z);have b4:=Lm ((Yz m).1 _ F);obtain⟨a7,a8,a9⟩:=Zpv (q:=mkS (Zh5 ((Oc a b).getD k 0) ((Oc a b).getD (k+1) 0) (a.getD (x k) G0))) (o _ (Ze z)) b3 Z a0 rfl;obtain⟨b0,b1,b2⟩:=Zpv (q:=mkS (Zh5 ((Oc a b).getD k 0) ((Oc a b).getD (k+1) 0) (b.getD (y k) G0))) (p _ (Ze F)) b4 a3 a4 rfl;have za:=λ(i:Nat) (hi:i<3)=>Zxa o l la oa z k1 k2 f N P a9 a1 a2 hi;have zb:=λ(i:Nat) (hi:i<3)=>Zxa p m lb ob F k1 k2 f Q R b2 a5 a6 hi;have b5:=(Nx a7 a8).o1;have b6:=(Nx b0 b1).o1;obtain⟨s0,s1⟩:=Ygr (a:=t-(Oc a b).getD k 0) (d:=(Oc a b).getD (k+1) 0-(Oc a b).getD k 0) O1 O1 O1;have hv:=hf _ _ (by rw [eR,eR];exact hz k e) _ s0 s1;exact fv_pts O1 O1 (za 0 O4) (za 1 O4) (za 2 O4) (zb 0 O4) (zb 1 O4) (zb 2 O4) hv
def cvZ{D n d:Int}{a b:List Zi}(j:∀g∈a,Gin g)(k:∀g∈b,Gin g)(e:Yt a=true)(f:Yt b=true)(l:znB D n d=true):∀g∈Nz D n d a b,Cvd g.2.2:=Yg5 j k e f l (Zhe (Ow a b a)) (Zhe (Ow a b b))
def cvS{D:Int}{a b:List Zi}(f:∀g∈a,Gin g)(j:∀g∈b,Gin g)(d:Yt a=true)(e:Yt b=true)(k:dsB D=true):∀g∈Nz D 1 1 a b,Cvd g.2.2:=Yg4 f j d e k (Zhe (Ow a b a)) (Zhe (Ow a b b))
theorem Zv6{D n d:Int}(h:znB D n d=true):dsB D=true:=by obtain⟨b,a,-⟩:=Ziz h;unfold dsB;rw [aM (show 0<=D by omega),aM a];rfl
theorem Zqk{D n d:Int}(h:znB D n d=true):znB D d d=true:=by obtain⟨a,b,f,g,e⟩:=Ziz h;exact aM ⟨a,b,O1,O1,e⟩
section
variable {D n d:Int} {a b:List Zi} (hpa:∀g∈a,Gin g) (hpb:∀g∈b,Gin g) (hba:Yt a=true) (hbb:Yt b=true) (hz:znB D n d=true)
include hpa hpb hba hbb hz
theorem Yfj:Bz D n d b a=Bz D n d a b:=(ap_sym (cvZ hpa hpb hba hbb hz) (cvZ hpb hpa hbb hba hz)).symm
theorem Zo6:Bz D 1 1 a b=Bz D d d a b:=by obtain⟨e,f,j,k,l⟩:=Ziz hz;exact(Ymt O1 (cvZ hpa hpb hba hbb (Zqk hz)) (cvS hpa hpb hba hbb (Zv6 hz))).symm
theorem h_ft(h:Bz D n d a b=true):Bz D 1 1 a b=true:=by obtain⟨e,f,j,k,l⟩:=Ziz hz;rw [Zo6 hpa hpb hba hbb hz];exact Zqf (cvZ hpa hpb hba hbb hz) (cvZ hpa hpb hba hbb (Zqk hz)) O1 O1 O1 O1 h
theorem h_less{l:Int}(m:l>=0)(o:l<D)(h:Bz D n d a b=true):znB (D-l) n d=true/\Bz (D-l) n d a b=true:=by obtain⟨p,r,f,j,k⟩:=Ziz hz;have e:znB (D-l) n d=true:=aM ⟨O1,O1,f,j,k⟩;exact⟨e,Zqf (cvZ hpa hpb hba hbb hz) (cvZ hpa hpb hba hbb e) O1 O1 O1 (eO _) h⟩
theorem h_num{m:Int}(f:m>=n)(j:m<=d)(h:Bz D n d a b=true):znB D m d=true/\Bz D m d a b=true:=by obtain⟨k,l,p,r,o⟩:=Ziz hz;have e:znB D m d=true:=aM ⟨k,l,O1,j,o⟩;exact⟨e,Zqf (cvZ hpa hpb hba hbb hz) (cvZ hpa hpb hba hbb e) O1 (eO _) O1 f h⟩
theorem h_pts(j:Mm a t=true)(k:Mm b t=true)(e:exO a t=1)(f:exO b t=1)(l:¬min (spL a) (spL b)<=max (spF a) (spF b))(h:Bz D n d a b=true) :
  Yah (rdN a t 0) (rdN a t 1) (rdN a t 2) (rdN b t 0) (rdN b t 1) (rdN b t 2) D n d=true:=by
 rw [Ca e,Ca e,Ca e,Ca f,Ca f,Ca f];exact pts_ok hpa hpb hba hbb j k e f (cvZ hpa hpb hba hbb hz) (by unfold Bw Bv;omega) h
end
theorem pt_rd{a:List Zi}(j:∀g∈a,Gin g)(f:Yt a=true)(k:Mm a t=true)(e:exO a t=1):ptB (rdN a t 0) (rdN a t 1) (rdN a t 2)=true:=by rw [Ca e,Ca e,Ca e];obtain⟨o,p⟩:=Zu5 j f k e (i:=0) O4;obtain⟨r,s⟩:=Zu5 j f k e (i:=1) O4;obtain⟨l,m⟩:=Zu5 j f k e (i:=2) O4;unfold ptB Zux;simp only [mG,List.all_nil,Bool.and_true,aO,cK];exact⟨⟨o,p⟩,⟨r,s⟩,l,m⟩
theorem cm5{a b c d e:Bool}(h:¬(a=true/\b=true/\c=true/\d=true/\e=true)):a=false\/(a=true/\b=false)\/(a=true/\b=true/\c=false)\/(a=true/\b=true/\c=true/\d=false)\/(a=true/\b=true/\c=true/\d=true/\e=false):=by cases a<;>cases b<;>cases c<;>cases d<;>cases e<;>simp_all
theorem Yb4(a b:Bool)(p:Prop):a=false\/(a=true/\b=false)\/(a=true/\b=true/\p)\/(a=true/\b=true/\¬p):=by cases a<;>cases b<;>simp_all [Classical.em]
theorem gapE_7{a b:List Zi}(h:Fa a b≠0):Fa a b=7:=by unfold Fa at h ⊢;rcases Zvj a b with e|e|e<;>rw [e]at h ⊢<;>simp_all
end Go.Sky
namespace Go.Sky
open Go.Proofs.Tryz
open Go.Proofs
set_option synthInstance.maxHeartbeats 0
set_option synthInstance.maxSize 100000
set_option maxRecDepth 20000
set_option maxHeartbeats 1000000
set_option linter.unusedSimpArgs false
def Zuw(m n:Value)(f h:List Zi)(o q p s u t:Int)(j:∀g∈f,Gin g)(k:∀g∈h,Gin g)(r:¬(Zaz f 3=true/\Zaz h 3=true/\Yt f=true/\Yt h=true/\znB o q p=true)):Xo prog 12 #[m,n,.agg #[.int .i64 o,.int .i64 q,.int .i64 p],.int .i64 s,.int .i64 u,.int .i64 t] [Qc 6 Pd qG m f,Qc 6 Pd qG n h] (.bool true):=by
 refine Zf func12 ntmps12 λy x w e=>go 2 ?_;refine Yh (Yi 3) λv _=>go 5 ?_;rcases cm5 r with a|⟨a,c⟩|⟨a,c,d⟩|⟨a,c,d,i⟩|⟨a,c,d,i,l⟩
 .refine go 2 ?_;refine cl 3 [1] (Ks _ f 3) λ_ _=>?_;refine dt (dT (Yb J J) (aK (λb=>Value.bool (!b)) a))<|go 25 ?_;refine cl 3 [] (Mw) λ_ _=>go 5 ?_;exact Xj e () results12 J aA Za
 .refine go 2 ?_;refine cl 3 [1] (Ks _ f 3) λ_ _=>?_;refine dt (dF (Yb J J) (aK (λb=>Value.bool (!b)) a))<|go 2 ?_;refine Kl 3 [2] (Ks _ h 3) λ_ _=>?_;refine Kv (dT (Yb J J) (aK (λb=>Value.bool (!b)) c)) J J<|go 21 ?_;refine cl 3 [] (Mw) λ_ _=>go 5 ?_;exact Xj e () results12 J aA Za
 .refine go 2 ?_;refine cl 3 [1] (Ks _ f 3) λ_ _=>?_;refine dt (dF (Yb J J) (aK (λb=>Value.bool (!b)) a))<|go 2 ?_;refine Kl 3 [2] (Ks _ h 3) λ_ _=>?_;refine Kv (dF (Yb J J) (aK (λb=>Value.bool (!b)) c)) J J<|go 3 ?_;refine Kl 3 [1] (Py _ _ j) λ_ _=>?_;refine Kv (dT (Yb J J) (aK (λb=>Value.bool (!b)) d)) J J<|go 16 ?_;refine cl 3 [] (Mw) λ_ _=>go 5 ?_;exact Xj e () results12 J aA Za
 .refine go 2 ?_;refine cl 3 [1] (Ks _ f 3) λ_ _=>?_;refine dt (dF (Yb J J) (aK (λb=>Value.bool (!b)) a))<|go 2 ?_;refine Kl 3 [2] (Ks _ h 3) λ_ _=>?_;refine Kv (dF (Yb J J) (aK (λb=>Value.bool (!b)) c)) J J<|go 3 ?_;refine Kl 3 [1] (Py _ _ j) λ_ _=>?_;refine Kv (dF (Yb J J) (aK (λb=>Value.bool (!b)) d)) J J<|go 3 ?_;refine Kl 3 [2] (Py _ _ k) λ_ _=>?_;refine Kv (dT (Yb J J) (aK (λb=>Value.bool (!b)) i)) J J<|go 11 ?_;refine cl 3 [] (Mw) λ_ _=>go 5 ?_;exact Xj e () results12 J aA Za
 .refine go 2 ?_;refine cl 3 [1] (Ks _ f 3) λ_ _=>?_;refine dt (dF (Yb J J) (aK (λb=>Value.bool (!b)) a))<|go 2 ?_;refine Kl 3 [2] (Ks _ h 3) λ_ _=>?_;refine Kv (dF (Yb J J) (aK (λb=>Value.bool (!b)) c)) J J<|go 3 ?_;refine Kl 3 [1] (Py _ _ j) λ_ _=>?_;refine Kv (dF (Yb J J) (aK (λb=>Value.bool (!b)) d)) J J<|go 3 ?_;refine Kl 3 [2] (Py _ _ k) λ_ _=>?_;refine Kv (dF (Yb J J) (aK (λb=>Value.bool (!b)) i)) J J<|go 3 ?_;refine Kl 3 [] (Zct _ _ _) λ_ _=>?_;refine Kv (dT (Yb J J) (aK (λb=>Value.bool (!b)) l)) J J<|go 6 ?_;refine cl 3 [] (Mw) λ_ _=>go 5 ?_;exact Xj e () results12 J aA Za
def Zuv(H I:Value)(k l:List Zi)(q u p P Q t:Int)(i:∀g∈k,Gin g)(j:∀g∈l,Gin g)(r:Zaz k 3=true)(s:Zaz l 3=true)(e:Yt k=true)(f:Yt l=true)(c:znB q u p=true)(v:Fa k l≠0):Xo prog 12 #[H,I,.agg #[.int .i64 q,.int .i64 u,.int .i64 p],.int .i64 P,.int .i64 Q,.int .i64 t] [Qc 6 Pd qG H k,Qc 6 Pd qG I l] (.bool true):=by refine Zf func12 ntmps12 λW V S B=>?_;have m:k.length<=5:=aB (Zg4 r) O4;have o:l.length<=5:=aB (Zg4 s) O4;have G:=Zqk c;have y:=Zv6 c;have F:=Yfj i j e f c;have N:=Zo6 i j e f c;have z:=Zfw k l;obtain⟨Y,Z,z3,z4,z5⟩:=Ziz c;have x:=ap_e (D:=q) (n:=u) (d:=p) v;have M:=gapE_7 v;refine go 2 ?_;refine Yh (Yi 3) λR _=>go 7 ?_;refine cl 3 [1] (Ks _ k 3) λ_ _=>?_;refine dt (dF (Yb J J) (aK (λb=>Value.bool (!b)) r))<|go 2 ?_;refine Kl 3 [2] (Ks _ l 3) λ_ _=>?_;refine Kv (dF (Yb J J) (aK (λb=>Value.bool (!b)) s)) J J<|go 3 ?_;refine Kl 3 [1] (Py _ _ i) λ_ _=>?_;refine Kv (dF (Yb J J) (aK (λb=>Value.bool (!b)) e)) J J<|go 3 ?_;refine Kl 3 [2] (Py _ _ j) λ_ _=>?_;refine Kv (dF (Yb J J) (aK (λb=>Value.bool (!b)) f)) J J<|go 3 ?_;refine Kl 3 [] (Zct _ _ _) λ_ _=>?_;refine Kv (dF (Yb J J) (aK (λb=>Value.bool (!b)) c)) J J<|go 11 ?_;refine cl 3 [1,2] (Ki _ _ k l q u p i j e f m o c) λ_ _=>go 12 ?_;refine cl 3 [2,1] (Ki _ _ l k q u p j i f e o m c) λ_ _=>go 13 ?_;refine cl 3 [1,2] (Zjq _ _ _ _ _ i j e f m o y) λ_ _=>go 17 ?_;refine dt (Qa (ivs:=[(0,_),(1,_),(2,_)]) J K6 (λa w hs=>Za5 ((Zr J) a w hs) ((Zr J) a w hs) ((Zr J) a w hs)))<|cl 3 [1,2] (Ki _ _ k l q p p i j e f m o G) λ_ _=>go 12 ?_;refine kf (aJ (λh=>h z))<|go 3 ?_;refine kfg (aJ (λh=>h J))<|go 4 ?_;refine kfg (aJ (λh=>h J))<|go 4 ?_;refine kfg (by rw [F];simp)<|go 3 ?_;refine ktg (aM v)<|go 2 ?_;refine kfg (aJ (λh=>h M))<|go 11 ?_;refine kt (aM v)<|go 6 ?_;refine dt (dT (Yb J J) (aK (λb=>Value.bool (!b)) x))<|go 1 ?_;refine Kl 3 [] (Mw) λ_ _=>go 6 ?_;exact Xj B () results12 J aA Za
def Yaz(F G:Value)(j k:List Zi)(o s n H I t:Int)(f:∀g∈j,Gin g)(i:∀g∈k,Gin g)(q:Zaz j 3=true)(r:Zaz k 3=true)(d:Yt j=true)(e:Yt k=true)(c:znB o s n=true)(D:Fa j k=0)(p:Bz o s n j k=false):Xo prog 12 #[F,G,.agg #[.int .i64 o,.int .i64 s,.int .i64 n],.int .i64 H,.int .i64 I,.int .i64 t] [Qc 6 Pd qG F j,Qc 6 Pd qG G k] (.bool true):=by refine Zf func12 ntmps12 λQ P N y=>?_;have l:j.length<=5:=aB (Zg4 q) O4;have m:k.length<=5:=aB (Zg4 r) O4;have B:=Zqk c;have u:=Zv6 c;have z:=Yfj f i d e c;have v:=Zo6 f i d e c;have x:=Zfw j k;obtain⟨R,S,V,W,Y⟩:=Ziz c;refine go 2 ?_;refine Yh (Yi 3) λM _=>go 7 ?_;refine cl 3 [1] (Ks _ j 3) λ_ _=>?_;refine dt (dF (Yb J J) (aK (λb=>Value.bool (!b)) q))<|go 2 ?_;refine Kl 3 [2] (Ks _ k 3) λ_ _=>?_;refine Kv (dF (Yb J J) (aK (λb=>Value.bool (!b)) r)) J J<|go 3 ?_;refine Kl 3 [1] (Py _ _ f) λ_ _=>?_;refine Kv (dF (Yb J J) (aK (λb=>Value.bool (!b)) d)) J J<|go 3 ?_;refine Kl 3 [2] (Py _ _ i) λ_ _=>?_;refine Kv (dF (Yb J J) (aK (λb=>Value.bool (!b)) e)) J J<|go 3 ?_;refine Kl 3 [] (Zct _ _ _) λ_ _=>?_;refine Kv (dF (Yb J J) (aK (λb=>Value.bool (!b)) c)) J J<|go 11 ?_;refine cl 3 [1,2] (Ki _ _ j k o s n f i d e l m c) λ_ _=>go 12 ?_;refine cl 3 [2,1] (Ki _ _ k j o s n i f e d m l c) λ_ _=>go 13 ?_;refine cl 3 [1,2] (Zjq _ _ _ _ _ f i d e l m u) λ_ _=>go 17 ?_;refine dt (Qa (ivs:=[(0,_),(1,_),(2,_)]) J K6 (λa w hs=>Za5 ((Zr J) a w hs) ((Zr J) a w hs) ((Zr J) a w hs)))<|cl 3 [1,2] (Ki _ _ j k o n n f i d e l m B) λ_ _=>go 12 ?_;refine kf (aJ (λh=>h x))<|go 3 ?_;refine kfg (aJ (λh=>h J))<|go 4 ?_;refine kfg (aJ (λh=>h J))<|go 4 ?_;refine kfg (by rw [z];simp)<|go 3 ?_;refine kfg (aJ (λh=>h D))<|go 14 ?_;refine kf (aJ (λh=>h D))<|go 10 ?_;refine kf (by rw [v];simp)<|go 1 ?_;refine kfg p<|go 14 ?_;refine dt (dT (Yb J J) (aK (λb=>Value.bool (!b)) p))<|go 5 ?_;refine cl 3 [] (Mw) λ_ _=>go 5 ?_;exact Xj y () results12 J aA Za
def Zuu(va vb:Value)(m n:List Zi)(F H u le nm t:Int)(f:∀g∈m,Gin g)(i:∀g∈n,Gin g)(I:Zaz m 3=true)(M:Zaz n 3=true)(c:Yt m=true)(e:Yt n=true)(j:znB F H u=true)(Q:Fa m n=0)(o:Bz F H u m n=true):Xo prog 12 #[va,vb,.agg #[.int .i64 F,.int .i64 H,.int .i64 u],.int .i64 le,.int .i64 nm,.int .i64 t] [Qc 6 Pd qG va m,Qc 6 Pd qG vb n] (.bool true):=by
 refine Zf func12 ntmps12 λw0 sc hw r=>?_;have p:m.length<=5:=aB (Zg4 I) O4;have q:n.length<=5:=aB (Zg4 M) O4;have a2:=Zqk j;have R:=Zv6 j;have a1:=Yfj f i c e j;have S:=Zo6 f i c e j;have W:=Zfw m n;obtain⟨z1,z2,z3,z4,z5⟩:=Ziz j;have V:=h_ft f i c e j o;refine go 2 ?_;refine Yh (Yi 3) λbx _=>go 7 ?_;refine cl 3 [1] (Ks _ m 3) λ_ _=>?_;refine dt (dF (Yb J J) (aK (λb=>Value.bool (!b)) I))<|go 2 ?_;refine Kl 3 [2] (Ks _ n 3) λ_ _=>?_;refine Kv (dF (Yb J J) (aK (λb=>Value.bool (!b)) M)) J J<|go 3 ?_;refine Kl 3 [1] (Py _ _ f) λ_ _=>?_;refine Kv (dF (Yb J J) (aK (λb=>Value.bool (!b)) c)) J J<|go 3 ?_;refine Kl 3 [2] (Py _ _ i) λ_ _=>?_;refine Kv (dF (Yb J J) (aK (λb=>Value.bool (!b)) e)) J J<|go 3 ?_;refine Kl 3 [] (Zct _ _ _) λ_ _=>?_;refine Kv (dF (Yb J J) (aK (λb=>Value.bool (!b)) j)) J J<|go 11 ?_;refine cl 3 [1,2] (Ki _ _ m n F H u f i c e p q j) λ_ _=>go 12 ?_;refine cl 3 [2,1] (Ki _ _ n m F H u i f e c q p j) λ_ _=>go 13 ?_;refine cl 3 [1,2] (Zjq _ _ _ _ _ f i c e p q R) λ_ _=>go 17 ?_;refine dt (Qa (ivs:=[(0,_),(1,_),(2,_)]) J K6 (λa w hs=>Za5 ((Zr J) a w hs) ((Zr J) a w hs) ((Zr J) a w hs)))<|cl 3 [1,2] (Ki _ _ m n F u u f i c e p q a2) λ_ _=>go 12 ?_;refine kf (aJ (λh=>h W))<|go 3 ?_;refine kfg (aJ (λh=>h J))<|go 4 ?_;refine kfg (aJ (λh=>h J))<|go 4 ?_;refine kfg (by rw [a1];simp)<|go 3 ?_;refine kfg (aJ (λh=>h Q))<|go 14 ?_;refine kf (aJ (λh=>h Q))<|go 10 ?_;refine kf (by rw [S];simp)<|go 1 ?_;refine ktg o<|go 2 ?_;refine Kv (dF (Yb J J) (aK (λb=>Value.bool (!b)) V)) J J<|go 11 ?_;refine dt (dF (Yb J J) (aK (λb=>Value.bool (!b)) o))<|go 5 ?_;refine jn (G:=Unit) [0,1,4,5,8] [0,1,2,3] (λ_=>[]) (λ_=>[]) (λ_=>True) ?_ ?_
 .refine go 5 ?_;refine Yl (d:=138) J (λz=>?_) (λz=>?_)
  .have h4:=z;refine go 7 ?_;refine Zc J (λv=>?_) (λv=>?_)
   .have h6:=v;obtain⟨a3,Y⟩:=h_less f i c e j h4 h6 o;refine go 12 ⟨O1,?_⟩;refine dt (Qa (ivs:=[(0,_),(1,_),(2,_)]) J K6 (λa w hs=>Za5 ((Zr J) a w hs) ((Zr J) a w hs) ((Zr J) a w hs)))<|cl 3 [1,2] (Ki _ _ m n (F-le) H u f i c e p q a3) λ_ _=>go 10 ?_;refine kf (aJ (λh=>h Q))<|go 2 ?_;refine Kv (dF (Yb J J) (aK (λb=>Value.bool (!b)) Y)) J J<|go 5 ?_;exact Oj () aA aA aA
   .refine go 1 ?_;exact Oj () aA aA aA
  .refine go 9 ?_;exact Oj () aA aA aA
 .rintro _ -;refine jn (G:=Unit) [0,1,5,8] [0,1,2,3] (λ_=>[]) (λ_=>[]) (λ_=>True) ?_ ?_
  .refine go 7 ?_;refine Yl (d:=169) J (λB=>?_) (λB=>?_)
   .have h5:=B;refine go 7 ?_;refine Zc J (λx=>?_) (λx=>?_)
    .have h8:=x;obtain⟨a4,Z⟩:=h_num f i c e j h5 h8 o;refine go 9 ?_;refine dt (Qa (ivs:=[(0,_),(1,_),(2,_)]) J K6 (λa w hs=>Za5 ((Zr J) a w hs) ((Zr J) a w hs) ((Zr J) a w hs)))<|cl 3 [1,2] (Ki _ _ m n F nm u f i c e p q a4) λ_ _=>go 10 ?_;refine kf (aJ (λh=>h Q))<|go 2 ?_;refine Kv (dF (Yb J J) (aK (λb=>Value.bool (!b)) Z)) J J<|go 5 ?_;exact Oj () aA aA aA
    .refine go 1 ?_;exact Oj () aA aA aA
   .refine go 9 ?_;exact Oj () aA aA aA
  .rintro _ -;refine go 2 ?_;rcases Yb4 (Mm m t) (Mm n t) (min (spL m) (spL n)<=max (spF m) (spF n))with k|⟨k,l⟩|⟨k,l,s⟩|⟨k,l,s⟩
   .refine go 3 ?_;refine cl 3 [1] (Ei _ _ _ (Yz c).2.1) λ_ _=>?_;refine dt (dT (Yb J J) (aK (λb=>Value.bool (!b)) k))<|go 24 ?_;refine cl 3 [] (Mw) λ_ _=>go 5 ?_;exact Xj r () results12 J aA Za
   .refine go 3 ?_;refine cl 3 [1] (Ei _ _ _ (Yz c).2.1) λ_ _=>?_;refine dt (dF (Yb J J) (aK (λb=>Value.bool (!b)) k))<|go 3 ?_;refine Kl 3 [2] (Ei _ _ _ (Yz e).2.1) λ_ _=>?_;refine Kv (dT (Yb J J) (aK (λb=>Value.bool (!b)) l)) J J<|go 19 ?_;refine cl 3 [] (Mw) λ_ _=>go 5 ?_;exact Xj r () results12 J aA Za
   .refine go 3 ?_;refine cl 3 [1] (Ei _ _ _ (Yz c).2.1) λ_ _=>?_;refine dt (dF (Yb J J) (aK (λb=>Value.bool (!b)) k))<|go 3 ?_;refine Kl 3 [2] (Ei _ _ _ (Yz e).2.1) λ_ _=>?_;refine Kv (dF (Yb J J) (aK (λb=>Value.bool (!b)) l)) J J<|go 3 ?_;refine Kl 3 [1] (Zfe _ _ (Yz c).2.1) λ_ _=>go 1 ?_;refine Kl 3 [2] (Zfe _ _ (Yz e).2.1) λ_ _=>?_;refine Kv (Zym J J J) J J<|go 1 ?_;refine Kl 3 [1] (Au _ _ (Yz c).2.1) λ_ _=>go 1 ?_;refine Kl 3 [2] (Au _ _ (Yz e).2.1) λ_ _=>?_;refine Kv (Zdu J J J) J J<|ktg (aM s)<|go 6 ?_;refine cl 3 [] (Mw) λ_ _=>go 5 ?_;exact Xj r () results12 J aA Za
   .refine go 3 ?_;refine cl 3 [1] (Ei _ _ _ (Yz c).2.1) λ_ _=>?_;refine dt (dF (Yb J J) (aK (λb=>Value.bool (!b)) k))<|go 3 ?_;refine Kl 3 [2] (Ei _ _ _ (Yz e).2.1) λ_ _=>?_;refine Kv (dF (Yb J J) (aK (λb=>Value.bool (!b)) l)) J J<|go 3 ?_;refine Kl 3 [1] (Zfe _ _ (Yz c).2.1) λ_ _=>go 1 ?_;refine Kl 3 [2] (Zfe _ _ (Yz e).2.1) λ_ _=>?_;refine Kv (Zym J J J) J J<|go 1 ?_;refine Kl 3 [1] (Au _ _ (Yz c).2.1) λ_ _=>go 1 ?_;refine Kl 3 [2] (Au _ _ (Yz e).2.1) λ_ _=>?_;refine Kv (Zdu J J J) J J<|kfg (aJ s)<|go 10 ?_;refine cl 3 [1] (sm_at _ _ _ f c k) λ_ _=>go 3 ?_;refine Yh (Zw 4) λa5 _=>go 8 ?_;refine cl 4 [2] (sm_at _ _ _ i e l) λ_ _=>go 3 ?_;refine Yh (Zw 5) λa6 _=>go 8 ?_;refine kf (aJ O4)<|go 2 ?_;refine kfg (aJ O4)<|go 11 ?_;refine cl 5 [1] (Zm7 _ _ _ f c k) λ_ _=>go 1 ?_;refine Zb0 (d:=238) J (λD=>?_) (λD=>?_)
    .have oa:=bL D;refine go 2 ?_;refine Kl 5 [2] (Zm7 _ _ _ i e l) λ_ _=>go 3 ?_;refine Mr J (λy=>?_) (λy=>?_)
     .have ob:=bL y;refine go 1 ?_;have N:=pt_rd f c k oa;have P:=pt_rd i e l ob;have a0:=h_pts f i c e j k l oa ob s o;refine go 4 ?_;refine cl 5 [] (Ygh _ _ _ _ _ _ _ _ _ N P j) λ_ _=>go 10 ?_;refine kf (aJ O4)<|go 2 ?_;refine Kv (dF (Yb J J) (aK (λb=>Value.bool (!b)) a0)) J J<|go 8 ?_;refine cl 5 [] (Mw) λ_ _=>go 4 ?_;exact Xj r () results12 J aA Za
     .refine go 4 ?_;refine cl 5 [] (Mw) λ_ _=>go 4 ?_;exact Xj r () results12 J aA Za
    .refine go 11 ?_;refine cl 5 [] (Mw) λ_ _=>go 4 ?_;exact Xj r () results12 J aA Za
def law_dh(n:Value)(a:List Zi)(o:Value)(b:List Zi)(k m l q r t:Int)(c:∀g∈a,Gin g)(d:∀g∈b,Gin g):Xo prog 12 #[n,o,.agg #[.int .i64 k,.int .i64 m,.int .i64 l],.int .i64 q,.int .i64 r,.int .i64 t] [Qc 6 Pd qG n a,Qc 6 Pd qG o b] (.bool true):=by
 by_cases u:Zaz a 3=true/\Zaz b 3=true/\Yt a=true/\Yt b=true/\znB k m l=true
 .obtain⟨h,i,e,f,j⟩:=u;by_cases s:Fa a b=0
  .by_cases p:Bz k m l a b=true
   .exact Zuu n o a b k m l q r t c d h i e f j s p
   .exact Yaz n o a b k m l q r t c d h i e f j s (Bool.eq_false_iff.2 p)
  .exact Zuv n o a b k m l q r t c d h i e f j s
 .exact Zuw n o a b k m l q r t c d u
end Go.Sky
namespace Go.Proofs.YteikicbnfbgpnaaGreat
open Go.ChangeShapes Go.WideShapes Go.ChangeAt Go.RowKit Go.Joins Go.Deep Go.Sky
def own:ownKnob Tryz.prog.godebug=none:=O6
def Zc5:laidOutB Tryz.prog=true:=O6
set_option maxRecDepth 100000 in
def lifted(os:Os)(g:os.Started)(H:Type)(enc:TypeId×Value->H) :
  ReturnsInHanded {} Tryz.checked os 12 .any (Rows.downwashHoldsSpec.pre6 enc Tryz.prog Tryz.f12 Rows.downwashHoldsRow.domain false) (Rows.downwashHoldsSpec.post enc Tryz.prog Tryz.f12 false true false false):=by
 refine returnsInHanded_of_change (C:=Tryz.checked) own g O6 Tryz.func12
  (ChangeSpec.witness6 (enc:=enc) (C:=Tryz.checked) false ⟨#[],#[.slice none 0 0,.slice none 0 0,.agg #[.int .i64 0,.int .i64 0,.int .i64 0],.int .i64 0,.int .i64 0,.int .i64 0],[]⟩ 8 O6 O6 O6 O6) ?_
 intro W i c ds gs n f hW a0 _;have a:∀(j:Nat) t v,Tryz.f12.params[j]? = some t->c[j]? = some v->Value.okWide Tryz.prog W .any i t v:=f;have u:=hW;obtain⟨p,q,k,hV,rfl,a7,a8⟩:=hW;have hA:DataW.TrodAll enc Tryz.prog W 0 (λ_=>true) true Tryz.f12.params.toList c.toList ds p:=k;rw [Tryz.params12]at hA a;obtain⟨Q,a9,d0,a1,p0,q0,w,rfl,rfl,o,r0⟩:=trodAll_cons hA;obtain⟨R,b0,d1,a2,p1,q1,rfl,rfl,rfl,r,r1⟩:=trodAll_cons r0;obtain⟨v2,b1,d2,a3,p2,q2,rfl,rfl,rfl,s,r2⟩:=trodAll_cons r1;obtain⟨v3,b2,d3,a4,p3,q3,rfl,rfl,rfl,Z,r3⟩:=trodAll_cons r2;obtain⟨v4,b3,d4,a5,p4,q4,rfl,rfl,rfl,h4,r4⟩:=trodAll_cons r3;obtain⟨v5,b4,d5,a6,p5,q5,rfl,rfl,rfl,h5,r5⟩:=trodAll_cons r4;obtain⟨rfl,rfl,rfl⟩:=trodAll_nil r5;obtain rfl:c=#[Q,R,v2,v3,v4,v5]:=by cases c;simp_all
 obtain⟨rfl,rfl⟩:=trodVars_none hV;have F:∀x∈p0,x.block<W.heap.size:=by obtain⟨m,d⟩:=o;exact DataW.trod_lt m _ _ _ d
 obtain⟨l0,y,B⟩:=Zm1 Tryz.underlying38 Tryz.underlying35 rfl rfl rfl rfl rfl rfl rfl rfl rfl rfl rfl rfl Tryz.underlying3 Tryz.underlying33 Tryz.underlying3 O6 O6 O6 O6 (a 0 38 Q rfl rfl) o;have G:∀x∈p1,x.block<W.heap.size:=by obtain⟨m,d⟩:=r;exact DataW.trod_lt m _ _ _ d
 obtain⟨l1,z,D⟩:=Zm1 Tryz.underlying38 Tryz.underlying35 rfl rfl rfl rfl rfl rfl rfl rfl rfl rfl rfl rfl Tryz.underlying3 Tryz.underlying33 Tryz.underlying3 O6 O6 O6 O6 (a 1 38 R rfl rfl) r;have I:∀x∈p2,x.block<W.heap.size:=by obtain⟨m,d⟩:=s;exact DataW.trod_lt m _ _ _ d
 obtain⟨S,V,Y,rfl,-,-,-⟩:=Zul Tryz.underlying25 O6 rfl rfl rfl rfl rfl rfl Tryz.underlying3 O6 (a 2 (25) v2 rfl rfl) s;have M:∀x∈p3,x.block<W.heap.size:=by obtain⟨m,d⟩:=Z;exact DataW.trod_lt m _ _ _ d
 obtain⟨n3,rfl⟩:=okWide_int Tryz.underlying3 (a 3 3 v3 rfl rfl);have N:∀x∈p4,x.block<W.heap.size:=by obtain⟨m,d⟩:=h4;exact DataW.trod_lt m _ _ _ d
 obtain⟨n4,rfl⟩:=okWide_int Tryz.underlying3 (a 4 3 v4 rfl rfl);have P:∀x∈p5,x.block<W.heap.size:=by obtain⟨m,d⟩:=h5;exact DataW.trod_lt m _ _ _ d
 obtain⟨n5,rfl⟩:=okWide_int Tryz.underlying3 (a 5 3 v5 rfl rfl);clear k f;refine(law_dh Q l0 R l1 S V Y n3 n4 n5 B D W (λp l=>by cases l with|head=>exact y|tail _ l=>cases l with|head=>exact z|tail _ l=>cases l)).mono λe W' ⟨_,he,_,b,_⟩=>?_;subst he;exact⟨_,rfl,_,_,_,[],_,[],u,trodAll_mk1 (shut_bool Tryz.underlying4 _),(trodAll_cons_mk (Below.trod Zc5 O6 (bL O6) o b F) (trodAll_cons_mk (Below.trod Zc5 O6 (bL O6) r b G) (trodAll_cons_mk (Below.trod Zc5 O6 (bL O6) s b I) (trodAll_cons_mk (Below.trod Zc5 O6 (bL O6) Z b M) (trodAll_cons_mk (Below.trod Zc5 O6 (bL O6) h4 b N) (trodAll_cons_mk (Below.trod Zc5 O6 (bL O6) h5 b P) trodAll_mk0)))))),rfl,b.frame _,λh=>by cases h⟩
theorem x_holds : Rows.DownwashHoldsSaid :=
 OpenClaim.holds_of_wide 12 Tryz.f12 rfl rfl rfl rfl rfl rfl rfl ⟨rfl,rfl,rfl,rfl,rfl⟩ rfl rfl rfl rfl rfl O6 Tryz.func12 closed
  (bL O6) (by unfold Func.isWrapper;first|(rw [aH O8];kernel_rfl)|(rw [aE O8];exact⟨rfl,rfl⟩))
  (λos started H enc _=>lifted os started H enc)
#print axioms x_holds
end Go.Proofs.YteikicbnfbgpnaaGreat

