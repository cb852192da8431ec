/- Rules, arithmetic and contracts: part 16. No conditions but those that each theorem names. -/
import Derived.Test.YtpmihempjefadaaGreatGa14
set_option linter.all false
set_option maxHeartbeats 4000000
namespace Go.Sky
variable{M x0 x1 x2 x3 ov G sp ac:Int}{c p xs:List Int}{q:Zl}{r:List Zl}{i:Nat}
def cgb0(b:0<=M)(a:-(M*1)<=(x0*1)/\(x0*1)<=M*1):(-(80*M)<=x0/\x0<=80*M):=O
theorem cgb1(d:0<=M)(a:-(M*1)<=(x0*1)/\(x0*1)<=M*1)(b:-(M*1)<=(x0*1+x1*1)/\(x0*1+x1*1)<=M*1):(-(80*M)<=x0/\x0<=80*M)/\(-(80*M)<=x1/\x1<=80*M):=by refine⟨⟨?_,?_⟩,⟨?_,?_⟩⟩<;>omega
theorem cgb2(e:0<=M)(a:-(M*1)<=(x0*1)/\(x0*1)<=M*1)(b:-(M*2)<=(x0*2+x1*1)/\(x0*2+x1*1)<=M*2)(d:-(M*1)<=(x0*1+x1*1+x2*1)/\(x0*1+x1*1+x2*1)<=M*1):(-(80*M)<=x0/\x0<=80*M)/\(-(80*M)<=x1/\x1<=80*M)/\(-(80*M)<=x2/\x2<=80*M):=by refine⟨⟨?_,?_⟩,⟨?_,?_⟩,⟨?_,?_⟩⟩<;>omega
theorem cgb3(f:0<=M)(a:-(M*1)<=(x0*1)/\(x0*1)<=M*1)(b:-(M*3)<=(x0*3+x1*1)/\(x0*3+x1*1)<=M*3)(d:-(M*3)<=(x0*3+x1*2+x2*1)/\(x0*3+x1*2+x2*1)<=M*3)(e:-(M*1)<=(x0*1+x1*1+x2*1+x3*1)/\(x0*1+x1*1+x2*1+x3*1)<=M*1):(-(80*M)<=x0/\x0<=80*M)/\(-(80*M)<=x1/\x1<=80*M)/\(-(80*M)<=x2/\x2<=80*M)/\(-(80*M)<=x3/\x3<=80*M):=by refine⟨⟨?_,?_⟩,⟨?_,?_⟩,⟨?_,?_⟩,⟨?_,?_⟩⟩<;>omega
theorem cgb4{a:Int}(h:0<=M)(b:-(M*1)<=(x0*1)/\(x0*1)<=M*1)(d:-(M*4)<=(x0*4+x1*1)/\(x0*4+x1*1)<=M*4)(e:-(M*6)<=(x0*6+x1*3+x2*1)/\(x0*6+x1*3+x2*1)<=M*6)(f:-(M*4)<=(x0*4+x1*3+x2*2+x3*1)/\(x0*4+x1*3+x2*2+x3*1)<=M*4)(g:-(M*1)<=(x0*1+x1*1+x2*1+x3*1+a*1)/\(x0*1+x1*1+x2*1+x3*1+a*1)<=M*1):(-(80*M)<=x0/\x0<=80*M)/\(-(80*M)<=x1/\x1<=80*M)/\(-(80*M)<=x2/\x2<=80*M)/\(-(80*M)<=x3/\x3<=80*M)/\(-(80*M)<=a/\a<=80*M):=by refine⟨⟨?_,?_⟩,⟨?_,?_⟩,⟨?_,?_⟩,⟨?_,?_⟩,⟨?_,?_⟩⟩<;>omega
theorem cgb5{a b:Int}(k:0<=M)(d:-(M*1)<=(x0*1)/\(x0*1)<=M*1)(e:-(M*5)<=(x0*5+x1*1)/\(x0*5+x1*1)<=M*5)(f:-(M*10)<=(x0*10+x1*4+x2*1)/\(x0*10+x1*4+x2*1)<=M*10)(g:-(M*10)<=(x0*10+x1*6+x2*3+x3*1)/\(x0*10+x1*6+x2*3+x3*1)<=M*10)(h:-(M*5)<=(x0*5+x1*4+x2*3+x3*2+a*1)/\(x0*5+x1*4+x2*3+x3*2+a*1)<=M*5)(j:-(M*1)<=(x0*1+x1*1+x2*1+x3*1+a*1+b*1)/\(x0*1+x1*1+x2*1+x3*1+a*1+b*1)<=M*1):(-(80*M)<=x0/\x0<=80*M)/\(-(80*M)<=x1/\x1<=80*M)/\(-(80*M)<=x2/\x2<=80*M)/\(-(80*M)<=x3/\x3<=80*M)/\(-(80*M)<=a/\a<=80*M)/\(-(80*M)<=b/\b<=80*M):=by refine⟨⟨?_,?_⟩,⟨?_,?_⟩,⟨?_,?_⟩,⟨?_,?_⟩,⟨?_,?_⟩,⟨?_,?_⟩⟩<;>omega
theorem cg_brS{n:Nat}(o:n<6)(t:c.length<=n+1)(h:∀j,j<n+1->((Fe n c j).natAbs:Int)<=M*(Nm n j:Int))(k:Nat):((cf c k).natAbs:Int)<=80*M:=by
 have g:0<=M:=by have b:=h 0 O;rw [chz_0]at b;omega
 by_cases s:k<n+1
 .rw [Pp]
  match n,o with
  | 0,_=>
   have b:=Pp.1 (h 0 O3);rw [bre00,show(Nm 0 0:Int)=1 from rfl]at b;have a:=cgb0 g b;obtain rfl:k=0:=O;exact a
  | 1,_=>
   have b:=Pp.1 (h 0 O3);rw [bre10,show(Nm 1 0:Int)=1 from rfl]at b;have d:=Pp.1 (h 1 O3);rw [bre11,show(Nm 1 1:Int)=1 from rfl]at d;have a:=cgb1 g b d;rcases(show k=0\/k=1 by omega)with rfl|rfl
   .exact a.1
   .exact a.2
  | 2,_=>
   have b:=Pp.1 (h 0 O3);rw [bre20,show(Nm 2 0:Int)=1 from rfl]at b;have d:=Pp.1 (h 1 O3);rw [bre21,show(Nm 2 1:Int)=2 from rfl]at d;have e:=Pp.1 (h 2 O3);rw [bre22,show(Nm 2 2:Int)=1 from rfl]at e;have a:=cgb2 g b d e;rcases(show k=0\/k=1\/k=2 by omega)with rfl|rfl|rfl
   .exact a.1
   .exact a.2.1
   .exact a.2.2
  | 3,_=>
   have b:=Pp.1 (h 0 O3);rw [bre30,show(Nm 3 0:Int)=1 from rfl]at b;have d:=Pp.1 (h 1 O3);rw [bre31,show(Nm 3 1:Int)=3 from rfl]at d;have e:=Pp.1 (h 2 O3);rw [bre32,show(Nm 3 2:Int)=3 from rfl]at e;have f:=Pp.1 (h 3 O3);rw [bre33,show(Nm 3 3:Int)=1 from rfl]at f;have a:=cgb3 g b d e f;rcases(show k=0\/k=1\/k=2\/k=3 by omega)with rfl|rfl|rfl|rfl
   .exact a.1
   .exact a.2.1
   .exact a.2.2.1
   .exact a.2.2.2
  | 4,_=>
   have b:=Pp.1 (h 0 O3);rw [bre40,show(Nm 4 0:Int)=1 from rfl]at b;have d:=Pp.1 (h 1 O3);rw [bre41,show(Nm 4 1:Int)=4 from rfl]at d;have e:=Pp.1 (h 2 O3);rw [bre42,show(Nm 4 2:Int)=6 from rfl]at e;have f:=Pp.1 (h 3 O3);rw [bre43,show(Nm 4 3:Int)=4 from rfl]at f;have l:=Pp.1 (h 4 O3);rw [bre44,show(Nm 4 4:Int)=1 from rfl]at l;have a:=cgb4 g b d e f l;rcases(show k=0\/k=1\/k=2\/k=3\/k=4 by omega)with rfl|rfl|rfl|rfl|rfl
   .exact a.1
   .exact a.2.1
   .exact a.2.2.1
   .exact a.2.2.2.1
   .exact a.2.2.2.2
  | 5,_=>
   have b:=Pp.1 (h 0 O3);rw [bre50,show(Nm 5 0:Int)=1 from rfl]at b;have d:=Pp.1 (h 1 O3);rw [bre51,show(Nm 5 1:Int)=5 from rfl]at d;have e:=Pp.1 (h 2 O3);rw [bre52,show(Nm 5 2:Int)=10 from rfl]at e;have f:=Pp.1 (h 3 O3);rw [bre53,show(Nm 5 3:Int)=10 from rfl]at f;have l:=Pp.1 (h 4 O3);rw [bre54,show(Nm 5 4:Int)=5 from rfl]at l;have m:=Pp.1 (h 5 O3);rw [bre55,show(Nm 5 5:Int)=1 from rfl]at m;have a:=cgb5 g b d e f l m;rcases(show k=0\/k=1\/k=2\/k=3\/k=4\/k=5 by omega)with rfl|rfl|rfl|rfl|rfl|rfl
   .exact a.1
   .exact a.2.1
   .exact a.2.2.1
   .exact a.2.2.2.1
   .exact a.2.2.2.2.1
   .exact a.2.2.2.2.2
 .rw [Zv O];simp;omega
theorem AxC.cg(h:AxC c ov)(k:Nat):((cf c k).natAbs:Int)<=83886080*ov:=by have b:=h.l;have:=cg_brS (n:=c.length-1) O (c:=c) O (M:=1048576*ov) (λj a=>h.b j O) k;omega
theorem Zsh(c:List Int)(a:Int):∀k,plS c a 1 k=Zp (λk=>cf c k*a^k) k
 | 0=>rfl
 | k+1=>by show plS c a 1 k+plT c a 1 k=_;rw [Ya,Zsh c a k];congr 1;show c.getD k 0*(a^k*1^_)=cf c k*a^k;rw [Int.one_pow,jN];rfl
theorem Zi2(f:Nat->Int):∀n,((Zp f n:Int):Rat)=Zp3 (λi=>(f i:Rat)) n
 | 0=>rfl
 | n+1=>by rw [Ya,Zah,<-Zi2 f n];push_cast;rfl
theorem Zyn(c:List Int)(a:Int):((pl c a 1:Int):Rat)=Zb c (a:Rat):=by
 unfold pl;rw [Zsh,Zi2]
 conv=>rhs;rw [<-Zc0 c]
 rw [Zr6];exact Zgk _ λi hi=>by rw [<-Ybo];push_cast;rfl
theorem Prt.pl{g:Zl}(h:Prt q g G){a b:Int}(f:a*(g.1.2.1-g.1.1)=(q.1.1-g.1.1)+(q.1.2.1-q.1.1)*b)(i:Nat) :
  Sky.pl (Yg i q.2.1.2 q.2.2.1.2 q.2.2.2.2) b 1*G=Sky.pl (Yg i g.2.1.2 g.2.2.1.2 g.2.2.2.2) a 1*(g.1.2.1-g.1.1)^5:=by
 have d:=h.x i (a:Rat) (b:Rat) (by exact_mod_cast f);rw [<-Zyn,<-Zyn,<-Ybo]at d;have e:((Sky.pl (Yg i q.2.1.2 q.2.2.1.2 q.2.2.2.2) b 1*G:Int):Rat)=((Sky.pl (Yg i g.2.1.2 g.2.2.1.2 g.2.2.2.2) a 1*(g.1.2.1-g.1.1)^5:Int):Rat):=by rw [lI,lI,d,lE]
 exact_mod_cast e
structure Chn (ps:List Zl):Prop where
 lt:∀g∈ps,g.1.1<g.1.2.1
 eq:∀(i:Nat) (g h:Zl),ps[i]? = some g->ps[i+1]? = some h->g.1.2.1=h.1.1
def Chn.tail{g:Zl}(h:Chn (g::r)):Chn r:=⟨λx a=>h.lt x (aT _ a),λi x y a b=>h.eq (i+1) x y a b⟩
theorem getD_some{α:Type}{l:List α}{x d:α}(h:l[i]? = some x):l.getD i d=x:=by rw [aX,h];rfl
structure Pat (fr to:Int) (ps qs:List Zl):Prop where
 gin:∀q∈qs,Gin q
 pb:Ok qs=true
 len:qs.length=(ps.filter (Zq0 fr to)).length
 prt:∀(j:Nat) (q:Zl),qs[j]? = some q->∃f:Zl,(ps.filter (Zq0 fr to))[j]? = some f/\f∈ps/\Prt q f (cG fr to f)
 nxt:∀(j:Nat) (q r:Zl),qs[j]? = some q->qs[j+1]? = some r->∃(i:Nat) (f h:Zl),ps[i]? = some f/\ps[i+1]? = some h/\Prt q f (cG fr to f)/\Prt r h (cG fr to h)/\q.1.2.1=f.1.2.1/\r.1.1=h.1.1
def jqP(fr e ov:Int)(x y z:List Int)(a d b:Int)(x2 f g:List Int)(i:Nat):Prop:=qr (bgS (Yg i x2 f g)) (Xi [b,d-a])=qr (enS (Yg i x y z)) (Xi [ov,e-fr])
def Ydg(o:Nat)(x y z:List Int):Nat->List Int
 | 0=>[]
 | i+1=>Hf (Ydg o x y z i) (Yy (dN o (tzl (Yg i x y z))) (dN o (tzl (Yg i x y z))))
def Ze6(o:Nat)(m ov T:Int):Int:=m^2*ov^2*T^(2*o)
def Ydh(o:Nat)(m ov T:Int)(x y z:List Int):List Int:=Gw (tzl [Ze6 o m ov T]) (Yc (Ydg o x y z 3) (1000^(2*o)))
theorem ps_Cm(a b:Int):PS.C (a*b)=PS.C a*PS.C b:=PS.ext' λi=>by rw [PS.C_mul_c];cases i<;>simp [PS.C]
theorem Ziw(p:List Int)(k:Int):Yy (Yc p k) (Yc p k)=Yc (Yy p p) (k*k):=(Xk).ps_inj Qx (by rw [Zkd,Zi3,Zi3,Zkd,ps_Cm];grind)
theorem Zu7(p q:List Int)(k:Int):Yc (Hf p q) k=Hf (Yc p k) (Yc q k):=(Qx).ext Ycq λi=>by rw [Xf,Zaz,Zaz,Xf,Xf,kM]
theorem Zsa(o:Nat)(x y z:List Int):∀n,Yc (Ydg o x y z n) (1000^(2*o))=Fn o x y z n
 | 0=>rfl
 | n+1=>by show Yc (Hf _ _) _=Hf _ _;rw [Zu7,Zsa o x y z n];unfold sqQ axQ;rw [Ziw,<-nI,show 2*o=o+o by omega]
theorem Ydf(o:Nat)(m ov T:Int):tzl [Ze6 o m ov T]=Yy (Lk o m ov T) (Lk o m ov T):=by
 unfold Lk;rw [Ziw];have a:Yy [1] [1]=[1]:=O3;have b:Za2 o m ov T*Za2 o m ov T=Ze6 o m ov T:=by unfold Za2 Ze6;show(m*(ov*Xi (List.replicate o T)))*(m*(ov*Xi (List.replicate o T)))=_;rw [Zr9,show 2*o=o+o by omega,nI];grind
 rw [a,b];unfold Yc;rw [cH,iX,eI]
theorem Zyb(o:Nat)(m ov T:Int)(x y z:List Int):Zs (Ydh o m ov T x y z)=Im o m ov T x y z:=by unfold Im Ydh;rw [Zsa,Ydf]
def frB(ps:List Zl)(sp ac:Int)(i:Nat):Int:=
 if 0<i/\joG (ps.getD (i-1) G0) (ps.getD i G0)=false then 1 else if Gx (Ip 1 sp (ps.getD i G0))=true then 2 else if Gx (Ip 2 ac (ps.getD i G0))=true then 3 else 0
def fiB(ps:List Zl)(sp ac:Int):Option (Nat×Int):=((List.range ps.length).find? λi=>decide (frB ps sp ac i≠0)).map λi=>(i,frB ps sp ac i)
theorem Au{ps:List Zl}{c:Int}(hi:i<ps.length)(d:∀k,k<i->frB ps sp ac k=0)(h:frB ps sp ac i=c)(a:c≠0):fiB ps sp ac=some (i,c):=by unfold fiB;rw [(List.find?_range_eq_some (n:=ps.length) (i:=i)).2 ⟨by simp [h,a],eN.2 hi,λj b=>by simp [d j b]⟩];simp [h]
theorem Zoe{ps:List Zl}{n:Nat}(d:ps.length<=n)(b:∀k,k<n->frB ps sp ac k=0):fiB ps sp ac=none:=by unfold fiB;rw [List.find?_eq_none.2 (λk a=>by simp [b k (by have:=eN.1 a;omega)])];rfl
def frB_1{ps:List Zl}(a:0<i)(h:joG (ps.getD (i-1) G0) (ps.getD i G0)=false):frB ps sp ac i=1:=aG ⟨a,h⟩
theorem frB_2{ps:List Zl}(h:¬(0<i/\joG (ps.getD (i-1) G0) (ps.getD i G0)=false))(a:Gx (Ip 1 sp (ps.getD i G0))=true):frB ps sp ac i=2:=by unfold frB;rw [aE h,aG a]
theorem frB_3{ps:List Zl}(h:¬(0<i/\joG (ps.getD (i-1) G0) (ps.getD i G0)=false))(a:Gx (Ip 1 sp (ps.getD i G0))=false)(b:Gx (Ip 2 ac (ps.getD i G0))=true):frB ps sp ac i=3:=by unfold frB;rw [aE h,aE (by rw [a];exact dI),aG b]
theorem frB_0{ps:List Zl}(h:¬(0<i/\joG (ps.getD (i-1) G0) (ps.getD i G0)=false))(a:Gx (Ip 1 sp (ps.getD i G0))=false)(b:Gx (Ip 2 ac (ps.getD i G0))=false):frB ps sp ac i=0:=by unfold frB;rw [aE h,aE (by rw [a];exact dI),aE (by rw [b];exact dI)]
theorem Zz1(ps:List Zl)(i:Nat):i=0\/(0<i/\joG (ps.getD (i-1) G0) (ps.getD i G0)=true)\/(0<i/\joG (ps.getD (i-1) G0) (ps.getD i G0)=false):=by
 rcases aU i with h|h
 .exact .inl h
 .cases hb:joG (ps.getD (i-1) G0) (ps.getD i G0)with
  | true=>exact .inr (.inl ⟨h,rfl⟩)
  | false=>exact .inr (.inr ⟨h,rfl⟩)
theorem tf(b:Bool):b=false\/b=true:=by cases b<;>simp
def fiI(o:Option (Nat×Int)):Int:=match o with
 | none=>0
 | some g=>g.1
def fiC(o:Option (Nat×Int)):Int:=match o with
 | none=>0
 | some g=>g.2
abbrev firV (o:Option (Nat×Int)):Value:= .tuple #[.agg #[.int .i64 (fiI o),.int .i64 (fiC o)],.bool o.isSome,.int .i64 0]
theorem Zgi(p q:List Int)(x:Rat):Zb (Hf p q) x=Zb p x+Zb q x:=by rw [<-Yh];exact Qq x _ _ λi=>by rw [Zaz,Nh]
theorem Zx3(p q:List Int)(x:Rat):Zb (Gw p q) x=Zb p x-Zb q x:=by
 have:Zb (Gw p q) x=Zb (Oq p (q.map λa=>-1*a)) x:=Qq x _ _ λi=>by rw [Fd,Nh,Xa];omega
 rw [this,Yh,Ze];push_cast;grind
theorem Zx6(p:List Int)(x:Rat):Zb p x=(Yj p:Rat)*Zb (Zs p) x:=by rw [<-Ze];exact Qq x _ _ λi=>by rw [Xa,dJ,Kd]
theorem Ybf(h:Tr p)(a:p≠[]):(0:Rat)<(Yj p:Rat):=by have b:=Fr h a;have d:=Pw p;exact_mod_cast (show 0<Yj p by omega)
theorem Zy3(h:Tr p)(x:Rat):Zb (Zs p) x<0↔Zb p x<0:=by
 by_cases a:p=[]
 .subst a;rfl
 .have b:=Ybf h a;rw [Zx6 p];constructor
  .intro h;have:=Rat.mul_lt_mul_of_pos_left h b;rw [Rat.mul_zero]at this;exact this
  .intro h;by_cases q:Zb (Zs p) x<0
   .exact q
   .exact absurd (aC (cJ b) (Rat.not_lt.1 q)) (Rat.not_le.2 h)
theorem Zy4(h:Cvd xs):Gx xs=true↔Zpi xs 0 1:=by have d:qv (0,1)=0:=O5;have e:qv (1,1)=1:=O5;have:=Zko h (a:=(0,1)) (b:=(1,1)) O3 O3 (by rw [d,e];decide);rw [d,e]at this;exact this
def spd(o:Nat)(x y z:List Int)(u:Rat):Rat:=Zb (Ydg o x y z 3) u
theorem Yak(o:Nat)(m ov T:Int)(x y z:List Int)(u:Rat):Zb (Im o m ov T x y z) u<0↔(Ze6 o m ov T:Rat)<((1000^(2*o):Int):Rat)*spd o x y z u:=by rw [<-Zyb,Zy3 (by unfold Ydh;exact Qd _)];unfold Ydh;rw [Zx3,Oj,Qh,Zp0];unfold spd;constructor<;>intro h<;>grind
theorem formB{fr a m:Int}{x y z:List Int}(h:Sgo fr a ov x y z)(b:0<=m)(d:m<=10000){o:Nat}(e:o=1\/o=2) :
  Gx (Im o m ov (a-fr) x y z)=true↔∃u:Rat,0<=u/\u<=1/\(Ze6 o m ov (a-fr):Rat)<((1000^(2*o):Int):Rat)*spd o x y z u:=by
 rw [Zy4 (Fu h b d e).2.2];unfold Zpi;exact exists_congr λu=>and_congr Iff.rfl (and_congr Iff.rfl (Yak o m ov (a-fr) x y z u))
def lstB(o:Nat)(ps:List Zl):Nat:=Zdv (λn=>Zc6 o ps (n:Int)) 14 0 10000
def lsV(o:Nat)(ps:List Zl):Nat:=if Zc6 o ps 10000 then lstB o ps else 0
def dR(o:Nat)(c:List Int)(u:Rat):Rat:=Zb (dN o (tzl c)) u
theorem Prt.num{g:Zl}(h:Prt q g G):∃v s:Rat,0<=v/\0<s/\v+s<=1/\s*((g.1.2.1-g.1.1:Int):Rat)=((q.1.2.1-q.1.1:Int):Rat)/\v*((g.1.2.1-g.1.1:Int):Rat)=((q.1.1-g.1.1:Int):Rat)/\(0:Rat)<((g.1.2.1-g.1.1:Int):Rat)/\
  ∀i (u:Rat),Zb (Yg i q.2.1.2 q.2.2.1.2 q.2.2.2.2) u*(G:Rat)=((g.1.2.1-g.1.1:Int):Rat)^5*Zb (Yg i g.2.1.2 g.2.2.1.2 g.2.2.2.2) (v+s*u):=by
 have l:=h.a0;have m:=h.b0;have n:=h.ab;have x:=h.x;generalize g.1.2.1-g.1.1=d at *;generalize q.1.2.1-q.1.1=b at *;generalize q.1.1-g.1.1=a at *;have j:(0:Rat)<(d:Rat):=by exact_mod_cast (show 0<d by omega)
 have o:(0:Rat)<=(a:Rat):=by exact_mod_cast l
 have w:(0:Rat)<(b:Rat):=by exact_mod_cast m
 have t:(a:Rat)+(b:Rat)<=(d:Rat):=by exact_mod_cast n
 have hi:0<(d:Rat)⁻¹:=fH.2 j;have e:(a:Rat)/d*d=a:=mR O4;have f:(b:Rat)/d*d=b:=mR O4;refine⟨(a:Rat)/d,(b:Rat)/d,?_,?_,?_,f,e,j,λi u=>x i _ u (by
  have k:(b:Rat)/d*u*d=((b:Rat)/d*d)*u:=by rw [jI,lE u,<-jI]
  rw [Rat.add_mul,e,k,f])⟩
 .rw [iC];exact aC o (cJ hi)
 .rw [iC];exact aV w hi
 .have:((a:Rat)/d+b/d)*d<=1*d:=by rw [Rat.add_mul,e,f];grind
  exact Rat.le_of_mul_le_mul_right this j
def inn(fr a:Int)(ps:List Zl):List Int:=(ps.filter λg=>decide (fr<g.1.1) && decide (g.1.1<a)).map λg=>g.1.1
def cmF(a b:List Zl):Int:=max (spF a) (spF b)
def cmL(a b:List Zl):Int:=min (spL a) (spL b)
def tmsI(a b:List Zl)(i:Nat):List Int:=cmF a b::cmL a b::((if 1<=i then inn (cmF a b) (cmL a b) a else []) ++ (if 2<=i then inn (cmF a b) (cmL a b) b else []))
def brk(a b:List Zl):List Int:=srtU (tmsI a b 2)
def sel2{α:Type _}(i:Nat)(a b:α):α:=if i=0 then a else b
structure Bks (a b:List Zl):Prop where
 two:2<=(brk a b).length
 hd:(brk a b).getD 0 0=cmF a b
 ls:(brk a b).getD ((brk a b).length-1) 0=cmL a b
 lt:∀k,k+1<(brk a b).length->cmF a b<=(brk a b).getD k 0/\(brk a b).getD k 0<(brk a b).getD (k+1) 0/\(brk a b).getD (k+1) 0<=cmL a b
 no:∀k,k+1<(brk a b).length->∀g,g∈a\/g∈b->¬((brk a b).getD k 0<g.1.1/\g.1.1<(brk a b).getD (k+1) 0)
def comN(ts:List Int)(ps:List Zl):Nat->List Zl9
 | 0=>[]
 | n+1=>comN ts ps n ++ cutR (ts.getD n 0) (ts.getD (n+1) 0) ps
def comKn(ts:List Int)(a b:List Zl):Nat->Bool
 | 0=>true
 | n+1=>comKn ts a b n && (Zlm (ts.getD n 0) (ts.getD (n+1) 0) a && Zlm (ts.getD n 0) (ts.getD (n+1) 0) b)
def comK(a b:List Zl):Bool:=comKn (brk a b) a b ((brk a b).length-1)
def comE(a b:List Zl):Int:=if cmF a b>=cmL a b then 9 else if comK a b then 0 else 7
def Ye1(a b ps:List Zl):List Zl9:=if comE a b=0 then comN (brk a b) ps ((brk a b).length-1)else []
def tik(a b:List Zl)(i k:Nat):List Int:=tmsI a b i ++ inn (cmF a b) (cmL a b) ((sel2 i a b).take k)
section
variable {P:Program} {N:Nat} {sc:Nat->Prop} {env:Xu} {H:Hp}
end
end Go.Sky
namespace Go.Sky
variable{c p:List Int}{x:Nat}
section
variable {P:Program} {N:Nat} {sc:Nat->Prop} {env:Xu} {H:Hp}
end
def KA:Nat:=360287970189639680
theorem AxC.ka{a:Int}(h:AxC c a)(b:1<=a)(d:a<=4294967296):Ab KA (tzl c):=λk=>by have:=h.cg k;rw [Nj];unfold KA;omega
def BG:Nat:=2^250*2^250
theorem bl_two{a b:Nat}(h:x<2^a*2^b):bl x<=a+b:=(Xo (a+b) x).2 (by rw [bH];exact h)
def bl_bg(h:x<BG):bl x<=500:=bl_two (a:=250) (b:=250) h
def Ab.sg{M:Nat}(h:Ab M p)(a:M<BG):Sz 500 p:=λi=>bl_bg (bC (h i) a)
def dfP(p q:List Int)(a b:Int):List Int:=Gw (Yc (tzl p) b) (Yc (tzl q) a)
def dfK(p q:List Int)(a b k:Int):List Int:=Yc (dfP p q a b) k
def sqK(p q:List Int)(a b k:Int):List Int:=Yy (dfK p q a b k) (dfK p q a b k)
def sqP(p q:List Int)(a b:Int):List Int:=Yy (dfP p q a b) (dfP p q a b)
def KD:Nat:=KA*4294967296+KA*4294967296
structure FmX (p q:List Int) (a b k:Int):Prop where
 v1:Vp (tzl p)
 v2:Vp (tzl q)
 b1:bl b.natAbs<=65536
 a1:bl a.natAbs<=65536
 k1:bl k.natAbs<=65536
 s1:∀i,bl (cf (tzl p) i*b).natAbs<=65536
 s2:∀i,bl (cf (tzl q) i*a).natAbs<=65536
 v3:Vp (Yc (tzl p) b)
 v4:Vp (Yc (tzl q) a)
 s3:∀i,bl (cf (Yc (tzl p) b) i-cf (Yc (tzl q) a) i).natAbs<=65536
 v5:Vp (dfP p q a b)
 s4:∀i,bl (cf (dfP p q a b) i*k).natAbs<=65536
 v6:Vp (dfK p q a b k)
 m6:¬Gy (dfK p q a b k) (dfK p q a b k)
 v7:Vp (sqK p q a b k)
 ab:Ab (6*((KD*100)*(KD*100))) (sqK p q a b k)
 l:(sqK p q a b k).length<=11
 m5:¬Gy (dfP p q a b) (dfP p q a b)
 v8:Vp (sqP p q a b)
 ab8:Ab (6*((KD*100)*(KD*100))) (sqP p q a b)
 l8:(sqP p q a b).length<=11
def ngC(a:List Int):Nat->List Int
 | 0=>[-1]
 | i+1=>Yc (Yc (ngC a i) (a.getD i 0)) (a.getD i 0)
def sqN(a:List Int):Nat->Nat
 | 0=>1
 | i+1=>sqN a i*(a.getD i 0).natAbs*(a.getD i 0).natAbs
structure NgX (ns:List Int) (i:Nat):Prop where
 b:bl (ns.getD i 0).natAbs<=65536
 inn:Qf (ns.getD i 0)
 v:Vp (ngC ns i)
 s:∀k,bl (cf (ngC ns i) k*ns.getD i 0).natAbs<=65536
 v2:Vp (Yc (ngC ns i) (ns.getD i 0))
 s2:∀k,bl (cf (Yc (ngC ns i) (ns.getD i 0)) k*ns.getD i 0).natAbs<=65536
def smP(c:List Int)(f:Nat->List Int):Nat->List Int
 | 0=>c
 | i+1=>Hf (smP c f i) (f i)
structure SmX (c:List Int) (f:Nat->List Int):Prop where
 v:∀i,i<=3->Vp (smP c f i)
 s:∀i,i<3->∀k,bl (cf (smP c f i) k+cf (f i) k).natAbs<=65536
 d:Cvd (Zs (smP c f 3))
end Go.Sky
namespace Go.Sky
def Zky(m:Int)(l:List Int):Bool:=l.all λx=>decide (-m<=x) && decide (x<=m)
def insB_t{m:Int}{l:List Int}(h:∀i,i<l.length->-m<=l.getD i 0/\l.getD i 0<=m):Zky m l=true:=bR.2 λx d=>by obtain⟨k,c,rfl⟩:=Zzi.1 d;obtain⟨a,b⟩:=h k c;rw [aO a,aO b];rfl
def Zz3 (i:Nat){m:Int}{l:List Int}(hi:i<l.length)(h:¬(-m<=l.getD i 0/\l.getD i 0<=m)):Zky m l=false:=by
 cases hb:Zky m l with
 | false=>rfl
 | true=>
  have:=bR.1 hb _ (Zo (d:=0) hi);rw [aL]at this;exact absurd ⟨cZ this.1,cZ this.2⟩ h
def ptB(x y z:Int):Bool:=Zky 1048576 [x,y,z]
def Zd4{x y z:Int}(h:ptB x y z=true):(-1048576<=x/\x<=1048576)/\(-1048576<=y/\y<=1048576)/\(-1048576<=z/\z<=1048576):=by unfold ptB Zky at h;simp only [kR,List.all_nil,Bool.and_true,aL,dW]at h;exact h
def znB(D n d:Int):Bool:=decide (1<=D/\D<=4194304/\1<=n/\n<=d/\d<=100)
def ptsB(b c e f a g D n d:Int):Bool:=decide (D*d*(D*d)<=(b-f)*d*((b-f)*d)+(c-a)*d*((c-a)*d)+(e-g)*n*((e-g)*n))
def fqZ(n d b a:Int)(x y z c e f:List Int)(i:Nat):List Int:=sqK (Yg i x y z) (Yg i c e f) b a (Yg i d d n)
def cnZ(D d b a:Int):List Int:=ngC [D,d,b,a] 4
def smZ(D n d b a:Int)(x y z c e f:List Int)(i:Nat):List Int:=smP (cnZ D d b a) (fqZ n d b a x y z c e f) i
def fmZ(D n d b a:Int)(x y z c e f:List Int):List Int:=Zs (smZ D n d b a x y z c e f 3)
structure FzX (D n d ov ov2:Int) (x y z x2 y2 z2:List Int):Prop where
 X:∀i,FmX (Yg i x y z) (Yg i x2 y2 z2) ov ov2 (Yg i d d n)
 K:∀i,Qf (Yg i d d n)
 N:∀i,i<=4->NgX [D,d,ov,ov2] i
 Q:SmX (cnZ D d ov ov2) (fqZ n d ov ov2 x y z x2 y2 z2)
abbrev GpT:=(Int×Int)×(SL×List Int)
abbrev encGp (g:GpT):Value:= .agg #[.int .i64 g.1.1,.int .i64 g.1.2,Lh g.2.1]
abbrev qGp (g:GpT):Pc:=Ym 2 wv (Lh g.2.1) g.2.2
abbrev Gp0:GpT:=((0,0),((none,0,0),[]))
abbrev GpU:=Int×Int×List Int
def unP(g:GpT):GpU:=(g.1.1,g.1.2,g.2.2)
def gpZ(D n d:Int)(g h:Zl9):GpU:=(g.1.1,g.1.2.1,fmZ D n d g.1.2.2 h.1.2.2 g.2.1 g.2.2.1 g.2.2.2 h.2.1 h.2.2.1 h.2.2.2)
def Zoc(D n d:Int)(a b:List Zl):List GpU:=List.zipWith (gpZ D n d) (Ye1 a b a) (Ye1 a b b)
def Zia(a b:List Zl):Int:=if comE a b=9 then 0 else comE a b
def gpY(q:Zl)(g:SL×List Int):GpT:=((q.1.1,q.1.2.1),g)
def fstP(l:List GpU):Option GpU:=l.find? λg=>Gx g.2.2
def Yaj(l:List GpU):Int×Int×Bool:=match fstP l with
 | some g=>(g.1,g.2.1,true)
 | none=>(0,0,false)
def mkS(u:Zl9):Zl:=(u.1,((none,0,0),u.2.1),((none,0,0),u.2.2.1),((none,0,0),u.2.2.2))
def apZ(D n d:Int)(a b:List Zl):Bool:=decide (Zia a b=0) && !(Yaj (Zoc D n d a b)).2.2
open Go.Proofs
def pPa:Enc Tryz.prog 31 1 Lh:=Enc.flat Tryz.sizeOf31 Tryz.isAgg31 (λ_=>rfl)
def pGp:Enc Tryz.prog 284 3 encGp:=Enc.agg O3 Tryz.sizeOf284 Tryz.isAgg284 (λx=>⟨[.int .i64 x.1.1,.int .i64 x.1.2,Lh x.2.1],rfl,rfl,O11⟩)
@[reducible,instance] def encPaI:EncT Tryz.prog 31 1 Lh:=⟨pPa⟩
@[reducible,instance] def encGpI:EncT Tryz.prog 284 3 encGp:=⟨pGp⟩
def ti_a3:Tryz.prog.info? 493=some Tryz.t493:=O6
open Go.Proofs.Tryz
set_option synthInstance.maxHeartbeats 0
set_option synthInstance.maxSize 100000
set_option maxRecDepth 20000
set_option linter.unusedSimpArgs false
def Zwv{v:Value}(l:List Int)(m:Int)(j:0<=m/\m<=16777216):Yx prog 120 #[.int .i64 m,v] [Ym 1 Ys v l] (.bool (Zky m l)):=by
 refine Zd func120 ntmps120 λp o n a=>?_;refine Oo (It (i:=1) J Zh) λf=>go 14 ?_;refine lp (G:=Nat) [0,7,8] [0,1] (λk=>[(9,.int .i64 (k:Int))]) (λk=>[]) (λk=>(k<=l.length)/\(∀i,i<k->-m<=l.getD i 0/\l.getD i 0<=m)) (λk=>l.length-k) 0 ⟨O1,λi hi=>absurd hi (dC i)⟩ K1 aA ?_;rintro k ⟨h,g⟩;refine go 6<|Zc J (λb=>?_) (λb=>?_)
 .refine go 15 ⟨O2,O2,?_⟩;refine dt (d_negi J J ⟨O,O⟩)<|go 2 ?_;refine Yq 17 J (λe=>?_) (λe=>?_)
  .refine go 18 ?_;exact Xg a () results120 (by rw [Zz3 k O O]) aA Za
  .refine go 6<|Zc J (λc=>?_) (λc=>?_)
   .refine go 11 ?_;exact Xg a () results120 (by rw [Zz3 k O O]) aA Za
   .refine go 7 ⟨O,?_⟩;exact Xe (k+1) ⟨O1,λi hi=>by rcases cK.1 hi with d|d;exact g i d;subst d;exact⟨O,O⟩⟩ O1 K1 aA
 .refine go 11 ?_;exact Xg a () results120 (by rw [insB_t λi hi=>g i O]) aA Za
def Zem{x y z:Int}:Yx prog 51 #[.agg #[.int .i64 x,.int .i64 y,.int .i64 z]] [] (.bool (ptB x y z)):=by refine Zd func51 ntmps51 λe d b a=>go 2 ?_;refine Zw (Zu 1) λc _=>go 11 ?_;refine tt (Xw [(0,_),(1,_),(2,_)] 2 (enc:=Ys) ([x,y,z]:List Int) J J K6 Oa ti3 J J J J J pZ.cells J J b.h) λv _=>cl 2 [2] (Zwv [x,y,z] 1048576 ⟨O3,O3⟩) λ_ _=>go 4 ?_;exact Xg a () results51 J aA Za
end Go.Sky

