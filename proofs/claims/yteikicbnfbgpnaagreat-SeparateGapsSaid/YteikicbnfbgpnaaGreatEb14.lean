/- Rules, arithmetic and contracts: part 15. No conditions but those that each theorem names. -/
import Derived.Test.YteikicbnfbgpnaaGreatEb13
set_option linter.all false
namespace Go.Sky
variable{c p ts:List Int}{ov x M x0 x1 x2 x3 x4 d G o:Int}{b a r us:List Zj}{q:Zj}{i k:Nat}
def Ylj:∀n,n<6->∀j,j<n+1->∀k,k<j+1->(Oi n j:Int)*w60 n j k=60*(Oi (n-k) (j-k):Int):=O6
theorem Zej(f:Nat->Int)(a:Int):∀m,Ye (λk=>a*f k) m=a*Ye f m
 | 0=>by show(0:Int)=a*0;omega
 | m+1=>by rw [Yj,Yj,Zej f a m,Int.mul_add]
theorem Yov(g:1<=c.length/\c.length<=6){j:Nat}(e:j<c.length):(Oi (c.length-1) j:Int)*ctl c j (j+1)=60*Iz (c.length-1) c j:=by unfold ctl Iz;rw [<-Zej,<-Zej];refine Yy λk f=>?_;have:=Ylj (c.length-1) O j O k O;show(Oi (c.length-1) j:Int)*(cf c k*w60 (c.length-1) j k)=60*(cf c k*_);rw [Int.mul_left_comm,this,Int.mul_left_comm]
theorem Yj8{n j:Nat}(h:j<n+1):(0:Int)<(Oi n j:Int):=by have:=Zjp (n:=n) (k:=j) O;omega
theorem Ybf(v:1<=c.length/\c.length<=6) : Zmc c ov=true↔∀j,j<c.length->((Iz (c.length-1) c j).natAbs:Int)<=1048576*ov*(Oi (c.length-1) j:Int):=by
 have f:∀j,j<c.length->((((ctl c j (j+1)).natAbs:Int)<=62914560*ov)↔((Iz (c.length-1) c j).natAbs:Int)<=1048576*ov*(Oi (c.length-1) j:Int)):=λj e=>by
  have t:=Yov v e;have l:=Yj8 (n:=c.length-1) (j:=j) O;have m:=congrArg Int.natAbs t;rw [Int.natAbs_mul,Int.natAbs_mul,Int.natAbs_natCast]at m;generalize (ctl c j (j+1)).natAbs=x at *;generalize (Iz (c.length-1) c j).natAbs=y at *;generalize Oi (c.length-1) j=q at *;have s:(q:Int)*(x:Int)=60*(y:Int):=by exact_mod_cast m
  constructor
  .intro h;have g:=Int.mul_le_mul_of_nonneg_left h (Int.le_of_lt l);rw [s]at g;have u:(q:Int)*(62914560*ov)=60*(1048576*ov*q):=O4;omega
  .intro h;have g:60*(y:Int)<=(q:Int)*(62914560*ov):=by have u:(q:Int)*(62914560*ov)=60*(1048576*ov*q):=O4;omega
   rw [<-s]at g;exact Int.le_of_mul_le_mul_left g l
 constructor
 .intro h j e;unfold Zmc at h;rw [List.all_eq_true]at h;exact(f j e).1 (of_decide_eq_true (h j (List.mem_range.2 e)))
 .intro h;exact Zxw λj e=>(f j e).2 (h j e)
def Xv{b:Int} : ((x.natAbs:Int)<=b)↔(-b<=x/\x<=b):=O
def cfb0(f:0<=M)(e:-(M*1)<=(x0*1)/\(x0*1)<=M*1):(-(2047*M)<=x0/\x0<=2047*M):=O
def bre00(c:List Int):Iz 0 c 0=cf c 0*1:=O10
theorem cfb1(g:0<=M)(e:-(M*1)<=(x0*1)/\(x0*1)<=M*1)(f:-(M*1)<=(x0*1+x1*1)/\(x0*1+x1*1)<=M*1):(-(2047*M)<=x0/\x0<=2047*M)/\(-(2047*M)<=x1/\x1<=2047*M):=by refine⟨⟨?_,?_⟩,⟨?_,?_⟩⟩<;>omega
def bre10(c:List Int):Iz 1 c 0=cf c 0*1:=O10
def bre11(c:List Int):Iz 1 c 1=cf c 0*1+cf c 1*1:=O10
theorem cfb2(h:0<=M)(e:-(M*1)<=(x0*1)/\(x0*1)<=M*1)(f:-(M*2)<=(x0*2+x1*1)/\(x0*2+x1*1)<=M*2)(g:-(M*1)<=(x0*1+x1*1+x2*1)/\(x0*1+x1*1+x2*1)<=M*1):(-(2047*M)<=x0/\x0<=2047*M)/\(-(2047*M)<=x1/\x1<=2047*M)/\(-(2047*M)<=x2/\x2<=2047*M):=by refine⟨⟨?_,?_⟩,⟨?_,?_⟩,⟨?_,?_⟩⟩<;>omega
def bre20(c:List Int):Iz 2 c 0=cf c 0*1:=O10
def bre21(c:List Int):Iz 2 c 1=cf c 0*2+cf c 1*1:=O10
def bre22(c:List Int):Iz 2 c 2=cf c 0*1+cf c 1*1+cf c 2*1:=O10
theorem cfb3(j:0<=M)(e:-(M*1)<=(x0*1)/\(x0*1)<=M*1)(f:-(M*3)<=(x0*3+x1*1)/\(x0*3+x1*1)<=M*3)(g:-(M*3)<=(x0*3+x1*2+x2*1)/\(x0*3+x1*2+x2*1)<=M*3)(h:-(M*1)<=(x0*1+x1*1+x2*1+x3*1)/\(x0*1+x1*1+x2*1+x3*1)<=M*1):(-(2047*M)<=x0/\x0<=2047*M)/\(-(2047*M)<=x1/\x1<=2047*M)/\(-(2047*M)<=x2/\x2<=2047*M)/\(-(2047*M)<=x3/\x3<=2047*M):=by refine⟨⟨?_,?_⟩,⟨?_,?_⟩,⟨?_,?_⟩,⟨?_,?_⟩⟩<;>omega
def bre30(c:List Int):Iz 3 c 0=cf c 0*1:=O10
def bre31(c:List Int):Iz 3 c 1=cf c 0*3+cf c 1*1:=O10
def bre32(c:List Int):Iz 3 c 2=cf c 0*3+cf c 1*2+cf c 2*1:=O10
def bre33(c:List Int):Iz 3 c 3=cf c 0*1+cf c 1*1+cf c 2*1+cf c 3*1:=O10
theorem cfb4(l:0<=M)(e:-(M*1)<=(x0*1)/\(x0*1)<=M*1)(f:-(M*4)<=(x0*4+x1*1)/\(x0*4+x1*1)<=M*4)(g:-(M*6)<=(x0*6+x1*3+x2*1)/\(x0*6+x1*3+x2*1)<=M*6)(h:-(M*4)<=(x0*4+x1*3+x2*2+x3*1)/\(x0*4+x1*3+x2*2+x3*1)<=M*4)(j:-(M*1)<=(x0*1+x1*1+x2*1+x3*1+x4*1)/\(x0*1+x1*1+x2*1+x3*1+x4*1)<=M*1):(-(2047*M)<=x0/\x0<=2047*M)/\(-(2047*M)<=x1/\x1<=2047*M)/\(-(2047*M)<=x2/\x2<=2047*M)/\(-(2047*M)<=x3/\x3<=2047*M)/\(-(2047*M)<=x4/\x4<=2047*M):=by refine⟨⟨?_,?_⟩,⟨?_,?_⟩,⟨?_,?_⟩,⟨?_,?_⟩,⟨?_,?_⟩⟩<;>omega
def bre40(c:List Int):Iz 4 c 0=cf c 0*1:=O10
def bre41(c:List Int):Iz 4 c 1=cf c 0*4+cf c 1*1:=O10
def bre42(c:List Int):Iz 4 c 2=cf c 0*6+cf c 1*3+cf c 2*1:=O10
def bre43(c:List Int):Iz 4 c 3=cf c 0*4+cf c 1*3+cf c 2*2+cf c 3*1:=O10
def bre44(c:List Int):Iz 4 c 4=cf c 0*1+cf c 1*1+cf c 2*1+cf c 3*1+cf c 4*1:=O10
theorem cfb5{e:Int}(n:0<=M)(f:-(M*1)<=(x0*1)/\(x0*1)<=M*1)(g:-(M*5)<=(x0*5+x1*1)/\(x0*5+x1*1)<=M*5)(h:-(M*10)<=(x0*10+x1*4+x2*1)/\(x0*10+x1*4+x2*1)<=M*10)(j:-(M*10)<=(x0*10+x1*6+x2*3+x3*1)/\(x0*10+x1*6+x2*3+x3*1)<=M*10)(l:-(M*5)<=(x0*5+x1*4+x2*3+x3*2+x4*1)/\(x0*5+x1*4+x2*3+x3*2+x4*1)<=M*5)(m:-(M*1)<=(x0*1+x1*1+x2*1+x3*1+x4*1+e*1)/\(x0*1+x1*1+x2*1+x3*1+x4*1+e*1)<=M*1):(-(2047*M)<=x0/\x0<=2047*M)/\(-(2047*M)<=x1/\x1<=2047*M)/\(-(2047*M)<=x2/\x2<=2047*M)/\(-(2047*M)<=x3/\x3<=2047*M)/\(-(2047*M)<=x4/\x4<=2047*M)/\(-(2047*M)<=e/\e<=2047*M):=by refine⟨⟨?_,?_⟩,⟨?_,?_⟩,⟨?_,?_⟩,⟨?_,?_⟩,⟨?_,?_⟩,⟨?_,?_⟩⟩<;>omega
def bre50(c:List Int):Iz 5 c 0=cf c 0*1:=O10
def bre51(c:List Int):Iz 5 c 1=cf c 0*5+cf c 1*1:=O10
def bre52(c:List Int):Iz 5 c 2=cf c 0*10+cf c 1*4+cf c 2*1:=O10
def bre53(c:List Int):Iz 5 c 3=cf c 0*10+cf c 1*6+cf c 2*3+cf c 3*1:=O10
def bre54(c:List Int):Iz 5 c 4=cf c 0*5+cf c 1*4+cf c 2*3+cf c 3*2+cf c 4*1:=O10
def bre55(c:List Int):Iz 5 c 5=cf c 0*1+cf c 1*1+cf c 2*1+cf c 3*1+cf c 4*1+cf c 5*1:=O10
theorem cf_brS{n:Nat}(v:n<6)(y:c.length<=n+1)(h:∀j,j<n+1->((Iz n c j).natAbs:Int)<=M*(Oi n j:Int))(k:Nat):((cf c k).natAbs:Int)<=2047*M:=by
 have s:0<=M:=by have f:=h 0 O;rw [Zl7]at f;omega
 by_cases w:k<n+1
 .rw [Xv]
  match n,v with
  | 0,_=>
   have f:=Xv.1 (h 0 O2);rw [bre00,show(Oi 0 0:Int)=1 from rfl]at f;have e:=cfb0 s f;obtain rfl:k=0:=O;exact e
  | 1,_=>
   have f:=Xv.1 (h 0 O2);rw [bre10,show(Oi 1 0:Int)=1 from rfl]at f;have g:=Xv.1 (h 1 O2);rw [bre11,show(Oi 1 1:Int)=1 from rfl]at g;have e:=cfb1 s f g;rcases(show k=0\/k=1 by omega)with rfl|rfl
   .exact e.1
   .exact e.2
  | 2,_=>
   have f:=Xv.1 (h 0 O2);rw [bre20,show(Oi 2 0:Int)=1 from rfl]at f;have g:=Xv.1 (h 1 O2);rw [bre21,show(Oi 2 1:Int)=2 from rfl]at g;have l:=Xv.1 (h 2 O2);rw [bre22,show(Oi 2 2:Int)=1 from rfl]at l;have e:=cfb2 s f g l;rcases(show k=0\/k=1\/k=2 by omega)with rfl|rfl|rfl
   .exact e.1
   .exact e.2.1
   .exact e.2.2
  | 3,_=>
   have f:=Xv.1 (h 0 O2);rw [bre30,show(Oi 3 0:Int)=1 from rfl]at f;have g:=Xv.1 (h 1 O2);rw [bre31,show(Oi 3 1:Int)=3 from rfl]at g;have l:=Xv.1 (h 2 O2);rw [bre32,show(Oi 3 2:Int)=3 from rfl]at l;have m:=Xv.1 (h 3 O2);rw [bre33,show(Oi 3 3:Int)=1 from rfl]at m;have e:=cfb3 s f g l m;rcases(show k=0\/k=1\/k=2\/k=3 by omega)with rfl|rfl|rfl|rfl
   .exact e.1
   .exact e.2.1
   .exact e.2.2.1
   .exact e.2.2.2
  | 4,_=>
   have f:=Xv.1 (h 0 O2);rw [bre40,show(Oi 4 0:Int)=1 from rfl]at f;have g:=Xv.1 (h 1 O2);rw [bre41,show(Oi 4 1:Int)=4 from rfl]at g;have l:=Xv.1 (h 2 O2);rw [bre42,show(Oi 4 2:Int)=6 from rfl]at l;have m:=Xv.1 (h 3 O2);rw [bre43,show(Oi 4 3:Int)=4 from rfl]at m;have t:=Xv.1 (h 4 O2);rw [bre44,show(Oi 4 4:Int)=1 from rfl]at t;have e:=cfb4 s f g l m t;rcases(show k=0\/k=1\/k=2\/k=3\/k=4 by omega)with rfl|rfl|rfl|rfl|rfl
   .exact e.1
   .exact e.2.1
   .exact e.2.2.1
   .exact e.2.2.2.1
   .exact e.2.2.2.2
  | 5,_=>
   have f:=Xv.1 (h 0 O2);rw [bre50,show(Oi 5 0:Int)=1 from rfl]at f;have g:=Xv.1 (h 1 O2);rw [bre51,show(Oi 5 1:Int)=5 from rfl]at g;have l:=Xv.1 (h 2 O2);rw [bre52,show(Oi 5 2:Int)=10 from rfl]at l;have m:=Xv.1 (h 3 O2);rw [bre53,show(Oi 5 3:Int)=10 from rfl]at m;have t:=Xv.1 (h 4 O2);rw [bre54,show(Oi 5 4:Int)=5 from rfl]at t;have u:=Xv.1 (h 5 O2);rw [bre55,show(Oi 5 5:Int)=1 from rfl]at u;have e:=cfb5 s f g l m t u;rcases(show k=0\/k=1\/k=2\/k=3\/k=4\/k=5 by omega)with rfl|rfl|rfl|rfl|rfl|rfl
   .exact e.1
   .exact e.2.1
   .exact e.2.2.1
   .exact e.2.2.2.1
   .exact e.2.2.2.2.1
   .exact e.2.2.2.2.2
 .rw [Yl O];simp;omega
structure AxC (c:List Int) (ov:Int):Prop where
 l:1<=c.length/\c.length<=6
 t:¬(1<c.length/\c.getD (c.length-1) 0=0)
 b:∀j,j<c.length->((Iz (c.length-1) c j).natAbs:Int)<=1048576*ov*(Oi (c.length-1) j:Int)
theorem AxC.of(h:axB c ov=true):AxC c ov:=by unfold axB at h;simp only [Bool.and_eq_true,Bool.not_eq_true',Bool.and_eq_false_iff,decide_eq_true_eq,decide_eq_false_iff_not]at h;have g:1<=c.length/\c.length<=6:=⟨h.1.1.1,h.1.1.2⟩;exact⟨g,λf=>by rcases h.1.2 with e|e;exact e f.1;exact e f.2,(Ybf g).1 h.2⟩
def AxC.to(h:AxC c ov):axB c ov=true:=Ybo h.l.1 h.l.2 h.t ((Ybf h.l).2 h.b)
def tzl_nz(e:c.getD (c.length-1) 0≠0):tzl c=c:=Zab (.inr e)
theorem Ykv(h:AxC c ov):(tzl c=c)\/c=[0]:=by
 by_cases e:c.getD (c.length-1) 0=0
 .have j:c.length=1:=by
   have l:=h.l;have f:=h.t;by_cases g:1<c.length
   .exact absurd ⟨g,e⟩ f
   .omega
  right
  match c,j with
  | [x],_=>simp at e;rw [e]
 .exact .inl (tzl_nz e)
theorem Zfr(h:AxC c ov){a b:Int}{t u:Rat}(f:t*(d:Rat)=(a:Rat)+(b:Rat)*u):Zd (Qt c a b d) u=(d:Rat)^5*Zd c t:=by
 unfold Qt;rw [Gz];rcases Ykv h with e|e
 .have g:=h.l;rw [e,Zkq a b d f O,Zc5];have:(d:Rat)^5=(d:Rat)^(6-c.length)*(d:Rat)^(c.length-1):=by rw [<-Ybr];congr 1;omega
  rw [this];grind
 .subst e;rw [show tzl [0]=[]from by decide,show Ld [] a b d=[]from rfl];show _*(0:Rat)=_*(((0:Int):Rat)+t*0);push_cast;grind
def Zga(a b d:Int):(Qt c a b d).length<=c.length:=Nat.le_trans (Oz _ _) (Nat.le_trans (Zet _ _ _ _) (Mx c))
theorem Ybe(h:AxC c ov){a b:Int}(f:0<=a)(g:0<=b)(e:a+b<=d)(l:0<d):∀j,j<c.length->((Iz (c.length-1) (Qt c a b d) j).natAbs:Int)<=1048576*(ov*d^5)*(Oi (c.length-1) j:Int):=λj s=>by have y:=h.l;have w:=Zga (c:=c) a b d;have:=Ypp (c:=c) (X:=Qt c a b d) (n:=c.length-1) (m:=5) (B:=1048576*ov) O O f g e l (λt u v=>Zfr h v) (λj s=>h.b j O) j O;rw [Int.mul_assoc]at this;rw [Int.mul_assoc];rw [Int.mul_assoc,<-Int.mul_assoc ov]at this;exact this
theorem cf_cmp(h:AxC c ov){a b:Int}(f:0<=a)(g:0<=b)(e:a+b<=d)(l:0<d)(k:Nat):((cf (Qt c a b d) k).natAbs:Int)<=ov*d^5*2146435072:=by have t:=h.l;have m:=Zga (c:=c) a b d;have:=cf_brS (n:=c.length-1) O (c:=Qt c a b d) O (M:=1048576*(ov*d^5)) (λj s=>Ybe h f g e l j O) k;omega
theorem Zwd{g:Zj}(h:seB g=true):AxC g.2.1.2 g.1.2.2/\AxC g.2.2.1.2 g.1.2.2/\AxC g.2.2.2.2 g.1.2.2:=by have e:Ci g.1.1 g.1.2.1 g.1.2.2 g.2.1.2 g.2.2.1.2 g.2.2.2.2=true:=h;unfold Ci at e;simp only [Bool.and_eq_true]at e;exact⟨.of e.1.1.1.2,.of e.1.1.2,.of e.1.2⟩
theorem Yju{fr e:Int}{g:Zj}(f:SgG g)(h:Kv fr e g=true):0<=cA fr g-g.1.1/\0<cB e g-cA fr g/\(cA fr g-g.1.1)+(cB e g-cA fr g)<=g.1.2.1-g.1.1/\0<g.1.2.1-g.1.1:=by have m:=of_decide_eq_true h;have j:=f.t1;have l:=f.t2;unfold cA cB at *;exact⟨O,O,O,O⟩
theorem Zwx{fr v:Int}{g:Zj}(hi:Gin g)(hs:seB g=true)(h:Kv fr v g=true):MdG fr v g:=by
 have f:SgG g:=My hi hs;obtain⟨B,D,F⟩:=Zwd hs;obtain⟨H,I,N,P⟩:=Yju f h;obtain⟨t,u,-,-⟩:=cut_b f h;have W:=f.t3;have V:=f.t1;have R:=f.o1;have S:=f.o2;have j:1<=g.1.2.1-g.1.1/\g.1.2.1-g.1.1<=3600000:=⟨O,O⟩;have w:=Zhw f.hx f.lx t u j;have y:=Zhw f.hy f.ly t u j;have z:=Zhw f.hz f.lz t u j;have s:0<cO g:=Int.mul_pos O (Int.pow_pos O);have n:((cO g).natAbs:Int)=cO g:=O;have m:∀{c:List Int},AxC c g.1.2.2->∀k,(cf (cX fr v g c) k).natAbs<=(cO g).natAbs*2146435072:=λQ k=>by
  have:=cf_cmp Q H (Int.le_of_lt I) N P k;have e:(((cO g).natAbs*2146435072:Nat):Int)=cO g*2146435072:=by rw [Int.natCast_mul,n];rfl
  refine Int.ofNat_le.1 ?_;rw [e];exact this
 refine⟨s,?_,λi=>?_,λi=>?_,λi k=>?_⟩
 .have Y:bl g.1.2.2.natAbs<=40:=(Qg 40 _).2 O;have Z:=Zie j;have:=Xa g.1.2.2 ((g.1.2.1-g.1.1)^5);show bl (g.1.2.2*(g.1.2.1-g.1.1)^5).natAbs<=1000;omega
 .exact Dz (p:=λl:List Int=>Sz 1000 l) w.2.2.2.2.2.2.1 y.2.2.2.2.2.2.1 z.2.2.2.2.2.2.1
 .exact Dz (p:=λl:List Int=>l.length<=6) w.2.2.2.2.2.2.2 y.2.2.2.2.2.2.2 z.2.2.2.2.2.2.2
 .exact Dz (p:=λl:List Int=>(cf l k).natAbs<=(cO g).natAbs*2146435072) (m B k) (m D k) (m F k)
theorem Ynx(h:AxC c ov)(n:c.getD (c.length-1) 0≠0){a b:Int}(v:0<b)(y:0<d):(Qt c a b d).length=c.length:=by
 have D:=h.l;have B:=Zga (c:=c) a b d;rcases Nat.lt_or_ge (Qt c a b d).length c.length with q|q
 .exfalso;have w:(b:Rat)≠0:=by
    have:(0:Rat)<(b:Rat):=by exact_mod_cast v
    grind
  have z:(d:Rat)≠0:=by
    have:(0:Rat)<(d:Rat):=by exact_mod_cast y
    grind
  have m:∀t:Rat,t*(d:Rat)=(a:Rat)+(b:Rat)*((t*d-a)/b):=λt=>O4;by_cases j:(Qt c a b d).length=0
  .have s:=List.eq_nil_of_length_eq_zero j;have:∀t:Rat,Zd c t=0:=λt=>by
    have e:=Zfr h (m t);rw [s]at e;have f:(d:Rat)^5*Zd c t=0:=e.symm;have l:(d:Rat)^5≠0:=by rw [show(d:Rat)^5=d*d*d*d*d by rw [Rat.pow_succ,Rat.pow_succ,Rat.pow_succ,Rat.pow_succ,Rat.pow_succ,Rat.pow_zero];grind];grind
    grind
   exact n (Zo8 this _)
  .have g:∀t:Rat,Zd ((Ld (Qt c a b d) (-a) d b).map λq=>1*q) t=Zd (c.map λq=>b^((Qt c a b d).length-1)*d^5*q) t:=λt=>by rw [Zk,Zk];have e:=Zfr h (m t);have f:=Zkq (p:=Qt c a b d) (-a) d b (t:=(t*d-a)/b) (u:=t) (by push_cast;grind) j;rw [f,e];push_cast;rw [<-Zc5,<-Zc5];push_cast;grind
   have e:=Oy g (c.length-1);rw [Du,Du,Yl (by have:=Zet (Qt c a b d) (-a) d b;omega)]at e;have f:b^((Qt c a b d).length-1)*d^5≠0:=Int.mul_ne_zero (Int.pow_ne_zero O) (Int.pow_ne_zero O);have l:b^((Qt c a b d).length-1)*d^5*cf c (c.length-1)=0:=O;rcases Int.mul_eq_zero.1 l with q|q
   .exact f q
   .exact n q
 .omega
theorem Zxs{X:List Int}(f:0<G)(e:∀x∈X,G∣x)(i:Nat):cf (Hi X G) i*G=cf X i:=by
 unfold Hi;split
 .rename_i h;rw [List.eq_nil_of_length_eq_zero h]
  match i with
  | 0=>show(0:Int)*G=cf [] 0;rw [Int.zero_mul];rfl
  | i+1=>show(0:Int)*G=cf [] (i+1);rw [Int.zero_mul];rfl
 .rw [Zc3 _ _ O7];by_cases hi:i<X.length
  .have:cf X i∈X:=Ze hi;exact Int.ediv_mul_cancel (e _ this)
  .rw [Yl O];simp
theorem Ymu{X:List Int}(e:0<G)(f:∀x∈X,G∣x)(u:Rat):Zd (Hi X G) u*(G:Rat)=Zd X u:=by rw [Rat.mul_comm,<-Zk];exact Om u _ _ λi=>by rw [Du,Int.mul_comm,Zxs e f]
theorem Zh6(f g:Nat->Int)(a:Int)(h:∀k,f k*a=g k):∀m,Ye f m*a=Ye g m
 | 0=>Int.zero_mul _
 | m+1=>by rw [Yj,Yj,Int.add_mul,Zh6 f g a h m,h]
theorem Ypo{X:List Int}(e:0<G)(f:∀x∈X,G∣x)(n j:Nat):Iz n (Hi X G) j*G=Iz n X j:=by unfold Iz;exact Zh6 _ _ _ (λk=>by rw [Int.mul_right_comm,Zxs e f]) _
theorem Ynw(X:List Int)(G:Int):(Hi X G).length=max X.length 1:=by
 unfold Hi;split
 .rename_i h;rw [h];rfl
 .rw [List.length_map];omega
theorem Zx4(h:AxC c ov){a b:Int}(H:0<=a)(w:0<b)(s:a+b<=d)(y:0<d)(n:0<G)(B:∀x∈Qt c a b d,G∣x)(N:o*G=ov*d^5):AxC (Hi (Qt c a b d) G) o/\(Hi (Qt c a b d) G).length=c.length:=by
 have Q:=h.l;have f:(Hi (Qt c a b d) G).length=c.length/\(1<c.length->(Qt c a b d).length=c.length):=by
  rw [Ynw];by_cases D:c.getD (c.length-1) 0=0
  .have:=h.t;have I:=Zga (c:=c) a b d;have g:c.length=1:=by
    by_cases l:1<c.length
    .exact absurd ⟨l,D⟩ this
    .omega
   exact⟨O,λl=>O⟩
  .have:=Ynx h D (a:=a) w y;exact⟨O,λ_=>this⟩
 refine⟨⟨O,λ⟨g,t⟩=>?_,λj z=>?_⟩,f.1⟩
 .rw [f.1]at g t;have l:cf (Hi (Qt c a b d) G) (c.length-1)=0:=t;have u:=Zxs n B (c.length-1);rw [l,Int.zero_mul]at u;have m:=f.2 g;have P:Tr (Qt c a b d):=Qk _ _;have v:=P.mem (λe=>by rw [e]at m;simp at m;omega);rw [m]at v;exact v u.symm
 .rw [f.1]at z ⊢;have g:=Ybe h H (Int.le_of_lt w) s y j z;rw [<-Ypo n B,<-N,Int.natAbs_mul]at g;have F:((G.natAbs:Nat):Int)=G:=O;push_cast at g;rw [F]at g;refine Int.le_of_mul_le_mul_right (a:=G) ?_ n;refine Int.le_trans g (Int.le_of_eq ?_);grind
theorem Zun{G:Int}(e:0<G):∀(l:List Int) (o:Int),Np (G*o) (l.map (G*·))=G*Np o l
 | [],o=>rfl
 | x::l,o=>by show Np ((Int.gcd (G*o) (G*x):Nat):Int) (l.map (G*·))=G*Np ((Int.gcd o x:Nat):Int) l;rw [Int.gcd_mul_left];push_cast;rw [show((G.natAbs:Nat):Int)=G by omega];exact Zun e l _
theorem Zlq{X:List Int}(g:0<G)(e:∀x∈X,G∣x)(j:0<=o):Np o ((Hi X G).map (G*·))=Np o X:=by
 unfold Hi;split
 .rename_i h;rw [List.eq_nil_of_length_eq_zero h];show((Int.gcd o (G*0):Nat):Int)=o;rw [Int.mul_zero,Int.gcd_zero_right];omega
 .congr 1;rw [List.map_map]
  conv=>rhs;rw [<-List.map_id X]
  refine List.map_congr_left λx f=>?_;show G*(x/G)=x;exact Int.mul_ediv_cancel' (e x f)
theorem Yn7{X Y Z:List Int}{f:Int}(g:0<o)(e:0<Ke o X Y Z)(n:∀x∈X,Ke o X Y Z∣x)(s:∀x∈Y,Ke o X Y Z∣x)(t:∀x∈Z,Ke o X Y Z∣x)(h:Ke o X Y Z*f=o) :
  Np f (Hi X (Ke o X Y Z) ++ Hi Y (Ke o X Y Z) ++ Hi Z (Ke o X Y Z))=1:=by
 have j:=Zun e (Hi X (Ke o X Y Z) ++ Hi Y (Ke o X Y Z) ++ Hi Z (Ke o X Y Z)) f;rw [h,List.map_append,List.map_append,Iy,Iy,Zlq e n (Int.le_of_lt g),Zlq e s (Zgc _ _ (Int.le_of_lt g)),Zlq e t (Zgc _ _ (Zgc _ _ (Int.le_of_lt g)))]at j;have l:Ke o X Y Z=Np (Np (Np o X) Y) Z:=by show Np o (X ++ Y ++ Z)=_;rw [Iy,Iy]
 rw [<-l]at j;generalize Np f _=r at *;have m:Ke o X Y Z*r=Ke o X Y Z*1:=O;exact Int.eq_of_mul_eq_mul_left O m
structure Prt (q g:Zj) (G:Int):Prop where
 g0:0<G
 a0:0<=q.1.1-g.1.1
 b0:0<q.1.2.1-q.1.1
 ab:(q.1.1-g.1.1)+(q.1.2.1-q.1.1)<=g.1.2.1-g.1.1
 o:q.1.2.2*G=g.1.2.2*(g.1.2.1-g.1.1)^5
 x:∀i (t u:Rat),t*((g.1.2.1-g.1.1:Int):Rat)=((q.1.1-g.1.1:Int):Rat)+((q.1.2.1-q.1.1:Int):Rat)*u->Zd (Zo i q.2.1.2 q.2.2.1.2 q.2.2.2.2) u*(G:Rat)=((g.1.2.1-g.1.1:Int):Rat)^5*Zd (Zo i g.2.1.2 g.2.2.1.2 g.2.2.2.2) t
theorem Zw2{X:List Int}(h:∀k,(X.getD k 0/G).natAbs<=9223372036854775807):∀a∈Hi X G,Ng a:=λa e=>by
 unfold Hi at e;split at e
 .rw [List.mem_singleton.1 e];exact⟨O2,O2⟩
 .obtain⟨x,g,rfl⟩:=List.mem_map.1 e;obtain⟨k,f⟩:=List.mem_iff_getElem?.1 g;have:=h k;rw [List.getD_eq_getElem?_getD,f]at this;simp only [Option.getD_some]at this;exact⟨O,O⟩
theorem Zpi{a b:Int}{t u:Rat}(f:AxC c ov)(e:0<G)(g:∀x∈Qt c a b d,G∣x)(h:t*(d:Rat)=(a:Rat)+(b:Rat)*u):Zd (Hi (Qt c a b d) G) u*(G:Rat)=(d:Rat)^5*Zd c t:=by rw [Ymu e g];exact Zfr f h
theorem Yot{fr e:Int}{g:Zj}(hi:Gin g)(hs:seB g=true)(hp:Kv fr e g=true)(hk:Zgo fr e g=true)(hu:Gn q=Zu9 fr e g):Gin q/\seB q=true/\Prt q g (cG fr e g):=by
 have S:SgG g:=My hi hs;obtain⟨a1,a2,a3⟩:=Zwd hs;obtain⟨F,H,I,P⟩:=Yju S hp;have R:=Zwx hi hs hp;obtain⟨g1,⟨s,a4⟩,Q⟩:=R.g;have m:0<cG fr e g:=g1;have w:∀x∈cX fr e g g.2.1.2,cG fr e g∣x:=Q 0 O2;have y:∀x∈cX fr e g g.2.2.1.2,cG fr e g∣x:=Q 1 O2;have z:∀x∈cX fr e g g.2.2.2.2,cG fr e g∣x:=Q 2 O2;have B:cG fr e g*s=cO g:=a4.symm;have v:cO g/cG fr e g=s:=by rw [<-B];exact Int.mul_ediv_cancel_left _ O
 have f:cO g/cG fr e g<=4294967296:=of_decide_eq_true hk;have a5:0<cO g:=R.o;have a9:0<s:=by
  by_cases h:0<s
  .exact h
  .have:=Int.mul_nonpos_of_nonneg_of_nonpos (Int.le_of_lt m) (show s<=0 by omega);omega
 have n:s*cG fr e g=g.1.2.2*(g.1.2.1-g.1.1)^5:=by rw [Int.mul_comm];exact B
 obtain⟨x1,x2⟩:=Zx4 a1 F H I P m w n;obtain⟨y1,y2⟩:=Zx4 a2 F H I P m y n;obtain⟨z1,z2⟩:=Zx4 a3 F H I P m z n;obtain⟨⟨qf,qt,qo⟩,⟨sx,qx⟩,⟨sy,qy⟩,⟨sz,qz⟩⟩:=q;unfold Gn Zu9 at hu;rw [mdO_t f,Zf7 f,Zf7 f,Zf7 f,v]at hu;injection hu with h1 h2;injection h1 with hf h1;injection h1 with ht N;injection h2 with hx h2;injection h2 with hy hz;dsimp only at hf ht N hx hy hz;subst hf ht hx hy hz;have N:=N.symm;subst N;have j:=λi (hi:i<3) k=>R.fit (i:=i) f hi k;have a7:=of_decide_eq_true hp;have b0:=S.t1;have b1:=S.t3;have V:∀a∈Hi (cX fr e g g.2.1.2) (cG fr e g),Ng a:=Zw2 (j 0 O2);have W:∀a∈Hi (cX fr e g g.2.2.1.2) (cG fr e g),Ng a:=Zw2 (j 1 O2);have a0:∀a∈Hi (cX fr e g g.2.2.2.2) (cG fr e g),Ng a:=Zw2 (j 2 O2);have a8:s<=4294967296:=v▸f;have a6:0<=cA fr g/\cB e g<=3600000:=by unfold cA cB;exact⟨O,O⟩
 have i1:Ng (cA fr g):=⟨O,O⟩;have i2:Ng (cB e g):=⟨O,O⟩;have i3:Ng s:=⟨O,O⟩;refine⟨⟨i1,i2,i3,V,W,a0⟩,?_,⟨m,F,H,by show(cA fr g-g.1.1)+(cB e g-cA fr g)<=_;exact I,n,λi t u D=>?_⟩⟩
 .show Ci (cA fr g) (cB e g) s _ _ _=true;unfold Ci Yby;simp only [Bool.and_eq_true,decide_eq_true_eq];exact⟨⟨⟨⟨⟨⟨⟨⟨O,O⟩,O⟩,O⟩,O⟩,x1.to⟩,y1.to⟩,z1.to⟩,Yn7 a5 m w y z B⟩
 .have l:t*((g.1.2.1-g.1.1:Int):Rat)=((cA fr g-g.1.1:Int):Rat)+((cB e g-cA fr g:Int):Rat)*u:=D;clear D;have k0:=Zpi a1 m w l;have k1:=Zpi a2 m y l;have k2:=Zpi a3 m z l;dsimp only;generalize Hi (cX fr e g g.2.1.2) (cG fr e g)=X at *;generalize Hi (cX fr e g g.2.2.1.2) (cG fr e g)=Y at *;generalize Hi (cX fr e g g.2.2.2.2) (cG fr e g)=Z at *;generalize ((cG fr e g:Int):Rat)=GG at *;generalize ((g.1.2.1-g.1.1:Int):Rat)^5=DD at *
  match i with
  | 0=>exact k0
  | 1=>exact k1
  | i+2=>exact k2
def cgb0(f:0<=M)(e:-(M*1)<=(x0*1)/\(x0*1)<=M*1):(-(80*M)<=x0/\x0<=80*M):=O
theorem cgb1(g:0<=M)(e:-(M*1)<=(x0*1)/\(x0*1)<=M*1)(f:-(M*1)<=(x0*1+x1*1)/\(x0*1+x1*1)<=M*1):(-(80*M)<=x0/\x0<=80*M)/\(-(80*M)<=x1/\x1<=80*M):=by refine⟨⟨?_,?_⟩,⟨?_,?_⟩⟩<;>omega
theorem cgb2(h:0<=M)(e:-(M*1)<=(x0*1)/\(x0*1)<=M*1)(f:-(M*2)<=(x0*2+x1*1)/\(x0*2+x1*1)<=M*2)(g:-(M*1)<=(x0*1+x1*1+x2*1)/\(x0*1+x1*1+x2*1)<=M*1):(-(80*M)<=x0/\x0<=80*M)/\(-(80*M)<=x1/\x1<=80*M)/\(-(80*M)<=x2/\x2<=80*M):=by refine⟨⟨?_,?_⟩,⟨?_,?_⟩,⟨?_,?_⟩⟩<;>omega
theorem cgb3(j:0<=M)(e:-(M*1)<=(x0*1)/\(x0*1)<=M*1)(f:-(M*3)<=(x0*3+x1*1)/\(x0*3+x1*1)<=M*3)(g:-(M*3)<=(x0*3+x1*2+x2*1)/\(x0*3+x1*2+x2*1)<=M*3)(h:-(M*1)<=(x0*1+x1*1+x2*1+x3*1)/\(x0*1+x1*1+x2*1+x3*1)<=M*1):(-(80*M)<=x0/\x0<=80*M)/\(-(80*M)<=x1/\x1<=80*M)/\(-(80*M)<=x2/\x2<=80*M)/\(-(80*M)<=x3/\x3<=80*M):=by refine⟨⟨?_,?_⟩,⟨?_,?_⟩,⟨?_,?_⟩,⟨?_,?_⟩⟩<;>omega
theorem cgb4(l:0<=M)(e:-(M*1)<=(x0*1)/\(x0*1)<=M*1)(f:-(M*4)<=(x0*4+x1*1)/\(x0*4+x1*1)<=M*4)(g:-(M*6)<=(x0*6+x1*3+x2*1)/\(x0*6+x1*3+x2*1)<=M*6)(h:-(M*4)<=(x0*4+x1*3+x2*2+x3*1)/\(x0*4+x1*3+x2*2+x3*1)<=M*4)(j:-(M*1)<=(x0*1+x1*1+x2*1+x3*1+x4*1)/\(x0*1+x1*1+x2*1+x3*1+x4*1)<=M*1):(-(80*M)<=x0/\x0<=80*M)/\(-(80*M)<=x1/\x1<=80*M)/\(-(80*M)<=x2/\x2<=80*M)/\(-(80*M)<=x3/\x3<=80*M)/\(-(80*M)<=x4/\x4<=80*M):=by refine⟨⟨?_,?_⟩,⟨?_,?_⟩,⟨?_,?_⟩,⟨?_,?_⟩,⟨?_,?_⟩⟩<;>omega
theorem cgb5{e:Int}(n:0<=M)(f:-(M*1)<=(x0*1)/\(x0*1)<=M*1)(g:-(M*5)<=(x0*5+x1*1)/\(x0*5+x1*1)<=M*5)(h:-(M*10)<=(x0*10+x1*4+x2*1)/\(x0*10+x1*4+x2*1)<=M*10)(j:-(M*10)<=(x0*10+x1*6+x2*3+x3*1)/\(x0*10+x1*6+x2*3+x3*1)<=M*10)(l:-(M*5)<=(x0*5+x1*4+x2*3+x3*2+x4*1)/\(x0*5+x1*4+x2*3+x3*2+x4*1)<=M*5)(m:-(M*1)<=(x0*1+x1*1+x2*1+x3*1+x4*1+e*1)/\(x0*1+x1*1+x2*1+x3*1+x4*1+e*1)<=M*1):(-(80*M)<=x0/\x0<=80*M)/\(-(80*M)<=x1/\x1<=80*M)/\(-(80*M)<=x2/\x2<=80*M)/\(-(80*M)<=x3/\x3<=80*M)/\(-(80*M)<=x4/\x4<=80*M)/\(-(80*M)<=e/\e<=80*M):=by refine⟨⟨?_,?_⟩,⟨?_,?_⟩,⟨?_,?_⟩,⟨?_,?_⟩,⟨?_,?_⟩,⟨?_,?_⟩⟩<;>omega
theorem cg_brS{n:Nat}(v:n<6)(y:c.length<=n+1)(h:∀j,j<n+1->((Iz n c j).natAbs:Int)<=M*(Oi n j:Int))(k:Nat):((cf c k).natAbs:Int)<=80*M:=by
 have s:0<=M:=by have f:=h 0 O;rw [Zl7]at f;omega
 by_cases w:k<n+1
 .rw [Xv]
  match n,v with
  | 0,_=>
   have f:=Xv.1 (h 0 O2);rw [bre00,show(Oi 0 0:Int)=1 from rfl]at f;have e:=cgb0 s f;obtain rfl:k=0:=O;exact e
  | 1,_=>
   have f:=Xv.1 (h 0 O2);rw [bre10,show(Oi 1 0:Int)=1 from rfl]at f;have g:=Xv.1 (h 1 O2);rw [bre11,show(Oi 1 1:Int)=1 from rfl]at g;have e:=cgb1 s f g;rcases(show k=0\/k=1 by omega)with rfl|rfl
   .exact e.1
   .exact e.2
  | 2,_=>
   have f:=Xv.1 (h 0 O2);rw [bre20,show(Oi 2 0:Int)=1 from rfl]at f;have g:=Xv.1 (h 1 O2);rw [bre21,show(Oi 2 1:Int)=2 from rfl]at g;have l:=Xv.1 (h 2 O2);rw [bre22,show(Oi 2 2:Int)=1 from rfl]at l;have e:=cgb2 s f g l;rcases(show k=0\/k=1\/k=2 by omega)with rfl|rfl|rfl
   .exact e.1
   .exact e.2.1
   .exact e.2.2
  | 3,_=>
   have f:=Xv.1 (h 0 O2);rw [bre30,show(Oi 3 0:Int)=1 from rfl]at f;have g:=Xv.1 (h 1 O2);rw [bre31,show(Oi 3 1:Int)=3 from rfl]at g;have l:=Xv.1 (h 2 O2);rw [bre32,show(Oi 3 2:Int)=3 from rfl]at l;have m:=Xv.1 (h 3 O2);rw [bre33,show(Oi 3 3:Int)=1 from rfl]at m;have e:=cgb3 s f g l m;rcases(show k=0\/k=1\/k=2\/k=3 by omega)with rfl|rfl|rfl|rfl
   .exact e.1
   .exact e.2.1
   .exact e.2.2.1
   .exact e.2.2.2
  | 4,_=>
   have f:=Xv.1 (h 0 O2);rw [bre40,show(Oi 4 0:Int)=1 from rfl]at f;have g:=Xv.1 (h 1 O2);rw [bre41,show(Oi 4 1:Int)=4 from rfl]at g;have l:=Xv.1 (h 2 O2);rw [bre42,show(Oi 4 2:Int)=6 from rfl]at l;have m:=Xv.1 (h 3 O2);rw [bre43,show(Oi 4 3:Int)=4 from rfl]at m;have t:=Xv.1 (h 4 O2);rw [bre44,show(Oi 4 4:Int)=1 from rfl]at t;have e:=cgb4 s f g l m t;rcases(show k=0\/k=1\/k=2\/k=3\/k=4 by omega)with rfl|rfl|rfl|rfl|rfl
   .exact e.1
   .exact e.2.1
   .exact e.2.2.1
   .exact e.2.2.2.1
   .exact e.2.2.2.2
  | 5,_=>
   have f:=Xv.1 (h 0 O2);rw [bre50,show(Oi 5 0:Int)=1 from rfl]at f;have g:=Xv.1 (h 1 O2);rw [bre51,show(Oi 5 1:Int)=5 from rfl]at g;have l:=Xv.1 (h 2 O2);rw [bre52,show(Oi 5 2:Int)=10 from rfl]at l;have m:=Xv.1 (h 3 O2);rw [bre53,show(Oi 5 3:Int)=10 from rfl]at m;have t:=Xv.1 (h 4 O2);rw [bre54,show(Oi 5 4:Int)=5 from rfl]at t;have u:=Xv.1 (h 5 O2);rw [bre55,show(Oi 5 5:Int)=1 from rfl]at u;have e:=cgb5 s f g l m t u;rcases(show k=0\/k=1\/k=2\/k=3\/k=4\/k=5 by omega)with rfl|rfl|rfl|rfl|rfl|rfl
   .exact e.1
   .exact e.2.1
   .exact e.2.2.1
   .exact e.2.2.2.1
   .exact e.2.2.2.2.1
   .exact e.2.2.2.2.2
 .rw [Yl O];simp;omega
theorem AxC.cg(h:AxC c ov)(k:Nat):((cf c k).natAbs:Int)<=83886080*ov:=by have f:=h.l;have:=cg_brS (n:=c.length-1) O (c:=c) O (M:=1048576*ov) (λj e=>h.b j O) k;omega
theorem Zzk(c:List Int)(a:Int):∀k,plS c a 1 k=Ye (λk=>cf c k*a^k) k
 | 0=>rfl
 | k+1=>by show plS c a 1 k+plT c a 1 k=_;rw [Yj,Zzk c a k];congr 1;show c.getD k 0*(a^k*1^_)=cf c k*a^k;rw [Int.one_pow,Int.mul_one];rfl
theorem Znu(f:Nat->Int):∀n,((Ye f n:Int):Rat)=Hr (λi=>(f i:Rat)) n
 | 0=>rfl
 | n+1=>by rw [Yj,Nt,<-Znu f n];push_cast;rfl
theorem Ygw(c:List Int)(a:Int):((pl c a 1:Int):Rat)=Zd c (a:Rat):=by
 unfold pl;rw [Zzk,Znu]
 conv=>rhs;rw [<-Zdr c]
 rw [Zjc];exact Lb _ λi hi=>by rw [<-Zc5];push_cast;rfl
theorem Prt.pl{g:Zj}(h:Prt q g G){a e:Int}(l:a*(g.1.2.1-g.1.1)=(q.1.1-g.1.1)+(q.1.2.1-q.1.1)*e)(i:Nat) :
  Sky.pl (Zo i q.2.1.2 q.2.2.1.2 q.2.2.2.2) e 1*G=Sky.pl (Zo i g.2.1.2 g.2.2.1.2 g.2.2.2.2) a 1*(g.1.2.1-g.1.1)^5:=by
 have f:=h.x i (a:Rat) (e:Rat) (by exact_mod_cast l);rw [<-Ygw,<-Ygw,<-Zc5]at f;have j:((Sky.pl (Zo i q.2.1.2 q.2.2.1.2 q.2.2.2.2) e 1*G:Int):Rat)=((Sky.pl (Zo i g.2.1.2 g.2.2.1.2 g.2.2.2.2) a 1*(g.1.2.1-g.1.1)^5:Int):Rat):=by rw [Rat.intCast_mul,Rat.intCast_mul,f,Rat.mul_comm]
 exact_mod_cast j
structure Chn (ps:List Zj):Prop where
 lt:∀g∈ps,g.1.1<g.1.2.1
 eq:∀(i:Nat) (g h:Zj),ps[i]? = some g->ps[i+1]? = some h->g.1.2.1=h.1.1
def Chn.tail{g:Zj}(h:Chn (g::r)):Chn r:=⟨λx e=>h.lt x (List.mem_cons_of_mem _ e),λi x y e f=>h.eq (i+1) x y e f⟩
theorem Chn.ge:∀{r:List Zj} {g:Zj},Chn (g::r)->∀x∈r,g.1.2.1<=x.1.1
 | [],_,_,_,e=>nomatch e
 | h::r,g,hc,x,e=>by
  have f:=hc.eq 0 g h rfl rfl;rcases List.mem_cons.1 e with rfl|e
  .omega
  .have:=Chn.ge hc.tail x e;have:=hc.lt h O7;omega
theorem Zqm{fr n:Int} : ∀{ps:List Zj},Chn ps->∀(j:Nat) (f l:Zj),(ps.filter (Kv fr n))[j]? = some f->(ps.filter (Kv fr n))[j+1]? = some l->∃i:Nat,ps[i]? = some f/\ps[i+1]? = some l
 | [],_,j,f,l,h,_=>by simp at h
 | g::r,hc,j,f,l,h1,e=>by
  cases hp:Kv fr n g with
  | false=>
   rw [List.filter_cons_of_neg (by rw [hp];exact Bool.false_ne_true)]at h1 e;obtain⟨i,a,b⟩:=Zqm hc.tail j f l h1 e;exact⟨i+1,a,b⟩
  | true=>
   rw [List.filter_cons_of_pos hp]at h1 e
   match j with
   | j+1=>
    obtain⟨i,a,b⟩:=Zqm hc.tail j f l h1 e;exact⟨i+1,a,b⟩
   | 0=>
    obtain rfl:g=f:=by simpa using h1
    have e:(r.filter (Kv fr n))[0]? = some l:=e;have v:l∈r.filter (Kv fr n):=List.mem_of_getElem? e;obtain⟨m,s⟩:=List.mem_filter.1 v
    match r,hc,e,m with
    | h::r,hc,e,m=>
     have y:=hc.eq 0 g h rfl rfl;have z:=hc.lt h O7;have w:=of_decide_eq_true hp;have t:=of_decide_eq_true s;have u:Kv fr n h=true:=by
      refine decide_eq_true ?_;unfold cA cB at *;rcases List.mem_cons.1 m with rfl|q
      .exact t
      .have:=Chn.ge hc.tail l q;omega
     rw [List.filter_cons_of_pos u]at e;obtain rfl:h=l:=by simpa using e
     exact⟨0,rfl,rfl⟩
theorem getD_some{α:Type}{l:List α}{x d:α}(h:l[i]? = some x):l.getD i d=x:=by rw [List.getD_eq_getElem?_getD,h];rfl
theorem Zco{ps:List Zj}(hi:∀g∈ps,Gin g)(u:Xn ps=true):Chn ps/\(∀g∈ps,seB g=true)/\∀(i:Nat) (g h:Zj),ps[i]? = some g->ps[i+1]? = some h->meG g h=true:=by
 obtain⟨t,v,w⟩:=On u;have m:∀g∈ps,seB g=true:=λg f=>by obtain⟨i,j,e⟩:=List.mem_iff_getElem.1 f;have:=Fz (t i j);rw [List.getD_eq_getElem?_getD,List.getElem?_eq_getElem j,Option.getD_some,e]at this;exact this
 have l:∀(i:Nat) (g h:Zj),ps[i]? = some g->ps[i+1]? = some h->meG g h=true:=λi g h f n=>by have s:=(List.getElem?_eq_some_iff.1 n).1;have:=t (i+1) s;rw [Zhm (Fz this) O,Nat.add_sub_cancel,getD_some f,getD_some n]at this;exact this
 refine⟨⟨λg f=>(My (hi g f) (m g f)).t2,λi g h f n=>?_⟩,m,l⟩;have:=l i g h f n;unfold meG Zlb at this;rw [Bool.and_eq_true,decide_eq_true_iff]at this;exact this.1
structure Pat (fr to:Int) (ps qs:List Zj):Prop where
 gin:∀q∈qs,Gin q
 pb:Xn qs=true
 len:qs.length=(ps.filter (Kv fr to)).length
 prt:∀(j:Nat) (q:Zj),qs[j]? = some q->∃f:Zj,(ps.filter (Kv fr to))[j]? = some f/\f∈ps/\Prt q f (cG fr to f)
 nxt:∀(j:Nat) (q r:Zj),qs[j]? = some q->qs[j+1]? = some r->∃(i:Nat) (f h:Zj),ps[i]? = some f/\ps[i+1]? = some h/\Prt q f (cG fr to f)/\Prt r h (cG fr to h)/\q.1.2.1=f.1.2.1/\r.1.1=h.1.1
theorem Yjt{fr j:Int} : ∀{ps:List Zj},Chn ps->ps≠[]->spF ps<=fr->fr<j->j<=spL ps->ps.filter (Kv fr j)≠[]
 | [],_,h,_,_,_=>absurd rfl h
 | g::r,hc,_,n,h2,f=>by
  have t:=hc.lt g O7;have n:g.1.1<=fr:=n;by_cases l:Kv fr j g=true
  .rw [List.filter_cons_of_pos l];exact List.cons_ne_nil _ _
  .have m:¬cA fr g<cB j g:=λh=>l (decide_eq_true h);have e:g.1.2.1<=fr:=by unfold cA cB at m;omega
   rw [List.filter_cons_of_neg l]
   match r,hc,f with
   | [],_,f=>
    have f:j<=g.1.2.1:=f;omega
   | h::r,hc,f=>
    have s:=hc.eq 0 g h rfl rfl;refine Yjt hc.tail (List.cons_ne_nil _ _) (by show h.1.1<=fr;omega) h2 ?_;have:spL (g::h::r)=spL (h::r):=by unfold spL;simp
    rw [<-this];exact f
theorem bl_dl{a b:Int}{n:Nat}(h:bl a.natAbs<=n):bl (a/b).natAbs<=n:=by rw [Qg]at h ⊢;exact Nat.lt_of_le_of_lt (Int.natAbs_ediv_le_natAbs a b) h
def jqP(fr h ov:Int)(x y z:List Int)(e g f:Int)(x2 j l:List Int)(i:Nat):Prop:=qr (bgS (Zo i x2 j l)) (Al [f,g-e])=qr (enS (Zo i x y z)) (Al [ov,h-fr])
def refS(o:Nat)(x y z:List Int):Nat->List Int
 | 0=>[]
 | i+1=>Hh (refS o x y z i) (Qn (dN o (tzl (Zo i x y z))) (dN o (tzl (Zo i x y z))))
def refC(o:Nat)(m ov T:Int):Int:=m^2*ov^2*T^(2*o)
def refF(o:Nat)(m ov T:Int)(x y z:List Int):List Int:=Ct (tzl [refC o m ov T]) (Zm (refS o x y z 3) (1000^(2*o)))
theorem ps_Cm(a b:Int):PS.C (a*b)=PS.C a*PS.C b:=PS.ext' λi=>by rw [PS.C_mul_c];cases i<;>simp [PS.C]
theorem Ycd(p:List Int)(k:Int):Qn (Zm p k) (Zm p k)=Zm (Qn p p) (k*k):=(Qa _ _).ps_inj (Qk _ _) (by rw [Zje,Zhi,Zhi,Zje,ps_Cm];grind)
theorem sz_one{c:Int}{n:Nat}(h:bl c.natAbs<=n):Sz n [c]:=Sz.of_mem λt e=>by rw [List.mem_singleton.1 e];exact h
def frB(ps:List Zj)(f e:Int)(i:Nat):Int:=
 if 0<i/\joG (ps.getD (i-1) G0) (ps.getD i G0)=false then 1 else if Cd (Yil 1 f (ps.getD i G0))=true then 2 else if Cd (Yil 2 e (ps.getD i G0))=true then 3 else 0
def fiB(ps:List Zj)(f e:Int):Option (Nat×Int):=((List.range ps.length).find? λi=>decide (frB ps f e i≠0)).map λi=>(i,frB ps f e i)
theorem tf(b:Bool):b=false\/b=true:=by cases b<;>simp
def fiI(o:Option (Nat×Int)):Int:=match o with
 | none=>0
 | some g=>g.1
def fiC(o:Option (Nat×Int)):Int:=match o with
 | none=>0
 | some g=>g.2
abbrev firV (o:Option (Nat×Int)):Value:= .tuple #[.agg #[.int .i64 (fiI o),.int .i64 (fiC o)],.bool o.isSome,.int .i64 0]
theorem Zkr(p q:List Int)(x:Rat):Zd (Hh p q) x=Zd p x+Zd q x:=by rw [<-Xh];exact Om x _ _ λi=>by rw [Ej,Mb]
theorem Yf0(p q:List Int)(x:Rat):Zd (Ct p q) x=Zd p x-Zd q x:=by
 have:Zd (Ct p q) x=Zd (Ma p (q.map λa=>-1*a)) x:=Om x _ _ λi=>by rw [Ds,Mb,Qi];omega
 rw [this,Xh,Zk];push_cast;grind
theorem Yf2(p:List Int)(x:Rat):Zd p x=(Ym p:Rat)*Zd (Zz p) x:=by rw [<-Zk];exact Om x _ _ λi=>by rw [Qi,Int.mul_comm,Gg]
theorem Zvc(h:Tr p)(e:p≠[]):(0:Rat)<(Ym p:Rat):=by have f:=Bt h e;have g:=Nb p;exact_mod_cast (show 0<Ym p by omega)
theorem Zt0(h:Tr p)(x:Rat):Zd (Zz p) x<0↔Zd p x<0:=by
 by_cases e:p=[]
 .subst e;rfl
 .have f:=Zvc h e;rw [Yf2 p];constructor
  .intro h;have:=Rat.mul_lt_mul_of_pos_left h f;rw [Rat.mul_zero]at this;exact this
  .intro h;by_cases q:Zd (Zz p) x<0
   .exact q
   .exact absurd (Rat.mul_nonneg (Rat.le_of_lt f) (Rat.not_lt.1 q)) (Rat.not_le.2 h)
def spd(o:Nat)(x y z:List Int)(u:Rat):Rat:=Zd (refS o x y z 3) u
def lstB(o:Nat)(ps:List Zj):Nat:=Yl4 (λn=>Yh2 o ps (n:Int)) 14 0 10000
def lsV(o:Nat)(ps:List Zj):Nat:=if Yh2 o ps 10000 then lstB o ps else 0
theorem Znc(a b:Bool):a=false\/(a=true/\b=false)\/(a=true/\b=true):=by cases a<;>cases b<;>simp
def dR(o:Nat)(c:List Int)(u:Rat):Rat:=Zd (dN o (tzl c)) u
theorem Prt.num{g:Zj}(h:Prt q g G):∃v s:Rat,0<=v/\0<s/\v+s<=1/\s*((g.1.2.1-g.1.1:Int):Rat)=((q.1.2.1-q.1.1:Int):Rat)/\v*((g.1.2.1-g.1.1:Int):Rat)=((q.1.1-g.1.1:Int):Rat)/\(0:Rat)<((g.1.2.1-g.1.1:Int):Rat)/\
  ∀i (u:Rat),Zd (Zo i q.2.1.2 q.2.2.1.2 q.2.2.2.2) u*(G:Rat)=((g.1.2.1-g.1.1:Int):Rat)^5*Zd (Zo i g.2.1.2 g.2.2.1.2 g.2.2.2.2) (v+s*u):=by
 have m:=h.a0;have n:=h.b0;have t:=h.ab;have B:=h.x;generalize g.1.2.1-g.1.1=d at *;generalize q.1.2.1-q.1.1=b at *;generalize q.1.1-g.1.1=a at *;have j:(0:Rat)<(d:Rat):=by exact_mod_cast (show 0<d by omega)
 have w:(0:Rat)<=(a:Rat):=by exact_mod_cast m
 have z:(0:Rat)<(b:Rat):=by exact_mod_cast n
 have y:(a:Rat)+(b:Rat)<=(d:Rat):=by exact_mod_cast t
 have hi:0<(d:Rat)⁻¹:=Rat.inv_pos.2 j;have e:(a:Rat)/d*d=a:=Rat.div_mul_cancel O4;have f:(b:Rat)/d*d=b:=Rat.div_mul_cancel O4;refine⟨(a:Rat)/d,(b:Rat)/d,?_,?_,?_,f,e,j,λi u=>B i _ u (by
  have l:(b:Rat)/d*u*d=((b:Rat)/d*d)*u:=by rw [Rat.mul_assoc,Rat.mul_comm u,<-Rat.mul_assoc]
  rw [Rat.add_mul,e,l,f])⟩
 .rw [Rat.div_def];exact Rat.mul_nonneg w (Rat.le_of_lt hi)
 .rw [Rat.div_def];exact Rat.mul_pos z hi
 .have:((a:Rat)/d+b/d)*d<=1*d:=by rw [Rat.add_mul,e,f];grind
  exact Rat.le_of_mul_le_mul_right this j
def Zxm{fr e:Int}{ps:List Zj}(h:Px fr e ps=true):Zva fr e ps=0:=if_pos h
theorem Zxl{fr e:Int}{ps:List Zj}(h:Px fr e ps=false):Zva fr e ps=7:=if_neg (by rw [h];exact Bool.false_ne_true)
def lh_M{fr f:Int}{ps:List Zj}(hi:∀g∈ps,Gin g)(h:Xn ps=true):∀g∈ps,Kv fr f g=true->MdG fr f g:=λg e j=>Zwx (hi g e) ((Zco hi h).2.1 g e) j
def inn(fr e:Int)(ps:List Zj):List Int:=(ps.filter λg=>decide (fr<g.1.1) && decide (g.1.1<e)).map λg=>g.1.1
theorem inn_t{fr e:Int}{ps:List Zj}(j:k<ps.length)(f:fr<(ps.getD k G0).1.1)(h:(ps.getD k G0).1.1<e):inn fr e (ps.take (k+1))=inn fr e (ps.take k) ++ [(ps.getD k G0).1.1]:=by unfold inn;rw [Zg5 (x:=ps.getD k G0) (by rw [List.getD_eq_getElem?_getD,List.getElem?_eq_getElem j];rfl),List.filter_append,List.map_append];rw [show List.filter (λg:Zj=>decide (fr<g.1.1) && decide (g.1.1<e)) [ps.getD k G0]=[ps.getD k G0]from List.filter_cons_of_pos (by rw [decide_eq_true f,decide_eq_true h];rfl)];rfl
theorem inn_f{fr e:Int}{ps:List Zj}(j:k<ps.length)(h:¬(fr<(ps.getD k G0).1.1/\(ps.getD k G0).1.1<e)):inn fr e (ps.take (k+1))=inn fr e (ps.take k):=by
 unfold inn;rw [Zg5 (x:=ps.getD k G0) (by rw [List.getD_eq_getElem?_getD,List.getElem?_eq_getElem j];rfl),List.filter_append,List.map_append];rw [show List.filter (λg:Zj=>decide (fr<g.1.1) && decide (g.1.1<e)) [ps.getD k G0]=[] by rw [List.filter_cons_of_neg (λf=>by rw [Bool.and_eq_true]at f;exact h ⟨of_decide_eq_true f.1,of_decide_eq_true f.2⟩)];rfl]
 simp
theorem Zqb(fr e:Int)(ps:List Zj):(inn fr e ps).length<=ps.length:=by unfold inn;rw [List.length_map];exact List.length_filter_le _ _
theorem Zzu{fr j:Int}{ps:List Zj} : x∈inn fr j ps↔∃g∈ps,g.1.1=x/\fr<x/\x<j:=by
 unfold inn;rw [List.mem_map];constructor
 .rintro⟨g,h,rfl⟩;obtain⟨f,e⟩:=List.mem_filter.1 h;simp only [Bool.and_eq_true,decide_eq_true_eq]at e;exact⟨g,f,rfl,e.1,e.2⟩
 .rintro⟨g,h,rfl,f,e⟩;exact⟨g,List.mem_filter.2 ⟨h,by simp [f,e]⟩,rfl⟩
def cmF(a b:List Zj):Int:=max (spF a) (spF b)
def Aa(a b:List Zj):Int:=min (spL a) (spL b)
def Zfg(a b:List Zj)(i:Nat):List Int:=cmF a b::Aa a b::((if 1<=i then inn (cmF a b) (Aa a b) a else []) ++ (if 2<=i then inn (cmF a b) (Aa a b) b else []))
def Ot(a b:List Zj):List Int:=Zso (Zfg a b 2)
def Et{α:Type _}(i:Nat)(a b:α):α:=if i=0 then a else b
theorem tms_s(h:i<2):Zfg a b (i+1)=Zfg a b i ++ inn (cmF a b) (Aa a b) (Et i a b):=by
 match i,h with
 | 0,_=>simp [Zfg,Et]
 | 1,_=>simp [Zfg,Et]
theorem Ap : x∈Ot a b↔x=cmF a b\/x=Aa a b\/(cmF a b<x/\x<Aa a b/\((∃g∈a,g.1.1=x)\/∃g∈b,g.1.1=x)):=by
 unfold Ot;rw [Zk9];show x∈cmF a b::Aa a b::(inn _ _ a ++ inn _ _ b)↔_;rw [List.mem_cons,List.mem_cons,List.mem_append,Zzu,Zzu];constructor
 .rintro(h|h|⟨g,e,f,j,l⟩|⟨g,e,f,j,l⟩)
  .exact .inl h
  .exact .inr (.inl h)
  .exact .inr (.inr ⟨j,l,.inl ⟨g,e,f⟩⟩)
  .exact .inr (.inr ⟨j,l,.inr ⟨g,e,f⟩⟩)
 .rintro(h|h|⟨j,l,⟨g,e,f⟩|⟨g,e,f⟩⟩)
  .exact .inl h
  .exact .inr (.inl h)
  .exact .inr (.inr (.inl ⟨g,e,f,j,l⟩))
  .exact .inr (.inr (.inr ⟨g,e,f,j,l⟩))
def Ybd(a b:List Zj):Sst (Ot a b) (Ot a b).length:=Zyk (Zlm _)
theorem Zue(x:Int):∀l:List Int,(Zll x l).length<=l.length+1
 | []=>Nat.le_refl _
 | y::l=>by
  have:=Zue x l;unfold Zll;split
  .exact Nat.le_refl _
  .split
   .exact Nat.le_succ _
   .simp only [List.length_cons];omega
theorem Zub:∀l:List Int,(Zso l).length<=l.length
 | []=>Nat.le_refl _
 | x::l=>by have:=Zub l;have:=Zue x (Zso l);show(Zll x (Zso l)).length<=_;simp only [List.length_cons];omega
theorem Zqa(a b:List Zj)(i:Nat):(Zfg a b i).length<=2+a.length+b.length:=by have e:=Zqb (cmF a b) (Aa a b) a;have f:=Zqb (cmF a b) (Aa a b) b;unfold Zfg;split<;>split<;>simp<;>omega
def Zqc(a b:List Zj):(Ot a b).length<=2+a.length+b.length:=Nat.le_trans (Zub _) (Zqa a b 2)
structure Bks (a b:List Zj):Prop where
 two:2<=(Ot a b).length
 hd:(Ot a b).getD 0 0=cmF a b
 ls:(Ot a b).getD ((Ot a b).length-1) 0=Aa a b
 lt:∀k,k+1<(Ot a b).length->cmF a b<=(Ot a b).getD k 0/\(Ot a b).getD k 0<(Ot a b).getD (k+1) 0/\(Ot a b).getD (k+1) 0<=Aa a b
 no:∀k,k+1<(Ot a b).length->∀g,g∈a\/g∈b->¬((Ot a b).getD k 0<g.1.1/\g.1.1<(Ot a b).getD (k+1) 0)
theorem bks(h:cmF a b<Aa a b):Bks a b:=by
 have hs:=Ybd a b;have w:cmF a b∈Ot a b:=Ap.2 (.inl rfl);have y:Aa a b∈Ot a b:=Ap.2 (.inr (.inl rfl));have f:∀x∈Ot a b,cmF a b<=x/\x<=Aa a b:=λx F=>by rcases Ap.1 F with l|l|⟨l,s,_⟩<;>omega
 obtain⟨i,hi,u⟩:=Eb.1 w;obtain⟨j,P,v⟩:=Eb.1 y;have t:2<=(Ot a b).length:=by
  by_cases e:i=j
  .subst e;omega
  .omega
 have z:(Ot a b).getD 0 0=cmF a b:=by
  by_cases e:i=0
  .subst e;exact u
  .have l:=hs 0 i O hi;have s:=(f _ (Ze (zs:=Ot a b) (i:=0) (d:=0))).1;omega
 have H:(Ot a b).getD ((Ot a b).length-1) 0=Aa a b:=by
  by_cases e:j=(Ot a b).length-1
  .rw [<-e];exact v
  .have l:=hs j ((Ot a b).length-1) O O;have s:=(f _ (Ze (zs:=Ot a b) (i:=(Ot a b).length-1) (d:=0))).2;omega
 refine⟨t,z,H,λk n=>⟨(f _ (Ze)).1,hs k (k+1) O n,(f _ (Ze n)).2⟩,λk n g m N=>?_⟩;have l:=(f _ (Ze (zs:=Ot a b) (i:=k) (d:=0))).1;have s:=(f _ (Ze (zs:=Ot a b) (i:=k+1) (d:=0) n)).2;have B:g.1.1∈Ot a b:=Ap.2 (.inr (.inr ⟨O,O,by
  rcases m with m|m
  .exact .inl ⟨g,m,rfl⟩
  .exact .inr ⟨g,m,rfl⟩⟩))
 obtain⟨q,D,I⟩:=Eb.1 B;rcases Nat.lt_trichotomy q k with c|c|c
 .have:=hs q k c O;omega
 .subst c;omega
 .rcases Nat.lt_trichotomy q (k+1)with d|d|d
  .omega
  .subst d;omega
  .have:=hs (k+1) q d D;omega
theorem Yaw{fr e:Int}{g:Zj}(h:Kv fr e g=true):fr<g.1.2.1/\g.1.1<e:=by unfold Kv cA cB at h;have:=of_decide_eq_true h;exact⟨O,O⟩
theorem Yav{fr e:Int}{ps:List Zj}(h:Chn ps)(l:ps≠[])(u:spF ps<=fr)(v:fr<e)(w:e<=spL ps)(m:∀g∈ps,¬(fr<g.1.1/\g.1.1<e)):(ps.filter (Kv fr e)).length=1:=by
 have y:=Yjt h l u v w;have n:0<(ps.filter (Kv fr e)).length:=List.length_pos_iff.2 y;rcases Nat.lt_or_ge 1 (ps.filter (Kv fr e)).length with f|f
 .exfalso;have s:=List.getElem?_eq_getElem n;have t:=List.getElem?_eq_getElem f;obtain⟨i,f1,f2⟩:=Zqm h 0 _ _ s t;have z:=(List.mem_filter.1 (List.getElem_mem n)).2;have B:=(List.mem_filter.1 (List.getElem_mem f)).2;have j:=(List.mem_filter.1 (List.getElem_mem f)).1;have H:=h.eq i _ _ f1 f2;have D:=Yaw z;have F:=Yaw B;exact m _ j ⟨O,O⟩
 .omega
def Zgp(ts:List Int)(ps:List Zj):Nat->List Zm0
 | 0=>[]
 | n+1=>Zgp ts ps n ++ Zc2 (ts.getD n 0) (ts.getD (n+1) 0) ps
def Cf(ts:List Int)(a b:List Zj):Nat->Bool
 | 0=>true
 | n+1=>Cf ts a b n && (Px (ts.getD n 0) (ts.getD (n+1) 0) a && Px (ts.getD n 0) (ts.getD (n+1) 0) b)
def Zxo(a b:List Zj):Bool:=Cf (Ot a b) a b ((Ot a b).length-1)
def Dj(a b:List Zj):Int:=if cmF a b>=Aa a b then 9 else if Zxo a b then 0 else 7
def Mj(a b ps:List Zj):List Zm0:=if Dj a b=0 then Zgp (Ot a b) ps ((Ot a b).length-1)else []
theorem Zvf{ts:List Int}{a b:List Zj} : ∀{n m:Nat},n<=m->Cf ts a b m=true->Cf ts a b n=true
 | n,0,h,e=>by obtain rfl:n=0:=O;rfl
 | n,m+1,h,e=>by
  rcases Nat.lt_or_ge m n with f|f
  .obtain rfl:n=m+1:=O;exact e
  .refine Zvf f ?_;have:Cf ts a b (m+1)=(Cf ts a b m && (Px (ts.getD m 0) (ts.getD (m+1) 0) a && Px (ts.getD m 0) (ts.getD (m+1) 0) b)):=rfl;rw [this,Bool.and_eq_true]at e;exact e.1
def tik(a b:List Zj)(i k:Nat):List Int:=Zfg a b i ++ inn (cmF a b) (Aa a b) ((Et i a b).take k)
theorem tik_0(a b:List Zj)(i:Nat):tik a b i 0=Zfg a b i:=by unfold tik;rw [List.take_zero];exact List.append_nil _
theorem tik_t(g:k<(Et i a b).length)(e:cmF a b<((Et i a b).getD k G0).1.1)(f:((Et i a b).getD k G0).1.1<Aa a b):tik a b i (k+1)=tik a b i k ++ [((Et i a b).getD k G0).1.1]:=by unfold tik;rw [inn_t g e f,List.append_assoc]
theorem tik_f(e:k<(Et i a b).length)(h:¬(cmF a b<((Et i a b).getD k G0).1.1/\((Et i a b).getD k G0).1.1<Aa a b)):tik a b i (k+1)=tik a b i k:=by unfold tik;rw [inn_f e h]
theorem tik_e(hi:i<2):tik a b i (Et i a b).length=Zfg a b (i+1):=by unfold tik;rw [List.take_length,tms_s hi]
theorem Zuc(a b:List Zj)(i:Nat):(Et i a b).length<=a.length+b.length:=by unfold Et;split<;>omega
theorem Ynv(a b:List Zj)(i k:Nat):(tik a b i k).length<=2+2*(a.length+b.length):=by have e:=Zqa a b i;have f:=Zqb (cmF a b) (Aa a b) ((Et i a b).take k);have g:=Zuc a b i;have h:((Et i a b).take k).length<=(Et i a b).length:=List.length_take_le' _ _;unfold tik;rw [List.length_append];omega
def tms_ne(a b:List Zj)(i:Nat):Zfg a b i≠[]:=λh=>nomatch h
theorem tms_2(a b:List Zj)(i:Nat):2<=(Zfg a b i).length:=by unfold Zfg;simp
section
variable {P:Program} {N:Nat} {sc:Nat->Prop} {env:Ph} {H:Hp}
theorem Ymn{l m sd:SL}(i j k n:Nat)(s:lk H j=some (Xt 6 Qe qG (Xi l) a))(t:lk H k=some (Xt 6 Qe qG (Xi m) b))(e:Nat.beq j 0=false)(f:Nat.beq k 0=false)(hi:i<2) :
  ∀g w,Sat N sc env H g w->Sat N sc env ((n,Xt 6 Qe qG (Xi ([l,m].getD i sd)) (Et i a b))::H) g w:=by
 match i,hi with
 | 0,_=>exact Zd6 j n s e rfl (λ_ h=>h) (λ_ h=>h) rfl
 | 1,_=>exact Zd6 k n t f rfl (λ_ h=>h) (λ_ h=>h) rfl
end
theorem Zoc(h:cmF a b>=Aa a b)(ps:List Zj):Dj a b=9/\Mj a b ps=[]:=by have e:Dj a b=9:=if_pos h;exact⟨e,by unfold Mj;rw [e];rfl⟩
theorem Zb6(h:¬cmF a b>=Aa a b){n:Nat}(l:n+1<(Ot a b).length)(j:(Px ((Ot a b).getD n 0) ((Ot a b).getD (n+1) 0) a && Px ((Ot a b).getD n 0) ((Ot a b).getD (n+1) 0) b)=false)(ps:List Zj):Dj a b=7/\Mj a b ps=[]:=by
 have k:Zxo a b=false:=by
  cases hk:Zxo a b with
  | false=>rfl
  | true=>
   have f:=Zvf (n:=n+1) O hk;have g:Cf (Ot a b) a b (n+1)=(Cf (Ot a b) a b n && (Px ((Ot a b).getD n 0) ((Ot a b).getD (n+1) 0) a && Px ((Ot a b).getD n 0) ((Ot a b).getD (n+1) 0) b)):=rfl;rw [g,j,Bool.and_false]at f;exact f.symm
 have e:Dj a b=7:=by unfold Dj;rw [if_neg h,k];rfl
 exact⟨e,by unfold Mj;rw [e];rfl⟩
theorem Zod(h:¬cmF a b>=Aa a b){n:Nat}(g:n+1=(Ot a b).length)(f:Cf (Ot a b) a b n=true):Dj a b=0/\∀ps,Mj a b ps=Zgp (Ot a b) ps n:=by
 have k:Zxo a b=true:=by unfold Zxo;rw [show(Ot a b).length-1=n by omega];exact f
 have e:Dj a b=0:=by unfold Dj;rw [if_neg h,k];rfl
 exact⟨e,λps=>by unfold Mj;rw [e,if_pos rfl,show(Ot a b).length-1=n by omega]⟩
theorem com_k{n:Nat}(h:Cf (Ot a b) a b n=true)(e:Px ((Ot a b).getD n 0) ((Ot a b).getD (n+1) 0) a=true)(f:Px ((Ot a b).getD n 0) ((Ot a b).getD (n+1) 0) b=true):Cf (Ot a b) a b (n+1)=true:=by show(Cf (Ot a b) a b n && (_ && _))=true;rw [h,e,f];rfl
theorem Ya0{ps zs:List Zj}{n:Nat}(h:zs.map Gn=Zgp ts ps n)(e:us.map Gn=Zc2 (ts.getD n 0) (ts.getD (n+1) 0) ps):(zs ++ us).map Gn=Zgp ts ps (n+1):=by rw [List.map_append,h,e];rfl
theorem com_u{ps:List Zj}{fr f:Int}(hi:∀g∈ps,Gin g)(l:Xn ps=true)(n:spF ps<=fr)(s:fr<f)(t:f<=spL ps)(h:∀g∈ps,¬(fr<g.1.1/\g.1.1<f))(v:Px fr f ps=true)(w:us.map Gn=Zc2 fr f ps):us.length=1:=by have m:=(On l).2.1;have u:=Yav (Zco hi l).1 (λe=>by rw [e]at m;simp at m) n s t h;have j:=congrArg List.length w;rw [List.length_map]at j;rw [j];unfold Zc2;rw [if_pos v,List.length_map,u]
theorem Yj3{n:Nat}(hi:∀g∈a,Gin g)(l:Xn a=true)(B:Bks a b)(e:n+1<(Ot a b).length)(m:Px ((Ot a b).getD n 0) ((Ot a b).getD (n+1) 0) a=true)(t:us.map Gn=Zc2 ((Ot a b).getD n 0) ((Ot a b).getD (n+1) 0) a):us.length=1:=by obtain⟨f,h,j⟩:=B.lt n e;unfold cmF at f;unfold Aa at j;exact com_u hi l O h O (λg s=>B.no n e g (.inl s)) m t
theorem Yj2{n:Nat}(hi:∀g∈b,Gin g)(l:Xn b=true)(B:Bks a b)(e:n+1<(Ot a b).length)(m:Px ((Ot a b).getD n 0) ((Ot a b).getD (n+1) 0) b=true)(t:us.map Gn=Zc2 ((Ot a b).getD n 0) ((Ot a b).getD (n+1) 0) b):us.length=1:=by obtain⟨f,h,j⟩:=B.lt n e;unfold cmF at f;unfold Aa at j;exact com_u hi l O h O (λg s=>B.no n e g (.inr s)) m t
theorem cm_two{a b:Bool}(h:¬(a=true/\b=true)):a=false\/(a=true/\b=false):=by cases a<;>cases b<;>simp_all
theorem Zh1{a b:Bool}(h:a=false):(a && b)=false:=by rw [h];rfl
theorem Zh0{a b:Bool}(h:b=false):(a && b)=false:=by rw [h];exact Bool.and_false _
end Go.Sky
namespace Go.Sky
variable{c p q ns:List Int}{x M:Nat}{f:Nat->List Int}
section
variable {P:Program} {N:Nat} {sc:Nat->Prop} {env:Ph} {H:Hp}
end
def KA:Nat:=360287970189639680
theorem AxC.ka{a:Int}(h:AxC c a)(b:1<=a)(d:a<=4294967296):Ab KA (tzl c):=λk=>by have:=h.cg k;rw [Ks];unfold KA;omega
def BG:Nat:=2^250*2^250
theorem bl_two{a b:Nat}(h:x<2^a*2^b):bl x<=a+b:=(Qg (a+b) x).2 (by rw [Nat.pow_add];exact h)
def Zvp(h:x<BG):bl x<=500:=bl_two (a:=250) (b:=250) h
def Ab.sg(h:Ab M p)(a:M<BG):Sz 500 p:=λi=>Zvp (Nat.lt_of_le_of_lt (h i) a)
def Dy(h:Ab M p)(a:M<BG)(d:Tr p)(b:p.length<=25):Vp p:=⟨(h.sg a).mono O2,d,b⟩
theorem Zs2{c:Int}(h:Ab M p)(b:M*c.natAbs<BG)(i:Nat):bl (cf p i*c).natAbs<=65536:=by have a:=Bz h c i;rw [Yu]at a;exact Nat.le_trans (Zvp (Nat.lt_of_le_of_lt a b)) O2
theorem ad_ab{K:Nat}(h:Ab M p)(e:Ab K q)(d:M+K<BG)(i:Nat):bl (cf p i+cf q i).natAbs<=65536/\bl (cf p i-cf q i).natAbs<=65536:=by have a:=h i;have b:=e i;exact⟨Nat.le_trans (Zvp (Nat.lt_of_le_of_lt (by omega:_<=M+K) d)) O2,Nat.le_trans (Zvp (Nat.lt_of_le_of_lt (by omega:_<=M+K) d)) O2⟩
theorem mf_ab(h:Ab M p)(b:M<BG)(d:p.length<=11):¬An p p:=λa=>by have m:=Pr (h.sg b);rcases a.2.2 with w|w<;>omega
def dfP(p q:List Int)(a b:Int):List Int:=Ct (Zm (tzl p) b) (Zm (tzl q) a)
def dfK(p q:List Int)(a b k:Int):List Int:=Zm (dfP p q a b) k
def sqK(p q:List Int)(a b k:Int):List Int:=Qn (dfK p q a b k) (dfK p q a b k)
def sqP(p q:List Int)(a b:Int):List Int:=Qn (dfP p q a b) (dfP p q a b)
def KD:Nat:=KA*4294967296+KA*4294967296
structure FmX (p q:List Int) (a b k:Int):Prop where
 v1:Vp (tzl p)
 v2:Vp (tzl q)
 b1:bl b.natAbs<=65536
 a1:bl a.natAbs<=65536
 k1:bl k.natAbs<=65536
 s1:∀i,bl (cf (tzl p) i*b).natAbs<=65536
 s2:∀i,bl (cf (tzl q) i*a).natAbs<=65536
 v3:Vp (Zm (tzl p) b)
 v4:Vp (Zm (tzl q) a)
 s3:∀i,bl (cf (Zm (tzl p) b) i-cf (Zm (tzl q) a) i).natAbs<=65536
 v5:Vp (dfP p q a b)
 s4:∀i,bl (cf (dfP p q a b) i*k).natAbs<=65536
 v6:Vp (dfK p q a b k)
 m6:¬An (dfK p q a b k) (dfK p q a b k)
 v7:Vp (sqK p q a b k)
 ab:Ab (6*((KD*100)*(KD*100))) (sqK p q a b k)
 l:(sqK p q a b k).length<=11
 m5:¬An (dfP p q a b) (dfP p q a b)
 v8:Vp (sqP p q a b)
 ab8:Ab (6*((KD*100)*(KD*100))) (sqP p q a b)
 l8:(sqP p q a b).length<=11
theorem fmX{a b k:Int}(l:Ab KA (tzl p))(m:Ab KA (tzl q))(lp:p.length<=6)(Q:q.length<=6)(w:1<=a/\a<=4294967296)(y:1<=b/\b<=4294967296)(R:1<=k/\k<=100):FmX p q a b k:=by
 have o:(tzl p).length<=6:=Nat.le_trans (Mx p) lp;have r:(tzl q).length<=6:=Nat.le_trans (Mx q) Q;have s:Ab (KA*4294967296) (Zm (tzl p) b):=(Bz l b).mono (Nat.mul_le_mul_left _ O);have t:Ab (KA*4294967296) (Zm (tzl q) a):=(Bz m a).mono (Nat.mul_le_mul_left _ O);have d:Ab KD (dfP p q a b):=Yk2 s t;have e:Ab (KD*100) (dfK p q a b k):=(Bz d k).mono (Nat.mul_le_mul_left _ O);have j:Ab (KD*100) (dfP p q a b):=d.mono O6;have G:(Zm (tzl p) b).length<=6:=Nat.le_trans (Oz _ _) o;have I:(Zm (tzl q) a).length<=6:=Nat.le_trans (Oz _ _) r;have g:(dfP p q a b).length<=6:=Zz1 G I;have n:(dfK p q a b k).length<=6:=Nat.le_trans (Oz _ _) g;have t5:Tr (dfP p q a b):=Qc _;have t6:Tr (dfK p q a b k):=Qc _;have u:=Yk3 e e n;have v:=Yk3 j j g;have z:=Zz2 t6 t6 n n;have B:=Zz2 t5 t5 g g;have h:∀c:Int,1<=c/\c<=4294967296->bl c.natAbs<=65536:=λc F=>Nat.le_trans ((Qg 40 _).2 O) O6;have D:∀c:Int,1<=c/\c<=4294967296->KA*c.natAbs<BG:=λc F=>Nat.lt_of_le_of_lt (Nat.mul_le_mul_left KA (by omega:c.natAbs<=4294967296)) O6;exact⟨Dy l O6 (Qc _) O,Dy m O6 (Qc _) O,h b y,h a w,h k O,Zs2 l (D b y),Zs2 m (D a w),
  Dy s O6 (Qc _) O,Dy t O6 (Qc _) O,λi=>(ad_ab s t O6 i).2,Dy d O6 t5 O,
  Zs2 d (Nat.lt_of_le_of_lt (Nat.mul_le_mul_left KD (by omega:k.natAbs<=100)) O6),Dy e O6 t6 O,mf_ab e O6 O,Dy u O6 (Qa _ _) (by have:(sqK p q a b k).length<=_:=z;omega),u,z,
  mf_ab j O6 O,Dy v O6 (Qa _ _) (by have:(sqP p q a b).length<=_:=B;omega),v,B⟩
def ngC(ns:List Int):Nat->List Int
 | 0=>[-1]
 | i+1=>Zm (Zm (ngC ns i) (ns.getD i 0)) (ns.getD i 0)
def sqN(ns:List Int):Nat->Nat
 | 0=>1
 | i+1=>sqN ns i*(ns.getD i 0).natAbs*(ns.getD i 0).natAbs
theorem Zpz(ns:List Int):∀i,Ab (sqN ns i) (ngC ns i)/\(ngC ns i).length<=1/\Tr (ngC ns i)
 | 0=>⟨λi=>by
   match i with
   | 0=>show(cf [-1] 0).natAbs<=1;decide
   | i+1=>show(cf [-1] (i+1)).natAbs<=1;rw [Yl O7];decide,Nat.le_refl _,show Tr [-1]from .inr O2⟩
 | i+1=>by obtain⟨a,b,d⟩:=Zpz ns i;exact⟨Bz (Bz a _) _,Nat.le_trans (Oz _ _) (Nat.le_trans (Oz _ _) b),Qc _⟩
theorem Yew{ns:List Int}{B:Nat}(h:∀i,(ns.getD i 0).natAbs<=B):∀i,sqN ns i<=(B*B)^i
 | 0=>Nat.le_refl _
 | i+1=>by rw [Nat.pow_succ,<-Nat.mul_assoc];exact Nat.mul_le_mul (Nat.mul_le_mul (Yew h i) (h i)) (h i)
structure NgX (ns:List Int) (i:Nat):Prop where
 b:bl (ns.getD i 0).natAbs<=65536
 inn:Ng (ns.getD i 0)
 v:Vp (ngC ns i)
 s:∀k,bl (cf (ngC ns i) k*ns.getD i 0).natAbs<=65536
 v2:Vp (Zm (ngC ns i) (ns.getD i 0))
 s2:∀k,bl (cf (Zm (ngC ns i) (ns.getD i 0)) k*ns.getD i 0).natAbs<=65536
theorem ngX(h:∀i,(ns.getD i 0).natAbs<=4294967296){i:Nat}(hi:i<=4):NgX ns i:=by obtain⟨j,n,k⟩:=Zpz ns i;have e:=Yew h i;have g:(4294967296*4294967296)^i<=(4294967296*4294967296)^4:=Nat.pow_le_pow_right O6 hi;have a:Ab ((4294967296*4294967296)^4) (ngC ns i):=j.mono (Nat.le_trans e g);have b:=h i;have d:Ab ((4294967296*4294967296)^4*4294967296) (Zm (ngC ns i) (ns.getD i 0)):=(Bz a _).mono (Nat.mul_le_mul_left _ b);have l:(4294967296*4294967296)^4*(ns.getD i 0).natAbs<BG:=Nat.lt_of_le_of_lt (Nat.mul_le_mul_left _ b) O6;have m:(4294967296*4294967296)^4*4294967296*(ns.getD i 0).natAbs<BG:=Nat.lt_of_le_of_lt (Nat.mul_le_mul_left _ b) O6;exact⟨Nat.le_trans ((Qg 40 _).2 O) O6,⟨O,O⟩,Dy a O6 k O,Zs2 a l,Dy d O6 (Qc _) (Nat.le_trans (Oz _ _) O),Zs2 d m⟩
def smP(c:List Int)(f:Nat->List Int):Nat->List Int
 | 0=>c
 | i+1=>Hh (smP c f i) (f i)
theorem Ye3{c:List Int}{f:Nat->List Int}{C F:Nat}(a:Ab C c)(d:c.length<=11)(g:Tr c)(b:∀i,Ab F (f i))(e:∀i,(f i).length<=11):∀i,Ab (C+i*F) (smP c f i)/\(smP c f i).length<=11/\Tr (smP c f i)
 | 0=>⟨by rw [Nat.zero_mul];exact a,d,g⟩
 | i+1=>by obtain⟨h,j,k⟩:=Ye3 a d g b e i;exact⟨by rw [Nat.succ_mul,<-Nat.add_assoc];exact Zx6 h (b i),Zqd j (e i),Qc _⟩
structure SmX (c:List Int) (f:Nat->List Int):Prop where
 v:∀i,i<=3->Vp (smP c f i)
 s:∀i,i<3->∀k,bl (cf (smP c f i) k+cf (f i) k).natAbs<=65536
 d:Cvd (Zz (smP c f 3))
theorem smX(m:Ab (2^190) c)(r:c.length<=1)(o:Tr c)(l:∀i,Ab (6*((KD*100)*(KD*100))) (f i))(n:∀i,(f i).length<=11):SmX c f:=by
 have b:=Ye3 m O o l n;have g:∀i,i<=3->2^190+i*(6*((KD*100)*(KD*100)))<2^205:=λi hi=>Nat.lt_of_le_of_lt (Nat.add_le_add_left (Nat.mul_le_mul_right _ hi) _) O6;have a:(2:Nat)^205<BG:=O6;refine⟨λi hi=>?_,λi hi k=>?_,?_⟩
 .obtain⟨d,j,h⟩:=b i;exact Dy d (Nat.lt_trans (g i hi) a) h O
 .obtain⟨d,j,h⟩:=b i;refine(ad_ab d (l i) ?_ k).1;have:=g (i+1) hi;rw [Nat.succ_mul]at this;have e:=Nat.lt_trans this a;omega
 .obtain⟨d,j,h⟩:=b 3;have hs:=d.sz (g 3 (Nat.le_refl _));exact⟨Iw (Dy d (Nat.lt_trans (g 3 (Nat.le_refl _)) a) h O),Fs hs,by rw [Ya];exact j⟩
end Go.Sky
namespace Go.Sky
variable{x y z:List Int}{a b xs:List Zj}{ov D d:Int}
theorem Yir(g h j c e f:Value):Instr.fill (λi=>some (i*3,3)) ((List.range (1*3)).map ((Value.agg #[g,h,j]).cells[· % (Value.agg #[g,h,j]).cells.size]!)).toArray [(0,.agg #[c,e,f])]=some #[c,e,f]:=by
 simp [Instr.fill,Value.cells,List.range,List.range.loop]
 try rfl
def insB(m:Int)(l:List Int):Bool:=l.all λx=>decide (-m<=x) && decide (x<=m)
def ptB(x y z:Int):Bool:=insB 1048576 [x,y,z]
def znB(D n d:Int):Bool:=decide (1<=D/\D<=4194304/\1<=n/\n<=d/\d<=100)
theorem Yhj{x y:Int}{A B:Nat}(c:x.natAbs<=A)(e:y.natAbs<=B):(x*y).natAbs<=A*B:=by rw [Int.natAbs_mul];exact Nat.mul_le_mul c e
def ptsB(e f g h c i D n d:Int):Bool:=decide (D*d*(D*d)<=(e-h)*d*((e-h)*d)+(f-c)*d*((f-c)*d)+(g-i)*n*((g-i)*n))
theorem Ztj{a b c:Bool}(h:¬(a=true/\b=true/\c=true)):a=false\/(a=true/\b=false)\/(a=true/\b=true/\c=false):=by cases a<;>cases b<;>cases c<;>simp_all
def fqZ(n d ov c:Int)(x y z e f g:List Int)(i:Nat):List Int:=sqK (Zo i x y z) (Zo i e f g) ov c (Zo i d d n)
def cnZ(D d ov c:Int):List Int:=ngC [D,d,ov,c] 4
def smZ(D n d ov c:Int)(x y z e f g:List Int)(i:Nat):List Int:=smP (cnZ D d ov c) (fqZ n d ov c x y z e f g) i
def fmZ(D n d ov c:Int)(x y z e f g:List Int):List Int:=Zz (smZ D n d ov c x y z e f g 3)
structure FzX (D n d ov ov2:Int) (x y z x2 y2 z2:List Int):Prop where
 X:∀i,FmX (Zo i x y z) (Zo i x2 y2 z2) ov ov2 (Zo i d d n)
 K:∀i,Ng (Zo i d d n)
 N:∀i,i<=4->NgX [D,d,ov,ov2] i
 Q:SmX (cnZ D d ov ov2) (fqZ n d ov ov2 x y z x2 y2 z2)
theorem Zaf{fr k:Int}(h:Ci fr k ov x y z=true)(i:Nat):Ab KA (tzl (Zo i x y z)):=by unfold Ci Yby at h;simp only [Bool.and_eq_true,decide_eq_true_eq]at h;obtain⟨⟨⟨⟨⟨⟨⟨⟨m,n⟩,o⟩,c⟩,e⟩,f⟩,g⟩,j⟩,-⟩:=h;exact Dz (p:=λl=>Ab KA (tzl l)) ((AxC.of f).ka c e) ((AxC.of g).ka c e) ((AxC.of j).ka c e)
def tzlm1:(if 25<(tzl [(-1:Int)]).length then []else tzl [-1])=[-1]:=O2
abbrev GpT:=(Int×Int)×(SL×List Int)
abbrev Gm (g:GpT):Value:= .agg #[.int .i64 g.1.1,.int .i64 g.1.2,Xi g.2.1]
abbrev qGp (g:GpT):Pc:=Ys 2 wv (Xi g.2.1) g.2.2
abbrev Gp0:GpT:=((0,0),((none,0,0),[]))
abbrev GpU:=Int×Int×List Int
def unP(g:GpT):GpU:=(g.1.1,g.1.2,g.2.2)
def gpZ(D n d:Int)(g h:Zm0):GpU:=(g.1.1,g.1.2.1,fmZ D n d g.1.2.2 h.1.2.2 g.2.1 g.2.2.1 g.2.2.2 h.2.1 h.2.2.1 h.2.2.2)
def Nl(D n d:Int)(a b:List Zj):List GpU:=List.zipWith (gpZ D n d) (Mj a b a) (Mj a b b)
def Ip(a b:List Zj):Int:=if Dj a b=9 then 0 else Dj a b
def Zrb(h:Dj a b≠0)(ps:List Zj):Mj a b ps=[]:=if_neg h
theorem Zw5{n:Int}(h:Dj a b≠0):Nl D n d a b=[]:=by unfold Nl;rw [Zrb h];rfl
theorem Zlh{ts:List Int}{a b ps:List Zj}(c:∀k,Px (ts.getD k 0) (ts.getD (k+1) 0) a=true->Px (ts.getD k 0) (ts.getD (k+1) 0) b=true->k+1<ts.length->(Zc2 (ts.getD k 0) (ts.getD (k+1) 0) ps).length=1):∀n,n+1<=ts.length->Cf ts a b n=true->(Zgp ts ps n).length=n
 | 0,_,_=>rfl
 | n+1,g,e=>by have f:Cf ts a b (n+1)=(Cf ts a b n && (Px (ts.getD n 0) (ts.getD (n+1) 0) a && Px (ts.getD n 0) (ts.getD (n+1) 0) b)):=rfl;rw [f,Bool.and_eq_true,Bool.and_eq_true]at e;show(Zgp ts ps n ++ Zc2 _ _ ps).length=_;rw [List.length_append,Zlh c n O e.1,c n e.2.1 e.2.2 O]
theorem Yjx{ps:List Zj}{fr c:Int}(hi:∀g∈ps,Gin g)(h:Xn ps=true)(j:spF ps<=fr)(k:fr<c)(l:c<=spL ps)(f:∀g∈ps,¬(fr<g.1.1/\g.1.1<c))(m:Px fr c ps=true):(Zc2 fr c ps).length=1:=by have i:=(On h).2.1;unfold Zc2;rw [if_pos m,List.length_map,Yav (Zco hi h).1 (λe=>by rw [e]at i;simp at i) j k l f]
theorem Zxp(a b:List Zj):Dj a b=9\/Dj a b=0\/Dj a b=7:=by
 unfold Dj;split
 .exact .inl rfl
 .split
  .exact .inr (.inl rfl)
  .exact .inr (.inr rfl)
theorem comE_0(h:Dj a b=0):¬cmF a b>=Aa a b/\Zxo a b=true:=by
 unfold Dj at h;by_cases c:cmF a b>=Aa a b
 .rw [if_pos c]at h;exact absurd h O2
 .rw [if_neg c]at h;cases hk:Zxo a b with
  | true=>exact⟨c,rfl⟩
  | false=>rw [hk]at h;exact absurd h O2
theorem Ya1(o:∀g∈a,Gin g)(p:∀g∈b,Gin g)(l:Xn a=true)(m:Xn b=true):(Mj a b a).length=(Mj a b b).length/\(Mj a b a).length<=2+a.length+b.length:=by
 by_cases h:Dj a b=0
 .obtain⟨w,q⟩:=comE_0 h;have B:=bks (a:=a) (b:=b) O;have v:=B.two;have e:∀ps,Mj a b ps=Zgp (Ot a b) ps ((Ot a b).length-1):=λps=>if_pos h;have t:=Zlh (ts:=Ot a b) (a:=a) (b:=b) (ps:=a) (λk r s c=>by obtain⟨f,i,j⟩:=B.lt k c;unfold cmF at f;unfold Aa at j;exact Yjx o l O i O (λg n=>B.no k c g (.inl n)) r) ((Ot a b).length-1) O q
  have u:=Zlh (ts:=Ot a b) (a:=a) (b:=b) (ps:=b) (λk r s c=>by obtain⟨f,i,j⟩:=B.lt k c;unfold cmF at f;unfold Aa at j;exact Yjx p m O i O (λg n=>B.no k c g (.inr n)) s) ((Ot a b).length-1) O q
  have F:=Zqc a b;rw [e,e,t,u];exact⟨rfl,O⟩
 .rw [Zrb h,Zrb h];exact⟨rfl,Nat.zero_le _⟩
theorem Ze1{ps zs:List Zj}(hi:∀g∈ps,Gin g)(p:Xn ps=true)(t:zs.map Gn=Mj a b ps):∀q∈zs,Gin q/\seB q=true:=by
 have k:∀n,∀u∈Zgp (Ot a b) ps n,∃(fr f:Int) (g:Zj),g∈ps/\Kv fr f g=true/\Zgo fr f g=true/\u=Zu9 fr f g:=λn=>by
  induction n with
  | zero=>intro u j;cases j
  | succ n v=>
   intro u j;rcases List.mem_append.1 (show u∈Zgp (Ot a b) ps n ++ _ from j)with h|h
   .exact v u h
   .unfold Zc2 at h;split at h
    .rename_i r;obtain⟨g,l,rfl⟩:=List.mem_map.1 h;obtain⟨c,i⟩:=List.mem_filter.1 l;exact⟨_,_,g,c,i,List.all_eq_true.1 r g l,rfl⟩
    .cases h
 intro q s;have e:Gn q∈Mj a b ps:=by rw [<-t];exact List.mem_map.2 ⟨q,s,rfl⟩
 unfold Mj at e;split at e
 .obtain⟨fr,f,g,c,i,m,o⟩:=k _ _ e;have:=Yot (hi g c) ((Zco hi p).2.1 g c) i m o;exact⟨this.1,this.2.1⟩
 .cases e
theorem zip_s{α β γ:Type}{f:α->β->γ} : ∀{l:List α} {m:List β} {k:Nat} {x:α} {y:β},l[k]? = some x->m[k]? = some y->(List.zipWith f l m).take (k+1)=(List.zipWith f l m).take k ++ [f x y]
 | [],_,_,_,_,h,_=>by simp at h
 | _::_,[],_,_,_,_,h=>by simp at h
 | a::l,b::m,0,x,y,h,h2=>by simp at h h2;subst h;subst h2;simp
 | a::l,b::m,k+1,x,y,h,h2=>by have:=zip_s (f:=f) (l:=l) (m:=m) (k:=k) (by simpa using h) (by simpa using h2);simp only [List.zipWith_cons_cons,List.take_succ_cons,this,List.cons_append]
def gpY(q:Zj)(g:SL×List Int):GpT:=((q.1.1,q.1.2.1),g)
theorem Zz6{n:Int}{ys:List Zj}{zs:List GpT}{k:Nat}{g:SL×List Int}(l:xs.map Gn=Mj a b a)(m:ys.map Gn=Mj a b b)(h:zs.map unP=(Nl D n d a b).take k)(e:k<xs.length)(c:k<ys.length)(j:g.2=fmZ D n d (xs.getD k G0).1.2.2 (ys.getD k G0).1.2.2 (xs.getD k G0).2.1.2 (xs.getD k G0).2.2.1.2 (xs.getD k G0).2.2.2.2 (ys.getD k G0).2.1.2 (ys.getD k G0).2.2.1.2 (ys.getD k G0).2.2.2.2) :
  (zs ++ [gpY (xs.getD k G0) g]).map unP=(Nl D n d a b).take (k+1):=by
 have f:(Mj a b a)[k]? = some (Gn (xs.getD k G0)):=by rw [<-l,List.getElem?_map,List.getElem?_eq_getElem e,List.getD_eq_getElem?_getD,List.getElem?_eq_getElem e];rfl
 have i:(Mj a b b)[k]? = some (Gn (ys.getD k G0)):=by rw [<-m,List.getElem?_map,List.getElem?_eq_getElem c,List.getD_eq_getElem?_getD,List.getElem?_eq_getElem c];rfl
 unfold Nl at h ⊢;rw [zip_s f i,List.map_append,h,List.map_cons,List.map_nil];simp only [gpY,unP,gpZ,Gn];rw [j]
theorem Yie{n:Int}{zs:List GpT}(c:xs.map Gn=Mj a b a)(f:(Mj a b a).length=(Mj a b b).length)(h:zs.map unP=(Nl D n d a b).take xs.length):zs.map unP=Nl D n d a b:=by rw [h,List.take_of_length_le];have e:=congrArg List.length c;rw [List.length_map]at e;unfold Nl;rw [List.length_zipWith];omega
def Yih(h:Dj a b=9):Ip a b=0:=if_pos h
def Yig(h:¬Dj a b=9):Ip a b=Dj a b:=if_neg h
theorem Zn4{fr c:Int}(h:Sgo fr c ov x y z):Ng ov:=⟨by have:=h.o1;omega,by have:=h.o2;omega⟩
def Zqk(l:List GpU):Option GpU:=l.find? λg=>Cd g.2.2
def Zaj(l:List GpU):Int×Int×Bool:=match Zqk l with
 | some g=>(g.1,g.2.1,true)
 | none=>(0,0,false)
theorem fst_n{l:List GpU}(h:∀i,i<l.length->Cd (l.getD i (0,0,[])).2.2=false):Zaj l=(0,0,false):=by
 have:Zqk l=none:=List.find?_eq_none.2 λg c=>by obtain⟨i,hi,rfl⟩:=List.mem_iff_getElem.1 c;have:=h i hi;rw [List.getD_eq_getElem?_getD,List.getElem?_eq_getElem hi]at this;rw [show Cd (l[i]).2.2=false from this];exact Bool.false_ne_true
 unfold Zaj;rw [this]
theorem Zj1(zs:List GpT)(k:Nat):(zs.map unP).getD k (0,0,[])=unP (zs.getD k Gp0):=by rw [List.getD_eq_getElem?_getD,List.getElem?_map,List.getD_eq_getElem?_getD];cases zs[k]?<;>rfl
def mkS(u:Zm0):Zj:=(u.1,((none,0,0),u.2.1),((none,0,0),u.2.2.1),((none,0,0),u.2.2.2))
theorem Zsb(l:List Zm0):(l.map mkS).map Gn=l:=by rw [List.map_map];exact List.map_id' _
theorem fst_no{l:List GpU}{zs:List GpT}(h:zs.map unP=l)(c:∀i,i<zs.length->Cd (zs.getD i Gp0).2.2=false):Zaj l=(0,0,false):=by subst h;exact fst_n λi hi=>by rw [Zj1];exact c i (by rw [List.length_map]at hi;exact hi)
def Ba(D n d:Int)(a b:List Zj):Bool:=decide (Ip a b=0) && !(Zaj (Nl D n d a b)).2.2
open Go.Proofs
def pPa:Enc Tryz.prog 38 1 Xi:=Enc.flat Tryz.sizeOf38 Tryz.isAgg38 (λ_=>rfl)
def pGp:Enc Tryz.prog 130 3 Gm:=Enc.agg O2 Tryz.sizeOf130 Tryz.isAgg130 (λx=>⟨[.int .i64 x.1.1,.int .i64 x.1.2,Xi x.2.1],rfl,rfl,O11⟩)
@[reducible,instance] def encPaI:EncT Tryz.prog 38 1 Xi:=⟨pPa⟩
@[reducible,instance] def encGpI:EncT Tryz.prog 130 3 Gm:=⟨pGp⟩
def ti_a3:Tryz.prog.info? 190=some Tryz.t190:=O5
end Go.Sky

