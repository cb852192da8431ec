/- Rules, arithmetic and contracts: part 14. No conditions but those that each theorem names. -/
import Derived.Test.YtlnoheikolgejaaGreatLb12
set_option linter.all false
set_option maxHeartbeats 4000000
namespace Go.Sky
variable{c p ts:List Int}{ov d G o x:Int}{a b r us:List Zt}{q:Zt}{i:Nat}
theorem Yr4(h:AxC c ov)(m:c.getD (c.length-1) 0≠0){a b:Int}(s:0<b)(w:0<d):(Pe c a b d).length=c.length:=by
 have B:=h.l;have z:=Zhs c a b d;rcases bB (Pe c a b d).length c.length with q|q
 .exfalso;have v:(b:Rat)≠0:=by
    have:(0:Rat)<(b:Rat):=by exact_mod_cast s
    grind
  have y:(d:Rat)≠0:=by
    have:(0:Rat)<(d:Rat):=by exact_mod_cast w
    grind
  have l:∀t:Rat,t*(d:Rat)=(a:Rat)+(b:Rat)*((t*d-a)/b):=λt=>O4;by_cases j:(Pe c a b d).length=0
  .have n:=aC j;have:∀t:Rat,Zi c t=0:=λt=>by
    have e:=Zg5 h (l t);rw [n]at e;have f:(d:Rat)^5*Zi c t=0:=e.symm;have k:(d:Rat)^5≠0:=by rw [show(d:Rat)^5=d*d*d*d*d by rw [dA,dA,dA,dA,dA,dP];grind];grind
    grind
   exact m (Zre this _)
  .have g:∀t:Rat,Zi ((Lf (Pe c a b d) (-a) d b).map λq=>1*q) t=Zi (c.map λq=>b^((Pe c a b d).length-1)*d^5*q) t:=λt=>by rw [Zx,Zx];have e:=Zg5 h (l t);have f:=Zmk (p:=Pe c a b d) (-a) d b (t:=(t*d-a)/b) (u:=t) (by push_cast;grind) j;rw [f,e];push_cast;rw [<-Zd4,<-Zd4];push_cast;grind
   have e:=Nq g (c.length-1);rw [Co,Co,Yr (by have:=Zf7 (Pe c a b d) (-a) d b;omega)]at e;have f:b^((Pe c a b d).length-1)*d^5≠0:=bC (Int.pow_ne_zero O) (Int.pow_ne_zero O);have k:b^((Pe c a b d).length-1)*d^5*cf c (c.length-1)=0:=O;rcases Int.mul_eq_zero.1 k with q|q
   .exact f q
   .exact m q
 .omega
theorem Yac{X:List Int}(f:0<G)(e:∀x∈X,G∣x)(i:Nat):cf (Hz X G) i*G=cf X i:=by
 unfold Hz;split
 .rename_i h;rw [aC h]
  match i with
  | 0=>show(0:Int)*G=cf [] 0;rw [cL];rfl
  | i+1=>show(0:Int)*G=cf [] (i+1);rw [cL];rfl
 .rw [Zge _ _ O5];by_cases hi:i<X.length
  .have:cf X i∈X:=Zd hi;exact lN (e _ this)
  .rw [Yr O];simp
theorem Yq0{X:List Int}(e:0<G)(f:∀x∈X,G∣x)(u:Rat):Zi (Hz X G) u*(G:Rat)=Zi X u:=by rw [kM,<-Zx];exact Ma u _ _ λi=>by rw [Co,fK,Yac e f]
theorem Zjr(f g:Nat->Int)(a:Int)(h:∀k,f k*a=g k):∀m,Yl f m*a=Yl g m
 | 0=>cL _
 | m+1=>by rw [Yp,Yp,mQ,Zjr f g a h m,h]
theorem Yt2{X:List Int}(e:0<G)(f:∀x∈X,G∣x)(n j:Nat):Hi n (Hz X G) j*G=Hi n X j:=by unfold Hi;exact Zjr _ _ _ (λk=>by rw [Int.mul_right_comm,Yac e f]) _
theorem Yr3(X:List Int)(G:Int):(Hz X G).length=max X.length 1:=by
 unfold Hz;split
 .rename_i h;rw [h];rfl
 .rw [aT];omega
theorem Yan(h:AxC c ov){a b:Int}(F:0<=a)(v:0<b)(n:a+b<=d)(w:0<d)(m:0<G)(z:∀x∈Pe c a b d,G∣x)(I:o*G=ov*d^5):AxC (Hz (Pe c a b d) G) o/\(Hz (Pe c a b d) G).length=c.length:=by
 have N:=h.l;have f:(Hz (Pe c a b d) G).length=c.length/\(1<c.length->(Pe c a b d).length=c.length):=by
  rw [Yr3];by_cases B:c.getD (c.length-1) 0=0
  .have:=h.t;have H:=Zhs c a b d;have g:c.length=1:=by
    by_cases k:1<c.length
    .exact absurd ⟨k,B⟩ this
    .omega
   exact⟨O,λk=>O⟩
  .have:=Yr4 h B (a:=a) v w;exact⟨O,λ_=>this⟩
 refine⟨⟨O,λ⟨g,s⟩=>?_,λj y=>?_⟩,f.1⟩
 .rw [f.1]at g s;have k:cf (Hz (Pe c a b d) G) (c.length-1)=0:=s;have t:=Yac m z (c.length-1);rw [k,cL]at t;have l:=f.2 g;have M:Tr (Pe c a b d):=Qj _ _;have u:=M.mem (λe=>by rw [e]at l;simp at l;omega);rw [l]at u;exact u t.symm
 .rw [f.1]at y ⊢;have g:=Yev h F (dV v) n w j y;rw [<-Yt2 m z,<-I,bT]at g;have D:((G.natAbs:Nat):Int)=G:=O;push_cast at g;rw [D]at g;refine Int.le_of_mul_le_mul_right (a:=G) ?_ m;refine Int.le_trans g (Int.le_of_eq ?_);grind
theorem Zwx{G:Int}(e:0<G):∀(l:List Int) (o:Int),Lk (G*o) (l.map (G*·))=G*Lk o l
 | [],o=>rfl
 | x::l,o=>by show Lk ((Int.gcd _ _)) _=G*Lk _ l;rw [Int.gcd_mul_left];push_cast;rw [show((G.natAbs))=G by omega];exact Zwx e l _
theorem Znt{X:List Int}(e:0<G)(f:∀x∈X,G∣x)(g:0<=o):Lk o ((Hz X G).map (G*·))=Lk o X:=by
 unfold Hz;split
 .rename_i h;rw [aC h];show((Int.gcd o (G*0)))=o;rw [dY,mE];omega
 .conv=>rhs;rw [<-lC X]
  grind [List.map_congr_left,Int.mul_ediv_cancel']
theorem Ysh{X Y Z:List Int}{f:Int}(g:0<o)(e:0<Ki o X Y Z)(l:∀x∈X,Ki o X Y Z∣x)(m:∀x∈Y,Ki o X Y Z∣x)(n:∀x∈Z,Ki o X Y Z∣x)(h:Ki o X Y Z*f=o) :
  Lk f (Hz X (Ki o X Y Z) ++ Hz Y (Ki o X Y Z) ++ Hz Z (Ki o X Y Z))=1:=by
 have j:=Zwx e (Hz X (Ki o X Y Z) ++ Hz Y (Ki o X Y Z) ++ Hz Z (Ki o X Y Z)) f;rw [h,bN,bN,Ew,Ew,Znt e l (dV g),Znt e m (Zhu _ _ (dV g)),Znt e n (Zhu _ _ (Zhu _ _ (dV g)))]at j;have s:Ki o X Y Z=Lk (Lk (Lk o X) Y) Z:=by show Lk o (X ++ Y ++ Z)=_;grind [Ew]
 generalize Lk f _=r at *;have k:Ki o X Y Z*r=Ki o X Y Z*1:=O;exact iH O k
structure Prt (q g:Zt) (G:Int):Prop where
 g0:0<G
 a0:0<=q.1.1-g.1.1
 b0:0<q.1.2.1-q.1.1
 ab:(q.1.1-g.1.1)+(q.1.2.1-q.1.1)<=g.1.2.1-g.1.1
 o:q.1.2.2*G=g.1.2.2*(g.1.2.1-g.1.1)^5
 x:∀i (t u:Rat),t*((g.1.2.1-g.1.1:Int):Rat)=((q.1.1-g.1.1:Int):Rat)+((q.1.2.1-q.1.1:Int):Rat)*u->Zi (Zw i q.2.1.2 q.2.2.1.2 q.2.2.2.2) u*(G:Rat)=((g.1.2.1-g.1.1:Int):Rat)^5*Zi (Zw i g.2.1.2 g.2.2.1.2 g.2.2.2.2) t
theorem Zzk{X:List Int}(h:∀k,(X.getD k 0/G).natAbs<=9223372036854775807):∀a∈Hz X G,Mw a:=λa e=>by
 unfold Hz at e;split at e
 .rw [cI.1 e];exact⟨O,O⟩
 .obtain⟨x,g,rfl⟩:=dZ.1 e;obtain⟨k,f⟩:=kX.1 g;have:=h k;rw [aK,f]at this;simp only [eQ]at this;exact⟨O,O⟩
theorem Zrq{a b:Int}{t u:Rat}(f:AxC c ov)(e:0<G)(g:∀x∈Pe c a b d,G∣x)(h:t*(d:Rat)=(a:Rat)+(b:Rat)*u):Zi (Hz (Pe c a b d) G) u*(G:Rat)=(d:Rat)^5*Zi c t:=by grind [Yq0,Zg5]
theorem Ys6{fr e:Int}{g:Zt}(hi:Gin g)(hs:seB g=true)(hp:Hb fr e g=true)(hk:Ze6 fr e g=true)(hu:Nw q=Zxk fr e g):Gin q/\seB q=true/\Prt q g (cG fr e g):=by
 have Q:SgG g:=Kb hi hs;obtain⟨a1,a2,a3⟩:=Zyk hs;obtain⟨D,F,I,M⟩:=Ynp Q hp;have P:=Zze hi hs hp;obtain⟨g1,⟨s,W⟩,N⟩:=P.g;have m:0<cG fr e g:=g1;have w:∀x∈cX fr e g g.2.1.2,cG fr e g∣x:=N 0 O;have y:∀x∈cX fr e g g.2.2.1.2,cG fr e g∣x:=N 1 O;have z:∀x∈cX fr e g g.2.2.2.2,cG fr e g∣x:=N 2 O;have a4:cG fr e g*s=cO g:=W.symm;have v:cO g/cG fr e g=s:=by grind [Int.mul_ediv_cancel_left]
 have f:cO g/cG fr e g<=4294967296:=bW hk;have a0:0<cO g:=P.o;have a8:0<s:=by
  by_cases h:0<s
  .omega
  .have:=fF (dV m) (show s<=0 by omega);omega
 have n:s*cG fr e g=g.1.2.2*(g.1.2.1-g.1.1)^5:=O4;obtain⟨x1,x2⟩:=Yan a1 D F I M m w n;obtain⟨y1,y2⟩:=Yan a2 D F I M m y n;obtain⟨z1,z2⟩:=Yan a3 D F I M m z n;obtain⟨⟨qf,qt,qo⟩,⟨sx,qx⟩,⟨sy,qy⟩,⟨sz,qz⟩⟩:=q;unfold Nw Zxk at hu;rw [mdO_t f,Zhn f,Zhn f,Zhn f,v]at hu;injection hu with h1 h2;injection h1 with hf h1;injection h1 with ht H;injection h2 with hx h2;injection h2 with hy hz;dsimp only at hf ht H hx hy hz;subst hf ht hx hy hz;have H:=H.symm;subst H;have j:=λi (hi:i<3) k=>P.fit (i:=i) f hi k;have a6:=bW hp;have a9:=Q.t1;have b0:=Q.t3;have R:∀a∈Hz (cX fr e g g.2.1.2) (cG fr e g),Mw a:=Zzk (j 0 O);have S:∀a∈Hz (cX fr e g g.2.2.1.2) (cG fr e g),Mw a:=Zzk (j 1 O);have V:∀a∈Hz (cX fr e g g.2.2.2.2) (cG fr e g),Mw a:=Zzk (j 2 O);have a7:s<=4294967296:=v▸f;have a5:0<=cA fr g/\cB e g<=3600000:=O;have i1:Mw (cA fr g):=⟨O,O⟩;have i2:Mw (cB e g):=⟨O,O⟩;have i3:Mw s:=⟨O,O⟩;refine⟨⟨i1,i2,i3,R,S,V⟩,?_,⟨m,D,F,O,n,λi t u B=>?_⟩⟩
 .show Zak (cA fr g) (cB e g) s _ _ _=true;unfold Zak Zyd;simp only [aY,eJ];exact⟨⟨⟨⟨⟨⟨⟨⟨O,O⟩,O⟩,O⟩,O⟩,x1.to⟩,y1.to⟩,z1.to⟩,Ysh a0 m w y z a4⟩
 .have l:t*((g.1.2.1-g.1.1:Int):Rat)=((cA fr g-g.1.1:Int):Rat)+((cB e g-cA fr g:Int):Rat)*u:=B;clear B;have k0:=Zrq a1 m w l;have k1:=Zrq a2 m y l;have k2:=Zrq a3 m z l;dsimp only;generalize Hz (cX fr e g g.2.1.2) (cG fr e g)=X at *;generalize Hz (cX fr e g g.2.2.1.2) (cG fr e g)=Y at *;generalize Hz (cX fr e g g.2.2.2.2) (cG fr e g)=Z at *;generalize ((cG fr e g:Int):Rat)=GG at *;generalize ((g.1.2.1-g.1.1:Int):Rat)^5=DD at *
  match i with
  | 0=>exact k0
  | 1=>exact k1
  | i+2=>exact k2
theorem cg_brS{n:Nat}(t:n<6)(w:c.length<=n+1){M:Int}(h:∀j,j<n+1->((Hi n c j).natAbs:Int)<=M*(Ot n j:Int))(k:Nat):((cf c k).natAbs:Int)<=80*M:=by
 have u:0<=M:=by have e:=h 0 O5;grind [Zn9]
 by_cases v:k<n+1
 .rw [Qd]
  match n,t with
  | 0,_=>
   have e:=Qd.1 (h 0 O);rw [bre00,show(Ot 0 0:Int)=1 from rfl]at e;grind
  | 1,_=>
   have e:=Qd.1 (h 0 O);rw [bre10,show(Ot 1 0:Int)=1 from rfl]at e;have f:=Qd.1 (h 1 O);rw [bre11,show(Ot 1 1:Int)=1 from rfl]at f;grind
  | 2,_=>
   have e:=Qd.1 (h 0 O);rw [bre20,show(Ot 2 0:Int)=1 from rfl]at e;have f:=Qd.1 (h 1 O);rw [bre21,show(Ot 2 1:Int)=2 from rfl]at f;have g:=Qd.1 (h 2 O);rw [bre22,show(Ot 2 2:Int)=1 from rfl]at g;grind
  | 3,_=>
   have e:=Qd.1 (h 0 O);rw [bre30,show(Ot 3 0:Int)=1 from rfl]at e;have f:=Qd.1 (h 1 O);rw [bre31,show(Ot 3 1:Int)=3 from rfl]at f;have g:=Qd.1 (h 2 O);rw [bre32,show(Ot 3 2:Int)=3 from rfl]at g;have l:=Qd.1 (h 3 O);rw [bre33,show(Ot 3 3:Int)=1 from rfl]at l;grind
  | 4,_=>
   have e:=Qd.1 (h 0 O);rw [bre40,show(Ot 4 0:Int)=1 from rfl]at e;have f:=Qd.1 (h 1 O);rw [bre41,show(Ot 4 1:Int)=4 from rfl]at f;have g:=Qd.1 (h 2 O);rw [bre42,show(Ot 4 2:Int)=6 from rfl]at g;have l:=Qd.1 (h 3 O);rw [bre43,show(Ot 4 3:Int)=4 from rfl]at l;have m:=Qd.1 (h 4 O);rw [bre44,show(Ot 4 4:Int)=1 from rfl]at m;grind
  | 5,_=>
   have e:=Qd.1 (h 0 O);rw [bre50,show(Ot 5 0:Int)=1 from rfl]at e;have f:=Qd.1 (h 1 O);rw [bre51,show(Ot 5 1:Int)=5 from rfl]at f;have g:=Qd.1 (h 2 O);rw [bre52,show(Ot 5 2:Int)=10 from rfl]at g;have l:=Qd.1 (h 3 O);rw [bre53,show(Ot 5 3:Int)=10 from rfl]at l;have m:=Qd.1 (h 4 O);rw [bre54,show(Ot 5 4:Int)=5 from rfl]at m;have s:=Qd.1 (h 5 O);rw [bre55,show(Ot 5 5:Int)=1 from rfl]at s;grind
 grind [Yr]
theorem AxC.cg(h:AxC c ov)(k:Nat):((cf c k).natAbs:Int)<=83886080*ov:=by have f:=h.l;have:=cg_brS O O (λj e=>h.b j O) k;omega
theorem Ycd(c:List Int)(a:Int):∀k,plS c a 1 k=Yl (λk=>cf c k*a^k) k
 | 0=>rfl
 | k+1=>by show plS c a 1 k+plT c a 1 k=_;rw [Yp,Ycd c a k];congr 1;show c.getD k 0*(a^k*1^_)=cf c k*a^k;rw [Int.one_pow,fZ];rfl
theorem Zpt(f:Nat->Int):∀n,((Yl f n:Int):Rat)=Gf (λi=>(f i:Rat)) n
 | 0=>rfl
 | n+1=>by rw [Yp,Mg,<-Zpt f n];push_cast;rfl
theorem Ykq(c:List Int)(a:Int):((pl c a 1:Int):Rat)=Zi c (a:Rat):=by
 unfold pl;rw [Ycd,Zpt]
 conv=>rhs;rw [<-Zes c]
 rw [Zkw];exact La _ λi hi=>by rw [<-Zd4];push_cast;rfl
theorem Prt.pl{g:Zt}(h:Prt q g G){a e:Int}(k:a*(g.1.2.1-g.1.1)=(q.1.1-g.1.1)+(q.1.2.1-q.1.1)*e)(i:Nat) :
  Sky.pl (Zw i q.2.1.2 q.2.2.1.2 q.2.2.2.2) e 1*G=Sky.pl (Zw i g.2.1.2 g.2.2.1.2 g.2.2.2.2) a 1*(g.1.2.1-g.1.1)^5:=by
 have f:=h.x i (a:Rat) (e:Rat) (by exact_mod_cast k);rw [<-Ykq,<-Ykq,<-Zd4]at f;have j:((Sky.pl (Zw i q.2.1.2 q.2.2.1.2 q.2.2.2.2) e 1*G:Int):Rat)=((Sky.pl (Zw i g.2.1.2 g.2.2.1.2 g.2.2.2.2) a 1*(g.1.2.1-g.1.1)^5:Int):Rat):=by rw [Rat.intCast_mul,Rat.intCast_mul,f,kM]
 exact_mod_cast j
structure Chn (ps:List Zt):Prop where
 lt:∀g∈ps,g.1.1<g.1.2.1
 eq:∀(i:Nat) (g h:Zt),ps[i]? = some g->ps[i+1]? = some h->g.1.2.1=h.1.1
def Chn.tail{g:Zt}(h:Chn (g::r)):Chn r:=⟨λx e=>h.lt x (bX _ e),λi x y e f=>h.eq (i+1) x y e f⟩
theorem Chn.ge:∀{r:List Zt} {g:Zt},Chn (g::r)->∀x∈r,g.1.2.1<=x.1.1
 | [],_,_,_,e=>nomatch e
 | h::r,g,hc,x,e=>by
  have f:=hc.eq 0 g h rfl rfl;rcases bD.1 e with rfl|e
  .omega
  .have:=Chn.ge hc.tail x e;have:=hc.lt h O5;omega
theorem Zsq{fr m:Int} : ∀{ps:List Zt},Chn ps->∀(j:Nat) (f k:Zt),(ps.filter (Hb fr m))[j]? = some f->(ps.filter (Hb fr m))[j+1]? = some k->∃i:Nat,ps[i]? = some f/\ps[i+1]? = some k
 | [],_,j,f,k,h,_=>by simp at h
 | g::r,hc,j,f,k,h1,e=>by
  cases hp:Hb fr m g with
  | false=>
   rw [fX (by rw [hp];exact eD)]at h1 e;obtain⟨i,a,b⟩:=Zsq hc.tail j f k h1 e;exact⟨i+1,a,b⟩
  | true=>
   rw [eA hp]at h1 e
   match j with
   | j+1=>
    obtain⟨i,a,b⟩:=Zsq hc.tail j f k h1 e;exact⟨i+1,a,b⟩
   | 0=>
    obtain rfl:g=f:=by simpa using h1
    have e:(r.filter (Hb fr m))[0]? = some k:=e;have u:k∈r.filter (Hb fr m):=jE e;obtain⟨l,n⟩:=gQ.1 u
    match r,hc,e,l with
    | h::r,hc,e,l=>
     have w:=hc.eq 0 g h rfl rfl;have y:=hc.lt h O5;have v:=bW hp;have s:=bW n;have t:Hb fr m h=true:=by
      refine aF ?_;unfold cA cB at *;rcases bD.1 l with rfl|q
      .exact s
      .have:=Chn.ge hc.tail k q;omega
     rw [eA t]at e;obtain rfl:h=k:=by simpa using e
     exact⟨0,rfl,rfl⟩
theorem getD_some{α:Type}{l:List α}{x d:α}(h:l[i]? = some x):l.getD i d=x:=by rw [aK,h];rfl
theorem Zdk{ps:List Zt}(hi:∀g∈ps,Gin g)(t:Xl ps=true):Chn ps/\(∀g∈ps,seB g=true)/\∀(i:Nat) (g h:Zt),ps[i]? = some g->ps[i+1]? = some h->meG g h=true:=by
 obtain⟨s,u,v⟩:=Gp t;have l:∀g∈ps,seB g=true:=λg f=>by obtain⟨i,j,e⟩:=cZ.1 f;have:=Zk2 (s i j);rw [aK,aN j,eQ,e]at this;exact this
 have k:∀(i:Nat) (g h:Zt),ps[i]? = some g->ps[i+1]? = some h->meG g h=true:=λi g h f m=>by have n:=(jT.1 m).1;have:=s (i+1) n;rw [Zy6 (Zk2 this) O,jN,getD_some f,getD_some m]at this;exact this
 refine⟨⟨λg f=>(Kb (hi g f) (l g f)).t2,λi g h f m=>?_⟩,l,k⟩;have:=k i g h f m;unfold meG Znd at this;rw [aY,gI]at this;exact this.1
theorem Yno{fr j:Int} : ∀{ps:List Zt},Chn ps->ps≠[]->spF ps<=fr->fr<j->j<=spL ps->ps.filter (Hb fr j)≠[]
 | [],_,h,_,_,_=>absurd rfl h
 | g::r,hc,_,m,h2,f=>by
  have s:=hc.lt g O5;have m:g.1.1<=fr:=m;by_cases k:Hb fr j g=true
  .rw [eA k];exact List.cons_ne_nil _ _
  .have l:¬cA fr g<cB j g:=λh=>k (aF h);have e:g.1.2.1<=fr:=by unfold cA cB at l;omega
   rw [fX k]
   match r,hc,f with
   | [],_,f=>
    have f:j<=g.1.2.1:=f;omega
   | h::r,hc,f=>
    have n:=hc.eq 0 g h rfl rfl;refine Yno hc.tail (List.cons_ne_nil _ _) (by show h.1.1<=fr;omega) h2 ?_;have:spL (g::h::r)=spL (h::r):=by unfold spL;simp
    rw [<-this];exact f
theorem ps_Cm(a b:Int):PS.C (a*b)=PS.C a*PS.C b:=PS.ext' λi=>by rw [PS.C_mul_c];cases i<;>simp [PS.C]
theorem Yfp(p:List Int)(k:Int):Qz (Zy p k) (Zy p k)=Zy (Qz p p) (k*k):=(Qh _ _).ps_inj (Qj _ _) (by rw [Zkz,Zi2,Zi2,Zkz,ps_Cm];grind)
theorem Yia{c:Int}{n:Nat}(h:bl c.natAbs<=n):Sz n [c]:=Sz.of_mem λt e=>by rw [cI.1 e];exact h
theorem tf(b:Bool):b=false\/b=true:=by cases b<;>simp
theorem Ynx(h:Tr p)(e:p≠[]):(0:Rat)<(Yv p:Rat):=by have f:=Bb h e;have g:=Ns p;exact_mod_cast (show 0<Yv p by omega)
theorem Zpb(a b:Bool):a=false\/(a=true/\b=false)\/(a=true/\b=true):=by cases a<;>cases b<;>simp
theorem Prt.num{g:Zt}(h:Prt q g G):∃v s:Rat,0<=v/\0<s/\v+s<=1/\s*((g.1.2.1-g.1.1:Int):Rat)=((q.1.2.1-q.1.1:Int):Rat)/\v*((g.1.2.1-g.1.1:Int):Rat)=((q.1.1-g.1.1:Int):Rat)/\(0:Rat)<((g.1.2.1-g.1.1:Int):Rat)/\
  ∀i (u:Rat),Zi (Zw i q.2.1.2 q.2.2.1.2 q.2.2.2.2) u*(G:Rat)=((g.1.2.1-g.1.1:Int):Rat)^5*Zi (Zw i g.2.1.2 g.2.2.1.2 g.2.2.2.2) (v+s*u):=by
 have k:=h.a0;have l:=h.b0;have m:=h.ab;have t:=h.x;generalize g.1.2.1-g.1.1=d at *;generalize q.1.2.1-q.1.1=b at *;generalize q.1.1-g.1.1=a at *;have e:(0:Rat)<(d):=by exact_mod_cast (show 0<d by omega)
 have w:(0:Rat)<=(a):=by exact_mod_cast k
 have y:(0)<(b:Rat):=by exact_mod_cast l
 have n:(a:Rat)+(b)<=(d):=by exact_mod_cast m
 have hi:=fD.2 e;have f:(a:Rat)/d*d=a:=mF O4;have j:(b:Rat)/d*d=b:=mF O4;refine⟨(a)/d,(b)/d,?_,?_,?_,j,f,e,λi u=>t i _ u (by grind)⟩
 .grind [Rat.div_def,Rat.mul_nonneg,Rat.le_of_lt]
 .grind [Rat.div_def,Rat.mul_pos]
 .have:((a:Rat)/d+b/d)*d<=1*d:=O4;exact Rat.le_of_mul_le_mul_right this e
def Zz5{fr e:Int}{ps:List Zt}(h:Px fr e ps=true):Zxl fr e ps=0:=aM h
def Zz4{fr e:Int}{ps:List Zt}(h:Px fr e ps=false):Zxl fr e ps=7:=aJ O4
def lh_M{fr f:Int}{ps:List Zt}(hi:∀g∈ps,Gin g)(h:Xl ps=true):∀g∈ps,Hb fr f g=true->MdG fr f g:=λg e j=>Zze (hi g e) ((Zdk hi h).2.1 g e) j
def inn(fr e:Int)(ps:List Zt):List Int:=(ps.filter λg=>decide (fr<g.1.1) && decide (g.1.1<e)).map λg=>g.1.1
theorem inn_t{fr e:Int}{ps:List Zt}{k:Nat}(h:k<ps.length)(f:fr<(ps.getD k G0).1.1)(g:(ps.getD k G0).1.1<e):inn fr e (ps.take (k+1))=inn fr e (ps.take k) ++ [(ps.getD k G0).1.1]:=by unfold inn;rw [Zio (x:=ps.getD k G0) O4];grind
theorem inn_f{fr e:Int}{ps:List Zt}{k:Nat}(f:k<ps.length)(h:¬(fr<(ps.getD k G0).1.1/\(ps.getD k G0).1.1<e)):inn fr e (ps.take (k+1))=inn fr e (ps.take k):=by unfold inn;rw [Zio (x:=ps.getD k G0) O4];grind
theorem Zsf(fr e:Int)(ps:List Zt):(inn fr e ps).length<=ps.length:=by unfold inn;grind
theorem Ycx{fr e:Int}{ps:List Zt} : x∈inn fr e ps↔∃g∈ps,g.1.1=x/\fr<x/\x<e:=by
 unfold inn;constructor
 .grind
 .rintro⟨g,j,rfl,f,h⟩;grind
def cmF(a b:List Zt):Int:=max (spF a) (spF b)
def cmL(a b:List Zt):Int:=min (spL a) (spL b)
def Zfs(a b:List Zt)(i:Nat):List Int:=cmF a b::cmL a b::((if 1<=i then inn (cmF a b) (cmL a b) a else []) ++ (if 2<=i then inn (cmF a b) (cmL a b) b else []))
def Mu(a b:List Zt):List Int:=Zum (Zfs a b 2)
def Cu{α:Type _}(i:Nat)(a b:α):α:=if i=0 then a else b
theorem tms_s(h:i<2):Zfs a b (i+1)=Zfs a b i ++ inn (cmF a b) (cmL a b) (Cu i a b):=by
 match i,h with
 | 0,_=>simp [Zfs,Cu]
 | 1,_=>simp [Zfs,Cu]
theorem Zaw : x∈Mu a b↔x=cmF a b\/x=cmL a b\/(cmF a b<x/\x<cmL a b/\((∃g∈a,g.1.1=x)\/∃g∈b,g.1.1=x)):=by
 unfold Mu;rw [Znb];show x∈cmF a b::cmL a b::(inn _ _ a ++ inn _ _ b)↔_;rw [bD,bD,cP,Ycx,Ycx];constructor
 .rintro(h|h|⟨g,e,f,j,k⟩|⟨g,e,f,j,k⟩)
  .exact .inl h
  .exact .inr (.inl h)
  .exact .inr (.inr ⟨j,k,.inl ⟨g,e,f⟩⟩)
  .exact .inr (.inr ⟨j,k,.inr ⟨g,e,f⟩⟩)
 .rintro(h|h|⟨j,k,⟨g,e,f⟩|⟨g,e,f⟩⟩)
  .exact .inl h
  .exact .inr (.inl h)
  .exact .inr (.inr (.inl ⟨g,e,f,j,k⟩))
  .exact .inr (.inr (.inr ⟨g,e,f,j,k⟩))
def Yeu(a b:List Zt):Sst (Mu a b) (Mu a b).length:=Ya3 (Zno _)
theorem Zwm(x:Int):∀l:List Int,(Znn x l).length<=l.length+1
 | []=>aH _
 | y::l=>by have:=Zwm x l;unfold Znn;grind
theorem Zwj:∀l:List Int,(Zum l).length<=l.length
 | []=>aH _
 | x::l=>by have:=Zwj l;have:=Zwm x (Zum l);show(Znn x (Zum l)).length<=_;simp only [bI];omega
theorem Zse(a b:List Zt)(i:Nat):(Zfs a b i).length<=2+a.length+b.length:=by have e:=Zsf (cmF a b) (cmL a b) a;have f:=Zsf (cmF a b) (cmL a b) b;unfold Zfs;split<;>split<;>simp<;>omega
theorem Zsg(a b:List Zt):(Mu a b).length<=2+a.length+b.length:=aB (Zwj _) (Zse a b 2)
structure Bks (a b:List Zt):Prop where
 two:2<=(Mu a b).length
 hd:(Mu a b).getD 0 0=cmF a b
 ls:(Mu a b).getD ((Mu a b).length-1) 0=cmL a b
 lt:∀k,k+1<(Mu a b).length->cmF a b<=(Mu a b).getD k 0/\(Mu a b).getD k 0<(Mu a b).getD (k+1) 0/\(Mu a b).getD (k+1) 0<=cmL a b
 no:∀k,k+1<(Mu a b).length->∀g,g∈a\/g∈b->¬((Mu a b).getD k 0<g.1.1/\g.1.1<(Mu a b).getD (k+1) 0)
theorem bks (a:List Zt)(b:List Zt)(h:cmF a b<cmL a b):Bks a b:=by
 have hs:=Yeu a b;have t:cmF a b∈Mu a b:=Zaw.2 (.inl rfl);have u:cmL a b∈Mu a b:=Zaw.2 (.inr (.inl rfl));have l:∀x∈Mu a b,cmF a b<=x/\x<=cmL a b:=λx z=>by rcases Zaw.1 z with f|f|⟨f,s,_⟩<;>omega
 obtain⟨i,hi,D⟩:=Fc.1 t;obtain⟨j,N,F⟩:=Fc.1 u;have n:2<=(Mu a b).length:=by grind
 have v:(Mu a b).getD 0 0=cmF a b:=by
  by_cases e:i=0
  .grind
  .have f:=hs 0 i O hi;grind [Zd]
 have B:(Mu a b).getD ((Mu a b).length-1) 0=cmL a b:=by
  by_cases e:j=(Mu a b).length-1
  .grind
  .have f:=hs j ((Mu a b).length-1) O O;grind [Zd]
 refine⟨n,v,B,λk m=>⟨(l _ (Zd O)).1,hs k (k+1) O5 m,(l _ (Zd m)).2⟩,λk m g M I=>?_⟩;have f:=(l _ (Zd (i:=k) (d:=0) O)).1;have s:=(l _ (Zd (i:=k+1) (d:=0) m)).2;have w:g.1.1∈Mu a b:=Zaw.2 (.inr (.inr ⟨O,O,by grind⟩))
 obtain⟨q,y,H⟩:=Fc.1 w;rcases kC q k with c|c|c
 .have:=hs q k c O;omega
 .grind
 .rcases kC q (k+1)with d|d|d
  .omega
  .grind
  .have:=hs (k+1) q d y;omega
theorem Yd8{fr e:Int}{g:Zt}(h:Hb fr e g=true):fr<g.1.2.1/\g.1.1<e:=by unfold Hb cA cB at h;grind
theorem Yd7{fr e:Int}{ps:List Zt}(h:Chn ps)(j:ps≠[])(n:spF ps<=fr)(s:fr<e)(t:e<=spL ps)(v:∀g∈ps,¬(fr<g.1.1/\g.1.1<e)):(ps.filter (Hb fr e)).length=1:=by
 have u:=Yno h j n s t;have k:=aI.2 u;rcases bB 1 (ps.filter _).length with f|f
 .have l:=aN k;have m:=aN f;obtain⟨i,f1,f2⟩:=Zsq h 0 _ _ l m;have w:=(gQ.1 (jA k)).2;have y:=(gQ.1 (jA f)).2;have D:=h.eq i _ _ f1 f2;have z:=Yd8 w;have B:=Yd8 y;grind
 omega
def Zdz(ts:List Int)(ps:List Zt):Nat->List Cf
 | 0=>[]
 | n+1=>Zdz ts ps n ++ Zby (ts.getD n 0) (ts.getD (n+1) 0) ps
def Eb(ts:List Int)(a b:List Zt):Nat->Bool
 | 0=>true
 | n+1=>Eb ts a b n && (Px (ts.getD n 0) (ts.getD (n+1) 0) a && Px (ts.getD n 0) (ts.getD (n+1) 0) b)
def Zz8(a b:List Zt):Bool:=Eb (Mu a b) a b ((Mu a b).length-1)
def Eg(a b:List Zt):Int:=if cmF a b>=cmL a b then 9 else if Zz8 a b then 0 else 7
def Lh(a b ps:List Zt):List Cf:=if Eg a b=0 then Zdz (Mu a b) ps ((Mu a b).length-1)else []
theorem Zxp{ts:List Int}{a b:List Zt} : ∀{n m:Nat},n<=m->Eb ts a b m=true->Eb ts a b n=true
 | n,0,h,f=>O4
 | n,m+1,h,f=>by
  rcases bB m n with e|e
  .grind
  .refine Zxp e ?_;have:Eb ts a b (m+1)=(Eb ts a b m && (Px _ _ a && Px _ _ b)):=rfl;grind
def tik(a b:List Zt)(i k:Nat):List Int:=Zfs a b i ++ inn (cmF a b) (cmL a b) ((Cu i a b).take k)
theorem tik_0(a b:List Zt)(i:Nat):tik a b i 0=Zfs a b i:=by exact eW _
theorem tik_t{k:Nat}(g:k<(Cu i a b).length)(e:cmF a b<((Cu i a b).getD k G0).1.1)(f:((Cu i a b).getD k G0).1.1<cmL a b):tik a b i (k+1)=tik a b i k ++ [((Cu i a b).getD k G0).1.1]:=by unfold tik;grind [inn_t,List.append_assoc]
theorem tik_f{k:Nat}(e:k<(Cu i a b).length)(h:¬(cmF a b<((Cu i a b).getD k G0).1.1/\((Cu i a b).getD k G0).1.1<cmL a b)):tik a b i (k+1)=tik a b i k:=by unfold tik;grind [inn_f]
theorem tik_e(hi:i<2):tik a b i (Cu i a b).length=Zfs a b (i+1):=by unfold tik;rw [bS,tms_s hi]
theorem Zwk(a b:List Zt)(i:Nat):(Cu i a b).length<=a.length+b.length:=by unfold Cu;split<;>omega
theorem Yr2(a b:List Zt)(i k:Nat):(tik a b i k).length<=2+2*(a.length+b.length):=by have e:=Zse a b i;have f:=Zsf (cmF a b) (cmL a b) ((Cu i a b).take k);have g:=Zwk a b i;unfold tik;grind
def tms_ne(a b:List Zt)(i:Nat):Zfs a b i≠[]:=λh=>nomatch h
theorem tms_2(a b:List Zt)(i:Nat):2<=(Zfs a b i).length:=by unfold Zfs;simp
section
variable {P:Program} {N:Nat} {sc:Nat->Prop} {env:Pt} {H:Hp}
theorem Yqo{l m sd:SL}(i j k n:Nat)(s:lk H j=some (Qb 6 Qt qG (Xi l) a))(t:lk H k=some (Qb 6 Qt qG (Xi m) b))(e:Nat.beq j 0=false)(f:Nat.beq k 0=false)(hi:i<2) :
  ∀g w,Sat N sc env H g w->Sat N sc env ((n,Qb 6 Qt qG (Xi ([l,m].getD i sd)) (Cu i a b))::H) g w:=by
 match i,hi with
 | 0,_=>exact Zbl j n s e rfl (λ_ h=>h) (λ_ h=>h) rfl
 | 1,_=>exact Zbl k n t f rfl (λ_ h=>h) (λ_ h=>h) rfl
end
theorem Zqh(h:cmF a b>=cmL a b)(ps:List Zt):Eg a b=9/\Lh a b ps=[]:=by have e:Eg a b=9:=aM h;exact⟨e,by unfold Lh;grind⟩
theorem Zc0(h:¬cmF a b>=cmL a b){n:Nat}(l:n+1<(Mu a b).length)(j:(Px ((Mu a b).getD n 0) ((Mu a b).getD (n+1) 0) a && Px ((Mu a b).getD n 0) ((Mu a b).getD (n+1) 0) b)=false)(ps:List Zt):Eg a b=7/\Lh a b ps=[]:=by
 have k:Zz8 a b=false:=by
  cases hk:Zz8 a b with
  | false=>rfl
  | true=>
   have f:=Zxp (n:=n+1) O hk;have g:Eb _ a b (n+1)=(Eb (Mu a b) a b n && (Px _ _ a && Px _ _ b)):=rfl;grind
 have e:Eg a b=7:=by unfold Eg;grind
 exact⟨e,by unfold Lh;grind⟩
theorem Zqi(h:¬cmF a b>=cmL a b){n:Nat}(g:n+1=(Mu a b).length)(f:Eb (Mu a b) a b n=true):Eg a b=0/\∀ps,Lh a b ps=Zdz (Mu a b) ps n:=by
 have k:Zz8 a b=true:=by unfold Zz8;grind
 have e:Eg a b=0:=by unfold Eg;grind
 exact⟨e,λps=>by unfold Lh;grind⟩
theorem com_k{n:Nat}(h:Eb (Mu a b) a b n=true)(e:Px ((Mu a b).getD n 0) ((Mu a b).getD (n+1) 0) a=true)(f:Px ((Mu a b).getD n 0) ((Mu a b).getD (n+1) 0) b=true):Eb (Mu a b) a b (n+1)=true:=by show(Eb _ a b n && (_ && _))=true;grind
theorem Yec{ps zs:List Zt}{n:Nat}(h:zs.map Nw=Zdz ts ps n)(e:us.map Nw=Zby (ts.getD n 0) (ts.getD (n+1) 0) ps):(zs ++ us).map Nw=Zdz ts ps (n+1):=by rw [bN,h,e];rfl
theorem com_u{ps:List Zt}{fr f:Int}(hi:∀g∈ps,Gin g)(k:Xl ps=true)(l:spF ps<=fr)(m:fr<f)(n:f<=spL ps)(h:∀g∈ps,¬(fr<g.1.1/\g.1.1<f))(u:Px fr f ps=true)(s:us.map Nw=Zby fr f ps):us.length=1:=by have v:=(Gp k).2.1;have t:=Yd7 (Zdk hi k).1 (λe=>O4) l m n h;have j:=aD List.length s;rw [aT]at j;rw [j];unfold Zby;grind
theorem Ynz{n:Nat}(hi:∀g∈a,Gin g)(k:Xl a=true)(B:Bks a b)(e:n+1<(Mu a b).length)(l:Px ((Mu a b).getD n 0) ((Mu a b).getD (n+1) 0) a=true)(s:us.map Nw=Zby ((Mu a b).getD n 0) ((Mu a b).getD (n+1) 0) a):us.length=1:=by obtain⟨f,h,j⟩:=B.lt n e;unfold cmF at f;unfold cmL at j;exact com_u hi k O h O (λg m=>B.no n e g (.inl m)) l s
theorem Yny{n:Nat}(hi:∀g∈b,Gin g)(k:Xl b=true)(B:Bks a b)(e:n+1<(Mu a b).length)(l:Px ((Mu a b).getD n 0) ((Mu a b).getD (n+1) 0) b=true)(s:us.map Nw=Zby ((Mu a b).getD n 0) ((Mu a b).getD (n+1) 0) b):us.length=1:=by obtain⟨f,h,j⟩:=B.lt n e;unfold cmF at f;unfold cmL at j;exact com_u hi k O h O (λg m=>B.no n e g (.inr m)) l s
def Zji{a b:Bool}(h:a=false):(a && b)=false:=O4
def Zjh{a b:Bool}(h:b=false):(a && b)=false:=O4
end Go.Sky
namespace Go.Sky
variable{o:Oper}{x y:Operand}{t:TypeId}{i M:Nat}{kd:IntKind}{c p q ns:List Int}{f:Nat->List Int}
section
variable {P:Program} {N:Nat} {sc:Nat->Prop} {env:Pt} {H:Hp}
theorem d_ix4   {e:TypeId}   {m d g h j:Int} (s:o.op= .index t x y) (v:ev env x=some (.agg #[.int .i64 d,.int .i64 g,.int .i64 h,.int .i64 j])) (z:ev env y=some (.int kd m))
  (u:P.underlying t=some (.array 4 e)) (n:∀w,(sizeOf e).run P w= .ok 1 w) (l:∀w,(isAgg e).run P w= .ok false w) (b:m=(i:Int)) (r:i<4):Mk P N sc o env H (.int .i64 ([d,g,h,j].getD i 0)):=λa w hs=>by
 subst b;have k:i=0\/i=1\/i=2\/i=3:=O;rcases k with rfl|rfl|rfl|rfl<;>simp [execOp,s,hs.ev v,hs.ev z,Instr.index,asIntOf,run_underlying u,n,l,asAgg,part]
theorem d_ix9   {e:TypeId}   {m d g h:Int} {n r s j k l:Value} (D:o.op= .index t x y) (G:ev env x=some (.agg #[n,j,.int .i64 d,r,k,.int .i64 g,s,l,.int .i64 h])) (I:ev env y=some (.int kd m))
  (F:P.underlying t=some (.array 3 e)) (z:∀w,(sizeOf e).run P w= .ok 3 w) (v:∀w,(isAgg e).run P w= .ok true w) (b:m=(i:Int)) (B:i<3):Mk P N sc o env H (.agg #[Zw i n r s,Zw i j k l,.int .i64 (Zw i d g h)]):=λa w hs=>by
 subst b;have u:i=0\/i=1\/i=2:=O;rcases u with rfl|rfl|rfl<;>simp [execOp,D,hs.ev G,hs.ev I,Instr.index,asIntOf,run_underlying F,z,v,asAgg,part,Zw]
end
def KA:Nat:=360287970189639680
theorem AxC.ka{a:Int}(h:AxC c a)(b:1<=a)(d:a<=4294967296):Ab KA (tzl c):=λk=>by have:=h.cg k;rw [Lc];unfold KA;omega
def BG:Nat:=2^250*2^250
def bl_two{a b x:Nat}(h:x<2^a*2^b):bl x<=a+b:=(Qq _ x).2 O4
theorem Zxv{x:Nat}(h:x<BG):bl x<=500:=bl_two h
def Ab.sg(h:Ab M p)(a:M<BG):Sz 500 p:=λi=>Zxv (aU (h i) a)
theorem Hs(h:Ab M p)(a:M<BG)(d:Tr p)(b:p.length<=25):Vp p:=⟨(h.sg a).mono O,d,b⟩
theorem Zux{c:Int}(h:Ab M p)(b:M*c.natAbs<BG)(i:Nat):bl (cf p i*c).natAbs<=65536:=by have a:=Dh h c i;grind [Yo,Nat.le_trans,Zxv,Nat.lt_of_le_of_lt]
theorem ad_ab{K:Nat}(h:Ab M p)(d:Ab K q)(e:M+K<BG)(i:Nat):bl (cf p i+cf q i).natAbs<=65536/\bl (cf p i-cf q i).natAbs<=65536:=by have a:=h i;have b:=d i;grind [Nat.le_trans,Zxv,Nat.lt_of_le_of_lt]
theorem mf_ab(h:Ab M p)(b:M<BG)(d:p.length<=11):¬Zav p p:=λa=>by have m:=Qv (h.sg b);rcases a.2.2 with w|w<;>omega
def dfP(p q:List Int)(a b:Int):List Int:=Bj (Zy (tzl p) b) (Zy (tzl q) a)
def dfK(p q:List Int)(a b k:Int):List Int:=Zy (dfP p q a b) k
def sqK(p q:List Int)(a b k:Int):List Int:=Qz (dfK p q a b k) (dfK p q a b k)
def sqP(p q:List Int)(a b:Int):List Int:=Qz (dfP p q a b) (dfP p q a b)
def KD:Nat:=KA*4294967296+KA*4294967296
structure FmX (p q:List Int) (a b k:Int):Prop where
 v1:Vp (tzl p)
 v2:Vp (tzl q)
 b1:bl b.natAbs<=65536
 a1:bl a.natAbs<=65536
 k1:bl k.natAbs<=65536
 s1:∀i,bl (cf (tzl p) i*b).natAbs<=65536
 s2:∀i,bl (cf (tzl q) i*a).natAbs<=65536
 v3:Vp (Zy (tzl p) b)
 v4:Vp (Zy (tzl q) a)
 s3:∀i,bl (cf (Zy (tzl p) b) i-cf (Zy (tzl q) a) i).natAbs<=65536
 v5:Vp (dfP p q a b)
 s4:∀i,bl (cf (dfP p q a b) i*k).natAbs<=65536
 v6:Vp (dfK p q a b k)
 m6:¬Zav (dfK p q a b k) (dfK p q a b k)
 v7:Vp (sqK p q a b k)
 ab:Ab (6*((KD*100)*(KD*100))) (sqK p q a b k)
 l:(sqK p q a b k).length<=11
 m5:¬Zav (dfP p q a b) (dfP p q a b)
 v8:Vp (sqP p q a b)
 ab8:Ab (6*((KD*100)*(KD*100))) (sqP p q a b)
 l8:(sqP p q a b).length<=11
theorem fmX{a b k:Int}(l:Ab KA (tzl p))(m:Ab KA (tzl q))(lp:p.length<=6)(S:q.length<=6)(B:1<=a/\a<=4294967296)(D:1<=b/\b<=4294967296)(V:1<=k/\k<=100):FmX p q a b k:=by
 have r:=aB (Md p) lp;have s:=aB (Md q) S;have u:Ab (KA*4294967296) _:=(Dh l b).mono (aW _ O);have v:Ab (KA*4294967296) _:=(Dh m a).mono (aW _ O);have d:Ab KD _:=Yap u v;have e:Ab (KD*100) _:=(Dh d k).mono (aW _ O);have j:Ab (KD*100) _:=d.mono O;have l3:(Zy (tzl p) b).length<=6:=aB (Pv _ _) r;have R:(Zy (tzl q) a).length<=6:=aB (Pv _ _) s;have g:(dfP p q a b).length<=6:=Zsh _ l3 R;have n:(dfK p q a b k).length<=6:=aB (Pv _ _) g;have t5:Tr (dfP p q a b):=Xx _;have t6:Tr (dfK p q a b k):=Xx _;have w:=Yo6 e e n;have z:=Yo6 j j g;have F:=Yc7 t6 t6 n n;have G:=Yc7 t5 t5 g g;have h:∀c:Int,1<=c/\c<=4294967296->bl c.natAbs<=65536:=λc Q=>aB ((Qq 40 _).2 O) O;have I:∀c:Int,1<=c/\c<=4294967296->KA*c.natAbs<BG:=λc Q=>aU (aW KA (by omega:c.natAbs<=4294967296)) O3;exact⟨Hs l O3 (Xx _) O,Hs m O3 (Xx _) O,h b D,h a B,h k O,Zux l (I b D),Zux m (I a B),
  Hs u O3 (Xx _) O,Hs v O3 (Xx _) O,λi=>(ad_ab u v O3 i).2,Hs d O3 t5 O,
  Zux d (aU (aW KD (by omega:k.natAbs<=100)) O3),Hs e O3 t6 O,mf_ab e O3 O,Hs w O3 (Qh _ _) (by have:(sqK p q a b k).length<=_:=F;omega),w,F,
  mf_ab j O3 O,Hs z O3 (Qh _ _) (by have:(sqP p q a b).length<=_:=G;omega),z,G⟩
def ngC(ns:List Int):Nat->List Int
 | 0=>[-1]
 | i+1=>Zy (Zy (ngC ns i) (ns.getD i 0)) (ns.getD i 0)
def sqN(ns:List Int):Nat->Nat
 | 0=>1
 | i+1=>sqN ns i*(ns.getD i 0).natAbs*(ns.getD i 0).natAbs
theorem Zm4(ns:List Int):∀i,Ab (sqN ns i) (ngC ns i)/\(ngC ns i).length<=1/\Tr (ngC ns i)
 | 0=>⟨λi=>by
   match i with
   | 0=>show(cf [-1] 0).natAbs<=1;decide
   | i+1=>show(cf [-1] _).natAbs<=1;grind [Yr],Nat.le_refl _,show Tr [-1]from .inr O3⟩
 | i+1=>by obtain⟨a,b,d⟩:=Zm4 ns i;exact⟨Dh (Dh a _) _,aB (Pv _ _) (aB (Pv _ _) b),Xx _⟩
theorem Yiq{ns:List Int}{B:Nat}(h:∀i,(ns.getD i 0).natAbs<=B):∀i,sqN ns i<=(B*B)^i
 | 0=>aH _
 | i+1=>by rw [cK,<-eF];exact aO (aO (Yiq h i) (h i)) (h i)
structure NgX (ns:List Int) (i:Nat):Prop where
 b:bl (ns.getD i 0).natAbs<=65536
 inn:Mw (ns.getD i 0)
 v:Vp (ngC ns i)
 s:∀k,bl (cf (ngC ns i) k*ns.getD i 0).natAbs<=65536
 v2:Vp (Zy (ngC ns i) (ns.getD i 0))
 s2:∀k,bl (cf (Zy (ngC ns i) (ns.getD i 0)) k*ns.getD i 0).natAbs<=65536
theorem ngX(h:∀i,(ns.getD i 0).natAbs<=4294967296)(hi:i<=4):NgX ns i:=by obtain⟨j,n,k⟩:=Zm4 ns i;have e:=Yiq h i;have g:(4294967296*4294967296)^i<=(4294967296*4294967296)^4:=cW O hi;have a:=j.mono (aB e g);have b:=h i;have d:=(Dh a _).mono (aW _ b);have l:(4294967296*4294967296)^4*(ns.getD i 0).natAbs<BG:=aU (aW _ b) O3;have m:(4294967296*4294967296)^4*4294967296*(ns.getD i 0).natAbs<BG:=aU (aW _ b) O3;exact⟨aB ((Qq 40 _).2 O) O,⟨O,O⟩,Hs a O3 k O,Zux a l,Hs d O3 (Xx _) (aB (Pv _ _) O),Zux d m⟩
def smP(c:List Int)(f:Nat->List Int):Nat->List Int
 | 0=>c
 | i+1=>Gw (smP c f i) (f i)
theorem Yix{c:List Int}{f:Nat->List Int}{C F:Nat}(a:Ab C c)(d:c.length<=11)(g:Tr c)(b:∀i,Ab F (f i))(e:∀i,(f i).length<=11):∀i,Ab (C+i*F) (smP c f i)/\(smP c f i).length<=11/\Tr (smP c f i)
 | 0=>⟨by rw [fO];exact a,d,g⟩
 | i+1=>by obtain⟨h,j,k⟩:=Yix a d g b e i;exact⟨by rw [dO,<-iJ];exact Zon h (b i),Zht j (e i),Xx _⟩
structure SmX (c:List Int) (f:Nat->List Int):Prop where
 v:∀i,i<=3->Vp (smP c f i)
 s:∀i,i<3->∀k,bl (cf (smP c f i) k+cf (f i) k).natAbs<=65536
 d:Cvd (Yg (smP c f 3))
theorem smX(l:Ab (2^190) c)(r:c.length<=1)(n:Tr c)(h:∀i,Ab (6*((KD*100)*(KD*100))) (f i))(m:∀i,(f i).length<=11):SmX c f:=by
 have a:=Yix l O n h m;have d:∀i,i<=3->2^190+i*(6*((KD*100)*(KD*100)))<2^205:=λi hi=>aU (Nat.add_le_add_left (aL _ hi) _) O3;have e:(2)^205<BG:=O3;refine⟨λi hi=>?_,λi hi k=>?_,?_⟩
 .grind [Hs,Nat.lt_trans]
 .obtain⟨b,j,g⟩:=a i;refine(ad_ab b (h i) ?_ k).1;have:=d _ hi;grind
 .obtain⟨b,j,g⟩:=a 3;have hs:=b.sz (d 3 (aH _));exact⟨Lp (Hs b (jL (d 3 (aH _)) e) g O),Gb hs,by simp_all [Yj]⟩
end Go.Sky
namespace Go.Sky
variable{a0 a1 a2 v:Value}{m D d ov:Int}{x y z xs:List Int}{a b ys:List Zt}
theorem fill33{k l n o p q r s t c e f g h j:Value}:Instr.fill (λi=>some (i*3,3)) #[k,l,n,o,p,q,r,s,t] [(0,.agg #[a0,a1,a2]),(1,.agg #[c,e,f]),(2,.agg #[g,h,j])]=some #[a0,a1,a2,c,e,f,g,h,j]:=by simp [Instr.fill,Value.cells]
theorem Zqb{c e f:Value}:Instr.fill (λi=>some (i*3,3)) ((List.range (1*3)).map ((Value.agg #[c,e,f]).cells[· % (Value.agg #[c,e,f]).cells.size]!)).toArray [(0,.agg #[a0,a1,a2])]=some #[a0,a1,a2]:=by rfl
def Zzj(m:Int)(l:List Int):Bool:=l.all λx=>decide (-m<=x) && decide (x<=m)
theorem insB_t{l:List Int}(h:∀i,i<l.length->-m<=l.getD i 0/\l.getD i 0<=m):Zzj m l=true:=bZ.2 λx c=>by grind [Fc,decide_eq_true]
theorem Yl9 (i:Nat){l:List Int}(hi:i<l.length)(h:¬(-m<=l.getD i 0/\l.getD i 0<=m)):Zzj m l=false:=by
 cases hb:Zzj m l with
 | false=>rfl
 | true=>
  have:=bZ.1 hb _ (Zd (d:=0) hi);grind
def ptB(x y z:Int):Bool:=Zzj 1048576 [x,y,z]
theorem Zrm{x y z:Int}(h:ptB x y z=true):(-1048576<=x/\x<=1048576)/\(-1048576<=y/\y<=1048576)/\(-1048576<=z/\z<=1048576):=by unfold ptB Zzj at h;grind
def znB(D n d:Int):Bool:=decide (1<=D/\D<=4194304/\1<=n/\n<=d/\d<=100)
def zn_b{n:Int}(h:znB D n d=true):1<=D/\D<=4194304/\1<=n/\n<=d/\d<=100:=bW h
theorem Zkf (x:Int)(y:Int)(A:Nat)(B:Nat)(c:x.natAbs<=A)(e:y.natAbs<=B):(x*y).natAbs<=A*B:=by simp_all [bT,aO]
def fqZ(n d ov c:Int)(x y z e f g:List Int)(i:Nat):List Int:=sqK (Zw i x y z) (Zw i e f g) ov c (Zw i d d n)
def cnZ(D d ov c:Int):List Int:=ngC [D,d,ov,c] 4
def smZ(D n d ov c:Int)(x y z e f g:List Int)(i:Nat):List Int:=smP (cnZ D d ov c) (fqZ n d ov c x y z e f g) i
def fmZ(D n d ov c:Int)(x y z e f g:List Int):List Int:=Yg (smZ D n d ov c x y z e f g 3)
structure FzX (D n d ov ov2:Int) (x y z x2 y2 z2:List Int):Prop where
 X:∀i,FmX (Zw i x y z) (Zw i x2 y2 z2) ov ov2 (Zw i d d n)
 K:∀i,Mw (Zw i d d n)
 N:∀i,i<=4->NgX [D,d,ov,ov2] i
 Q:SmX (cnZ D d ov ov2) (fqZ n d ov ov2 x y z x2 y2 z2)
theorem Gv{fr k:Int}(h:Zak fr k ov x y z=true)(i:Nat):Ab KA (tzl (Zw i x y z)):=by unfold Zak Zyd at h;simp only [aY,eJ]at h;obtain⟨⟨⟨⟨⟨⟨⟨⟨a1,a2⟩,n⟩,c⟩,e⟩,f⟩,g⟩,j⟩,-⟩:=h;exact Em (p:=λl=>Ab KA _) ((AxC.of f).ka c e) ((AxC.of g).ka c e) ((AxC.of j).ka c e)
theorem fzX{fr P f l c n:Int}{o q r:List Int}(h:Sgo fr P ov x y z)(e:Sgo f l c o q r)(B:∀i,Ab KA (tzl (Zw i x y z)))(g:∀i,Ab KA (tzl (Zw i o q r)))(G:znB D n d=true):FzX D n d ov c x y z o q r:=by
 obtain⟨R,Q,S,V,W⟩:=zn_b G;have H:=h.o1;have I:=h.o2;have M:=e.o1;have N:=e.o2;have u:∀i,1<=Zw i d d n/\Zw i d d n<=100:=λi=>Em (p:=λk=>1<=k/\k<=100) ⟨O,O⟩ ⟨O,O⟩ ⟨O,O⟩;have j:=λi=>fmX (B i) (g i) (h.lc i).2 (e.lc i).2 ⟨H,I⟩ ⟨M,N⟩ (u i);have F:∀i,([D,d,ov,c].getD i 0).natAbs<=4294967296:=λi=>by
  match i with
  | 0=>grind
  | 1=>grind
  | 2=>grind
  | 3=>grind
  | i+4=>simp
 refine⟨j,λi=>?_,λi hi=>ngX F hi,?_⟩
 .obtain⟨s,t⟩:=u i;exact⟨O,O⟩
 .obtain⟨s,t,w⟩:=Zm4 _ 4;refine smX (s.mono ?_) t w (λi=>(j i).ab) (λi=>(j i).l);refine aB (aO (aO (aO (aO (aO (aO (aO (aO (aH 1) (show D.natAbs<=4194304 by omega)) (show D.natAbs<=4194304 by omega)) (show d.natAbs<=100 by omega)) (show d.natAbs<=100 by omega)) (show ov.natAbs<=4294967296 by omega)) (show ov.natAbs<=4294967296 by omega)) (show c.natAbs<=4294967296 by omega)) (show c.natAbs<=4294967296 by omega)) O
theorem Yde{n c:Int}{e f g:List Int}(h:FzX D n d ov c x y z e f g):Cvd (fmZ D n d ov c x y z e f g):=by exact h.Q.d
theorem tzlm1:(if 25<(tzl [(-1:Int)]).length then []else tzl [-1])=[-1]:=by rfl
abbrev GpT:=(Int×Int)×(SL×List Int)
abbrev Ie (g:GpT):Value:= .agg #[.int .i64 g.1.1,.int .i64 g.1.2,Xi g.2.1]
abbrev qGp (g:GpT):Pc:=Ym 2 wv (Xi g.2.1) g.2.2
abbrev Gp0:GpT:=((0,0),((none,0,0),[]))
abbrev GpU:=Int×Int×List Int
def unP(g:GpT):GpU:=(g.1.1,g.1.2,g.2.2)
def gpZ(D n d:Int)(g h:Cf):GpU:=(g.1.1,g.1.2.1,fmZ D n d g.1.2.2 h.1.2.2 g.2.1 g.2.2.1 g.2.2.2 h.2.1 h.2.2.1 h.2.2.2)
def Kj(D n d:Int)(a b:List Zt):List GpU:=List.zipWith (gpZ D n d) (Lh a b a) (Lh a b b)
def Ey(a b:List Zt):Int:=if Eg a b=9 then 0 else Eg a b
def Zz7(h:Eg a b≠0)(ps:List Zt):Lh a b ps=[]:=aJ h
theorem Zsm{n:Int}(h:Eg a b≠0):Kj D n d a b=[]:=by unfold Kj;simp_all [Zz7]
theorem Znj{ts:List Int}{a b ps:List Zt}(c:∀k,Px (ts.getD k 0) (ts.getD (k+1) 0) a=true->Px (ts.getD k 0) (ts.getD (k+1) 0) b=true->k+1<ts.length->(Zby (ts.getD k 0) (ts.getD (k+1) 0) ps).length=1):∀n,n+1<=ts.length->Eb ts a b n=true->(Zdz ts ps n).length=n
 | 0,_,_=>rfl
 | n+1,g,e=>by have f:Eb ts a b (n+1)=(Eb ts a b n && (Px _ _ a && Px _ _ b)):=rfl;rw [f,aY,aY]at e;show(Zdz ts ps n ++ Zby _ _ ps).length=_;rw [aP,Znj c n O e.1,c n e.2.1 e.2.2 O]
theorem Yns{ps:List Zt}{fr c:Int}(hi:∀g∈ps,Gin g)(h:Xl ps=true)(i:spF ps<=fr)(j:fr<c)(k:c<=spL ps)(f:∀g∈ps,¬(fr<g.1.1/\g.1.1<c))(l:Px fr c ps=true):(Zby fr c ps).length=1:=by have n:=(Gp h).2.1;unfold Zby;rw [aM l,aT,Yd7 (Zdk hi h).1 (λe=>O4) i j k f]
theorem Zz9(a b:List Zt):Eg a b=9\/Eg a b=0\/Eg a b=7:=by unfold Eg;omega
theorem comE_0(h:Eg a b=0):¬cmF a b>=cmL a b/\Zz8 a b=true:=by unfold Eg at h;grind
theorem Zh7(p:∀g∈a,Gin g)(q:∀g∈b,Gin g)(l:Xl a=true)(n:Xl b=true):(Lh a b a).length=(Lh a b b).length/\(Lh a b a).length<=2+a.length+b.length:=by
 by_cases h:Eg a b=0
 .obtain⟨w,r⟩:=comE_0 h;have B:=bks a b O;have u:=B.two;have e:∀ps,Lh a b ps=Zdz _ ps _:=λps=>aM h;have F:=Znj (λk s t c=>by obtain⟨f,i,j⟩:=B.lt k c;unfold cmF at f;unfold cmL at j;exact Yns p l O i O (λg o=>B.no k c g (.inl o)) s) _ O r
  have G:=Znj (λk s t c=>by obtain⟨f,i,j⟩:=B.lt k c;unfold cmF at f;unfold cmL at j;exact Yns q n O i O (λg o=>B.no k c g (.inr o)) t) _ O r
  grind [Zsg]
 simp_all [Zz7,aV]
theorem Bn{ps zs:List Zt}(hi:∀g∈ps,Gin g)(r:Xl ps=true)(w:zs.map Nw=Lh a b ps):∀q∈zs,Gin q/\seB q=true:=by
 have k:∀n,∀u∈Zdz _ ps n,∃(fr e:Int) (g:Zt),g∈ps/\Hb fr e g=true/\Ze6 fr e g=true/\u=Zxk fr e g:=λn=>by
  induction n with
  | zero=>intro u j;cases j
  | succ n B=>
   intro u j;rcases cP.1 (show u∈Zdz (Mu a b) ps n ++ _ from j)with h|h
   .grind
   .unfold Zby at h;split at h
    .rename_i s;obtain⟨g,l,rfl⟩:=dZ.1 h;obtain⟨c,f⟩:=gQ.1 l;exact⟨_,_,g,c,f,bZ.1 s g l,rfl⟩
    grind
 intro q t;have i:Nw q∈Lh a b ps:=O4;unfold Lh at i;split at i
 .obtain⟨fr,e,g,c,f,o,p⟩:=k _ _ i;have:=Ys6 (hi g c) ((Zdk hi r).2.1 g c) f o p;grind
 grind
theorem zip_s{α β γ:Type}{f:α->β->γ} : ∀{l:List α} {m:List β} {k:Nat} {x:α} {y:β},l[k]? = some x->m[k]? = some y->(List.zipWith f l m).take (k+1)=(List.zipWith f l m).take k ++ [f x y]
 | [],_,_,_,_,h,_=>O4
 | _::_,[],_,_,_,_,h=>O4
 | a::l,b::m,0,x,y,h,h2=>O11
 | a::l,b::m,k+1,x,y,h,h2=>by have:=zip_s (f:=f) (by simpa using h) (by simpa using h2);simp only [List.zipWith_cons_cons,jH,this,dK]
def gpY(q:Zt)(g:SL×List Int):GpT:=((q.1.1,q.1.2.1),g)
theorem Zk6{n:Int}{xs:List Zt}{zs:List GpT}{k:Nat}{g:SL×List Int}(l:xs.map Nw=Lh a b a)(o:ys.map Nw=Lh a b b)(h:zs.map unP=(Kj D n d a b).take k)(j:k<xs.length)(f:k<ys.length)(i:g.2=fmZ D n d (xs.getD k G0).1.2.2 (ys.getD k G0).1.2.2 (xs.getD k G0).2.1.2 (xs.getD k G0).2.2.1.2 (xs.getD k G0).2.2.2.2 (ys.getD k G0).2.1.2 (ys.getD k G0).2.2.1.2 (ys.getD k G0).2.2.2.2) :
  (zs ++ [gpY (xs.getD k G0) g]).map unP=(Kj D n d a b).take (k+1):=by
 have c:(Lh a b a)[k]? = some (Nw (xs.getD k G0)):=O4;have e:(Lh a b b)[k]? = some (Nw (ys.getD k G0)):=O4;unfold Kj at h ⊢;rw [zip_s c e,bN,bH];simp only [gpY,unP,gpZ,Nw];grind
theorem Zsk{n:Int}{xs:List Zt}{zs:List GpT}(e:xs.map Nw=Lh a b a)(c:(Lh a b a).length=(Lh a b b).length)(h:zs.map unP=(Kj D n d a b).take xs.length):zs.map unP=Kj D n d a b:=by rw [h];unfold Kj;grind
def Zso(h:Eg a b=9):Ey a b=0:=aM h
def Zsn(h:¬Eg a b=9):Ey a b=Eg a b:=aJ h
theorem Zj2{fr c:Int}(h:Sgo fr c ov x y z):Mw ov:=⟨by have:=h.o1;omega,by have:=h.o2;omega⟩
def Zoy(l:List GpU):Option GpU:=l.find? λg=>Hu g.2.2
def Zcq(l:List GpU):Int×Int×Bool:=match Zoy l with
 | some g=>(g.1,g.2.1,true)
 | none=>(0,0,false)
theorem fst_n{l:List GpU}(h:∀i,i<l.length->Hu (l.getD i (0,0,[])).2.2=false):Zcq l=(0,0,false):=by
 have:Zoy l=none:=mG.2 λg c=>by obtain⟨i,hi,rfl⟩:=cZ.1 c;grind
 unfold Zcq;grind
theorem fst_s:∀{l:List GpU} {k:Nat},k<l.length->(∀i,i<k->Hu (l.getD i (0,0,[])).2.2=false)->Hu (l.getD k (0,0,[])).2.2=true->Zoy l=some (l.getD k (0,0,[]))
 | [],_,c,_,_=>absurd c (bG _)
 | g::l,0,_,_,h2=>kP O4
 | g::l,k+1,c,h1,h2=>by have e:Zoy _=Zoy l:=kQ (by rw [show Hu g.2.2=false from h1 0 (kL _)];simp);rw [e];exact fst_s (by simpa using c) (λi hi=>h1 (i+1) O) h2
theorem Au(zs:List GpT)(k:Nat):(zs.map unP).getD k (0,0,[])=unP (zs.getD k Gp0):=by rw [aK,eT,aK];cases zs[k]?<;>rfl
theorem cvd_gp{n:Int}(h:∀g∈a,Gin g)(i:∀g∈b,Gin g)(c:Xl a=true)(f:Xl b=true)(I:znB D n d=true){xs:List Zt}(G:xs.map Nw=Lh a b a)(H:ys.map Nw=Lh a b b):∀g∈Kj D n d a b,Cvd g.2.2:=λg o=>by unfold Kj at o;obtain⟨k,w,e⟩:=cZ.1 o;rw [lH]at e;subst e;rw [lS]at w;have M:(Lh a b a)[k]∈xs.map Nw:=O4;have N:(Lh a b b)[k]∈ys.map Nw:=O4;obtain⟨q,B,t⟩:=dZ.1 M;obtain⟨r,F,u⟩:=dZ.1 N;obtain⟨p,j⟩:=Bn h c G q B;obtain⟨s,l⟩:=Bn i f H r F;rw [<-t,<-u];simp only [gpZ,Nw];exact Yde (fzX (Kb p j) (Kb s l) (Gv j) (Gv l) I)
def mkS(u:Cf):Zt:=(u.1,((none,0,0),u.2.1),((none,0,0),u.2.2.1),((none,0,0),u.2.2.2))
theorem Yaw(l:List Cf):(l.map mkS).map Nw=l:=by rw [gG];exact List.map_id' _
theorem Ynm{n:Int}(f:∀g∈a,Gin g)(i:∀g∈b,Gin g)(c:Xl a=true)(e:Xl b=true)(l:znB D n d=true){zs:List GpT}(h:zs.map unP=Kj D n d a b){k:Nat}(o:k<zs.length):Cvd (zs.getD k Gp0).2.2:=by have j:unP (zs.getD k Gp0)∈Kj D n d a b:=O4;exact cvd_gp f i c e l (Yaw _) (Yaw _) _ j
theorem fst_at{l:List GpU}{zs:List GpT}(h:zs.map unP=l){k:Nat}(f:k<zs.length)(e:∀i,i<k->Hu (zs.getD i Gp0).2.2=false)(c:Hu (zs.getD k Gp0).2.2=true):Zcq l=((zs.getD k Gp0).1.1,(zs.getD k Gp0).1.2,true):=by subst h;have:=fst_s (l:=zs.map unP) (k:=k) O4 (λi hi=>by rw [Au];exact e i hi) (by rw [Au];exact c);unfold Zcq;rw [this,Au];rfl
theorem Ymp{l:List GpU}{zs:List GpT}(h:zs.map unP=l)(c:∀i,i<zs.length->Hu (zs.getD i Gp0).2.2=false):Zcq l=(0,0,false):=by subst h;exact fst_n λi hi=>by rw [Au];exact c i O4
theorem Ysi{n:Int}(i:∀g∈a,Gin g)(j:∀g∈b,Gin g)(c:Xl a=true)(f:Xl b=true){zs:List GpT}(h:zs.map unP=Kj D n d a b):zs.length<=2+a.length+b.length:=by have k:=Zh7 i j c f;have e:=aD List.length h;unfold Kj at e;grind
def apZ(D n d:Int)(a b:List Zt):Bool:=decide (Ey a b=0) && !(Zcq (Kj D n d a b)).2.2
theorem ap_t{n:Int}(h:Ey a b=0):apZ D n d a b=!(Zcq (Kj D n d a b)).2.2:=by unfold apZ;grind
theorem Yhg{n:Int}(h:¬Ey a b=0):apZ D n d a b=false:=by unfold apZ;grind
open Go.Proofs
def pPa:Enc Tryz.prog 36 1 Xi:=Enc.flat Tryz.sizeOf36 Tryz.isAgg36 (λ_=>rfl)
def pGp:Enc Tryz.prog 178 3 Ie:=Enc.agg O3 Tryz.sizeOf178 Tryz.isAgg178 (λx=>⟨[.int .i64 x.1.1,.int .i64 x.1.2,Xi x.2.1],rfl,rfl,O12⟩)
@[reducible,instance] def encPaI:EncT Tryz.prog 36 1 Xi:=⟨pPa⟩
@[reducible,instance] def encGpI:EncT Tryz.prog 178 3 Ie:=⟨pGp⟩
def ti_a3:Tryz.prog.info? 409=some Tryz.t409:=O6
def ti_ax:Tryz.prog.info? 408=some Tryz.t408:=O6
theorem Yoq{c e f g h i:Value} : Tryz.prog.built 409 [(0,.agg #[a0,a1,a2]),(1,.agg #[c,e,f]),(2,.agg #[g,h,i])]=some #[a0,a1,a2,c,e,f,g,h,i]:=by refine Cd ti_a3 Tryz.underlying409 rfl ti_ax ?_;rw [show Tryz.t408.size=3 from rfl];exact fill33
open Go.Proofs.Tryz
set_option synthInstance.maxHeartbeats 0
set_option synthInstance.maxSize 100000
set_option maxRecDepth 20000
set_option linter.unusedSimpArgs false
theorem Zpi{va vb:Value}{e f:List Zt}(w:∀g∈e,Gin g)(B:∀g∈f,Gin g)(p:Xl e=true)(s:Xl f=true)(c1:e.length<=5)(c2:f.length<=5):Cal prog 247 #[va,vb] [Qb 6 Qt qG va e,Qb 6 Qt qG vb f] true (G:=(Value×List Zt)×(Value×List Zt)) (λg=>g.1.2.map Nw=Lh e f e/\g.2.2.map Nw=Lh e f f) (λg=> .tuple #[g.1.1,g.2.1,.int .i64 (Eg e f)]) (λg=>[Qb 6 Qt qG g.1.1 g.1.2,Qb 6 Qt qG g.2.1 g.2.2]):=by
 refine Zg func247 ntmps247 λw0 sc u F=>?_;refine Zdt (Xe 1 J Ze) (λsa b3=>?_);subst b3;refine Zdt (Xe 2 J Ze) (λsb b4=>?_);subst b4;obtain⟨-,b5,a3⟩:=Gp p;obtain⟨-,b6,a4⟩:=Gp s;have a5:=Zrw w p;have a6:=Zrw B s;have b9:=Zsg e f;have c0:([sa,sb]:List SL).length=2:=rfl;refine go 11 ?_;refine cl 2 [1] (Ek w) λ_ _=>?_;refine dt (dF (Qc J J) (aD (λb=>Value.bool (!b)) p))<|go 2 ?_;refine Hx 2 [2] (Ek B) λ_ _=>?_;refine Bt (dF (Qc J J) (aD (λb=>Value.bool (!b)) s)) J J<|go 7 ?_;refine Qe (λ_=>False) [(0,0),(1,0),(2,0),(3,0),(4,0),(5,0),(6,0),(7,0),(8,0),(9,0),(10,0),(11,0),(12,0),(13,0),(14,0),(15,0),(16,0),(17,0),(18,0),(19,0),(20,0),(21,0),(22,0),(23,0),(24,0),(25,3)]<|go 2 ⟨O,?_⟩;refine Xb J J (Qa (Le 1 J J J Ze Dl J Mv J))<|Xb J J (Qa (Ld 1 G0 J J J Ze Dz J))<|go 2 ⟨O,?_⟩;refine Xb J J (Qa (Le 2 J J J Ze Dl J Mv J))<|Xb J J (Qa (Ld 2 G0 J J J Ze Dz J))<|Xb J J (Qa (Xk ( .int .i64 (cmF e f)) (Zcz J J J) J))<|go 4 ⟨O,?_⟩;refine Xb J J (Qa (Zv 1 (e.length-1) J J J J Ze Mm Ln))<|Xb J J (Qa (Le 1 J J J Ze Dl J Mv J))<|Xb J J (Qa (Ld 1 G0 J J J Ze Dz J))<|go 4 ⟨O,?_⟩;refine Xb J J (Qa (Zv 2 (f.length-1) J J J J Ze Mm Ln))<|Xb J J (Qa (Le 2 J J J Ze Dl J Mv J))<|Xb J J (Qa (Ld 2 G0 J J J Ze Dz J))<|Xb J J (Qa (Xk ( .int .i64 (cmL e f)) (Zn4 J J J) J))<|go 12 ?_;refine Zc J (λo=>?_) (λo=>?_)
 .have h:cmF e f>=cmL e f:=o;exact go 9<|Zn (Kt 72 6 Qt qG)<|xe3 F ((.slice none 0 0,[]),(.slice none 0 0,[])) results247 (by rw [(Zqh h e).1]) ⟨(Zqh h e).2.symm,(Zqh h f).2.symm⟩ (Qy 72 (Qy 72 Za))
 .have h:¬cmF e f>=cmL e f:=o;have hB:=bks e f O;have b8:=hB.two;refine go 6 ?_;refine tt (Yx [(0,_),(1,_)] 60 (enc:=Yd) ([cmF e f,cmL e f]:List Int) J J K4 Ql ti3 J J J J J pZ.cells J J u.h) λv _=>go 8 ?_;refine tt (Yx [(0,_),(1,_)] 61 (enc:=Xi) ([sa,sb]:List SL) J J K4 Ze4 ti36 J J J J J pPa.cells J J u.h) λc7 _=>go 5 ?_;refine lp (G:=Nat×Value) [0,1,4,5,7,8,59,60] [0,1,2,61] (λq=>[(61,.int .i64 (q.1:Int)),(9,q.2)]) (λq=>[(60,Oc 1 3 Yd q.2 (Zfs e f q.1))]) (λq=>q.1<=2) (λq=>2-q.1) (0,_) O1 K2 K1 ?_;rintro⟨i,vt⟩ hi;dsimp only at hi;dsimp only;refine go 6<|Zc J (λQ=>?_) (λQ=>?_)
  .refine go 5<|Zf (Yqo (sd:=(none,0,0)) i 1 2 50 J J J J O)<|go 1 ?_;refine dt (Zv 61 i J J J J (Zo pPa) Ze4 sizeOf36 J O9)<|dt (Xd 61 (none,0,0) J J J (Zo pPa) pPa O9)<|go 11 ?_;refine lp (G:=Nat×Value) [0,1,4,5,7,8,59,60,61,65,66] [0,1,2,61,50] (λq=>[(67,.int .i64 (q.1:Int)),(9,q.2)]) (λq=>[(60,Oc 1 3 Yd q.2 (tik e f i q.1))]) (λq=>q.1<=(Cu i e f).length) (λq=>(Cu i e f).length-q.1) (0,_) O1 K2 ⟨by rw [tik_0];rfl,aA⟩ ?_;rintro⟨k,vu⟩ hk;dsimp only at hk;dsimp only;have c3:=Yr2 e f i k;have a7:=Zwk e f i;refine go 6<|Zc J (λR=>?_) (λR=>?_)
   .refine go 5<|Zf (Od ((Cu i e f).getD k G0) (((Cu i e f).getD k G0).2.1) 50 51 J J (Zd O) O5)<|Zf (Od ((Cu i e f).getD k G0) (((Cu i e f).getD k G0).2.2.1) 50 52 J J (Zd O) O5)<|Zf (Od ((Cu i e f).getD k G0) (((Cu i e f).getD k G0).2.2.2) 50 53 J J (Zd O) O5)<|go 2 ⟨O2,?_⟩;refine dt (Xd 50 G0 J J J Ze pG O2)<|Yk (Yh 3) λbx _=>go 10 ?_;refine Yc 75 J (λb0=>?_) (λb0=>?_)
    .refine go 7<|Zc J (λS=>?_) (λS=>?_)
     .refine go 4 ?_;refine tt (Yx [(0,_)] 4 (enc:=Yd) ([((Cu i e f).getD k G0).1.1]:List Int) J J K2 Ql ti3 J J J J J pZ.cells J J u.h) (λc8 _=>?_);refine tt (Qr 60 4 8 J J J J J J O3 J (Zo pZ) Ql ti3 J pZ J J J O9 O3 J u.h) (λc9 _=>?_);refine go 8 ⟨O,?_⟩;exact Yi (k+1,_) O1 O1 K2 ⟨by rw [tik_t O O O];rfl,aA⟩
     .refine go 7 ⟨O,?_⟩;exact Yi (k+1,_) O1 O1 K2 ⟨by rw [tik_f O O];rfl,aA⟩
    .refine go 15 ⟨O,?_⟩;exact Yi (k+1,_) O1 O1 K2 ⟨by rw [tik_f O O];rfl,aA⟩
   .obtain rfl:k=(Cu i e f).length:=O;refine go 10 ⟨O,?_⟩;exact Yi (i+1,_) O1 O1 K2 ⟨by rw [<-tik_e O];rfl,aA⟩
  .obtain rfl:i=2:=O;refine go 6 ?_;refine e_obox 60 J J (tms_ne e f 2) J u.h (λbq cq rq hv c5 b2=>?_);subst hv;have b7:=tms_2 e f 2;have c4:=Zse e f 2;refine go 2 ?_;refine tt (Pa 4 60 (Yqc O O) J J J K1 call181 J O3 Zr J u.h aA) (λgs I=>?_);have a7:=I.1.1;rw [<-a7];refine go 5 ?_;refine tt (Pa 4 60 (sl_cmp O O O I.2) J J J K1 call299 J O3 Zr J u.h aA) λgc W=>go 5 ?_;obtain⟨gz,gr⟩:=gc;have c6:gz.length+gr.length=gs.length+rq.length:=W.2;obtain rfl:gz=Mu e f:=Yn2 I.1 W.1;refine Zf (Yqn (xs:=Mu e f) (r:=gr) (c:=cq) 60 J J O b2 J u.h)<|go 5<|Zf (Qi 74 6 116 Qt)<|Zf (Qi 75 6 116 Qt)<|Zf (Ya qG 76)<|Zf (Ya qG 77) ?_;refine lp (G:=Nat×Value×List Zt×Value×List Zt) [0,1,9] [0,60,1,2] (λq=>[(14,.int .i64 ((q.1+1:Nat):Int)),(4,q.2.1),(5,q.2.2.2.1)]) (λq=>[(74,Oc 6 116 Qt q.2.1 q.2.2.1),(75,Oc 6 116 Qt q.2.2.2.1 q.2.2.2.2),(76,Nt qG q.2.2.1),(77,Nt qG q.2.2.2.2)]) (λq=>(q.1+1<=(Mu e f).length)/\(Eb (Mu e f) e f q.1=true)/\(q.2.2.1.map Nw=Zdz (Mu e f) e q.1)/\(q.2.2.2.2.map Nw=Zdz (Mu e f) f q.1)/\(q.2.2.1.length=q.1)/\(q.2.2.2.2.length=q.1)) (λq=>(Mu e f).length-q.1) (0,.slice none 0 0,[],.slice none 0 0,[]) ⟨O,J,J,J,J,J⟩ K3 K4 ?_;rintro⟨n,v4,z4,v5,z5⟩ ⟨hn,t,N,P,Y,Z⟩;dsimp only at hn t N P Y Z;dsimp only;refine go 9<|Zc J (λV=>?_) (λV=>?_)
   .refine go 5<|Qe (λ_=>False) [(0,0),(1,0),(2,0),(3,0),(4,0),(5,0),(6,0),(7,0),(8,0),(9,0),(10,1),(11,0),(12,0),(13,0),(14,0),(15,3)]<|go 4 ⟨O,?_⟩;refine Xb J J (Qa (Zv 60 n J J J J (Zo pZ) Ql Mv))<|go 3 ⟨O,?_⟩;refine Xb J J (Qa (Zv 60 (n+1) J J J J (Zo pZ) Ql Mv J))<|go 1 ⟨O,?_⟩;refine Ys (Zp 84 [1] (Yiv a5 (lh_M w p) a3)) λg hg=>go 8<|Qe (λ_=>False) [(0,0),(1,0),(2,0),(3,0),(4,0),(5,0),(6,0),(7,0),(8,0),(9,0),(10,1),(11,0),(12,0),(13,0),(14,0),(15,3)]<|go 4 ⟨O,?_⟩;refine Xb J J (Qa (Zv 60 n J J J J (Zo pZ) Ql Mv))<|go 3 ⟨O,?_⟩;refine Xb J J (Qa (Zv 60 (n+1) J J J J (Zo pZ) Ql Mv J))<|go 1 ⟨O,?_⟩;refine Ys (Zp 86 [2] (Yiv a6 (lh_M B s) a4)) λb1 H=>go 9 ?_;rcases Zpb (Px ((Mu e f).getD n 0) ((Mu e f).getD (n+1) 0) e) (Px ((Mu e f).getD n 0) ((Mu e f).getD (n+1) 0) f)with j|⟨j,l⟩|⟨j,l⟩
    .exact go 2<|kt (aF (by rw [Zz4 j];decide))<|go 21<|Zn (Kt 72 6 Qt qG)<|xe3 F ((.slice none 0 0,[]),(.slice none 0 0,[])) results247 (by rw [(Zc0 h O (Zji j) e).1]) ⟨(Zc0 h O (Zji j) e).2.symm,(Zc0 h O (Zji j) f).2.symm⟩ (Qy 72 (Qy 72 Za))
    .exact go 2<|kf (aE (by rw [Zz5 j];decide))<|go 2<|ktg (aF (by rw [Zz4 l];decide))<|go 18<|Zn (Kt 72 6 Qt qG)<|xe3 F ((.slice none 0 0,[]),(.slice none 0 0,[])) results247 (by rw [(Zc0 h O (Zjh l) e).1]) ⟨(Zc0 h O (Zjh l) e).2.symm,(Zc0 h O (Zjh l) f).2.symm⟩ (Qy 72 (Qy 72 Za))
    .refine go 2<|kf (aE (by rw [Zz5 j];decide))<|go 2<|kfg (aE (by rw [Zz5 l];decide))<|go 6 ?_;have a8:=Ynz w p hB O j hg;have a9:=Yny B s hB O l H;refine go 3 ?_;refine tt (Qr 74 84 96 J J J J J J O3 J Ze Mm ti116 J pG J J J (by rw [a8];omega) O3 J u.h) λd0 _=>go 2 ?_;refine tt (Qr 75 86 96 J J J J J J O3 J Ze Mm ti116 J pG J J J (by rw [a9];omega) O3 J u.h) (λd1 _=>?_);refine Ye (Ir 84 85 J J)<|Ye (Iq 76 85 76 J J J J)<|Ye (Ir 86 87 J J)<|Ye (Iq 77 87 77 J J J J)<|go 10 ⟨O,?_⟩;exact Yi (n+1,_,z4 ++ g.2,_,z5 ++ b1.2) ⟨O1,com_k t j l,Yec N hg,Yec P H,by rw [aP,Y,a8],by rw [aP,Z,a9]⟩ O1 K3 K4
   .have M:n+1=(Mu e f).length:=O;exact go 10<|kf (aE O)<|go 15<|Zn (Yz 74 J J pG)<|Zn (Yy 74 76 78 J J J J)<|Zn (Yz 75 J J pG)<|Zn (Yy 75 77 79 J J J J)<|xe3 F ((v4,z4),(v5,z5)) results247 (by rw [(Zqi h M t).1]) ⟨N.trans ((Zqi h M t).2 e).symm,P.trans ((Zqi h M t).2 f).symm⟩ (Qy 78 (Qy 79 Za))
theorem Yp7(e:Vp xs):Xq prog 402 #[v] [Ym 2 wv v xs] (.bool (decide (Zda xs))):=by
 refine Zg func402 ntmps402 λp o l c=>?_;have h:=e.len;have j:=Qv e.sz;have k:(xs.length+2)*(xs.length+2)<=27*27:=aO O O;have n:(xs.length+2)*(xs.length+2)*(Xw xs+16)<=27*27*65552:=aO k O;have i:((xs.length:Int)-1+3)*((xs.length:Int)-1+3)=(((xs.length+2)*(xs.length+2):Nat):Int):=by rw [show(xs.length:Int)-1+3=((xs.length+2:Nat):Int) by omega];push_cast;rfl
 have f:((xs.length:Int)-1+3)*((xs.length:Int)-1+3)*((Xw xs:Int)+16)=(((xs.length+2)*(xs.length+2)*(Xw xs+16):Nat):Int):=by rw [i];push_cast;rfl
 refine go 9 ?_;refine cl 1 [1] (Xs ‹_›) λ_ _=>go 9 ?_;refine cl 1 [1] (Zjy e) λ_ _=>go 10 ?_;refine cl 1 [1] (Zpw e) λ_ _=>go 13<|Yc 23 J (λg=>?_) (λg=>?_)
 .refine go 14 ?_;exact Yq c () results402 (by first|exact sf_t O|exact sf_i O f) aA Za
 .refine go 14 ⟨O,O,by rw [i];exact⟨O,O⟩,O,by rw [f];exact⟨O,O⟩,?_⟩;exact Yq c () results402 (by first|exact sf_t O|exact sf_i O f) aA Za
theorem Yfi(g:Vp xs):Xq prog 393 #[v,.slice none 0 0] [Ym 2 wv v xs] (.int .i64 (Yg7 xs)):=by
 refine Zg func393 ntmps393 λj i h e=>?_;refine Zf (Qi 999 2 144 wv)<|Zf (Yz 999 J J pV)<|go 8 ?_;refine cl 1 [1] (Yp7 g) λ_ _=>go 13 ?_;refine lp (G:=Unit) [0,1,13,14] [0,1,999] (λ_=>[(15,.int .i64 0),(5,.bool (decide (¬Zda xs)))]) (λ_=>[]) (λ_=>True) (λ_=>0) () aA K2 aA ?_;rintro _ -;refine go 2<|kf O3<|go 13 ?_;refine cl 1 [1] (Xs ‹_›) λ_ _=>go 14<|Zc J (λf=>?_) (λf=>?_)
 .refine go 7 ?_;exact Yq e () results393 (by unfold Yg7;rw [aM O]) aA Za
 .refine go 7<|kf O3<|go 11<|Pw J (λc=>?_) (λc=>?_)
  .refine go 7 ?_;exact Yq e () results393 (by unfold Yg7;rw [aJ O,aJ (by simpa using c)]) aA Za
  .refine go 8 ?_;exact Yq e () results393 (by unfold Yg7;rw [aJ O,aM (by simpa using c)]) aA Za
theorem Zuk(g:Vp xs)(k:xs≠[]):Cal prog 394 #[v] [Ym 2 wv v xs] true (G:=Value) (λr=>True) (λr=> .tuple #[r,.int .i64 0]) (λr=>[Ym 2 wv r (Xf xs)]):=by
 refine Zg func394 ntmps394 λs q p e=>?_;have c:=Lp g;have n:=aI.2 k;have o:=Yj xs;have j:=g.len;refine go 9 ?_;refine cl 2 [1] (Nr g) λ_ _=>go 11<|kt O3<|go 5 ⟨O,?_⟩;refine Bt (Zv 2 ((Yg xs).length-1) J J J J Zm Pu Ou) J J<|go 1 ⟨O2,?_⟩;refine Hx 2 [] (Hl (c.sz _)) λ_ _=>go 4<|Zc J (λf=>?_) (λf=>?_)
 .refine go 3 ?_;refine cl 2 [] (Zz _ ⟨O3,O3⟩) λ_ _=>cl 3 [2] (Na _ _ c O7 (λi=>Zcv c.sz i)) λ_ _=>go 8 ?_;exact Nb e _ results394 J aA (Qy 3 Za (by rw [Zk4 O ((Ob _).1 ‹_›)]<;>rfl))
 .refine go 11 ?_;exact Nb e _ results394 J aA (Qy 2 Za (by rw [Zk3 (λh=>by have l:=(Ob _).2 h;exact absurd l ‹_›)]<;>rfl))
theorem st_sqf(j:Vp xs)(q:xs≠[])(u:Zda xs)(F:Nat)(s:Yp9 F xs):Cal prog 363 #[v] [Ym 2 wv v xs] true (G:=Value) (λr=>True) (λr=> .tuple #[r,.int .i64 0]) (λr=>[Ym 2 wv r (sqf F xs)]):=by
 refine Zg func363 ntmps363 λI H B o=>?_;obtain⟨e,l,f,n,g⟩:=s;have c:=Zx9 j;have w:=Pq j.tr;have h:Vp (Xg (Xf xs)):=Zgm c (λi hi=>e i O);have p:=Yau c h f;have t:=Ytr q u;refine Zf (Qi 999 2 144 wv)<|Zf (Yz 999 J J pV)<|go 10 ?_;refine cl 1 [1] (Yfi j) λ_ _=>go 9<|Zc J (λk=>?_) (λk=>?_)
 .exfalso;omega
 .refine go 5 ?_;refine cl 2 [1] (Zuk j q) λ_ _=>go 11<|kf O3<|go 8 ?_;refine cl 3 [2] (Zau c (λi=>by by_cases hi:i<xs.length;exact e i hi;rw [Yr O];simp [Kv])) λ_ _=>go 11<|kf O3<|go 9 ?_;refine cl 4 [2,3] (Zvt c h F l f) λ_ _=>go 11<|kf O3<|go 9 ?_;refine cl 5 [2,4] (Zdh c p n) λ_ _=>go 7 ?_;exact Nb o _ results363 (by rw [aM g]<;>rfl) aA (Qy 5 Za (by rw [aM g]<;>rfl))
theorem Yp6{u:Value}{ys:List Int}(n:Vp xs)(l:Vp ys)(s:ys≠[])(p:Ai xs ys=0)(j:ys.length<=xs.length):Cal prog 364 #[v,u] [Ym 2 wv v xs,Ym 2 wv u ys] true (G:=Value) (λr=>True) (λr=> .tuple #[r,.int .i64 0]) (λr=>[Ym 2 wv r (Mr xs ys)]):=by
 refine Zg func364 ntmps364 λF B w c=>?_;have f:=Zbf n p;have e:=Lp f;have q:=n.len;have k:=l.len;have t:=aI.2 s;refine Zf (Qi 999 2 144 wv)<|Zf (Yz 999 J J pV)<|go 10 ?_;refine cl 3 [1,2] (Zpv n l p) λ_ _=>go 11<|kf O3<|go 7<|Zc J (λg=>?_) (λg=>?_)
 .refine go 9 ?_;exact Nb c (.slice none 0 0) results364 J aA (Pi (Yfj O) Za)
 .refine go 5 ?_;refine cl 4 [3] (Nr f) λ_ _=>go 11<|kf O3<|go 23 ⟨O,O,O,?_⟩;refine dt (Zv 2 (ys.length-1) J J J J Zm Pu Ou)<|go 1 ⟨O2,?_⟩;refine cl 4 [] (Hl (l.sz _)) λ_ _=>go 2<|Yc 45 J (λo=>?_) (λo=>?_)
  .refine go 1 ?_;refine Bt (Zn3 J J J O O) J J<|go 4 ?_;refine Zc J (λh=>?_) (λh=>?_)
   .refine go 9 ?_;exact Nb c _ results364 J aA (Qy 4 Za (by rw [Yqa j ‹_› ‹_›]<;>rfl))
   .refine go 5 ?_;refine cl 4 [] (Zz _ ⟨O3,O3⟩) λ_ _=>cl 5 [4] (Na _ _ e O7 (λi=>Zcv e.sz i)) λ_ _=>go 7 ?_;exact Nb c _ results364 J aA (Qy 5 Za (by first|(rw [Ya5 ‹_›]<;>rfl)|(rw [Ya4 j ‹_›]<;>rfl)))
  .refine go 12 ?_;refine cl 5 [] (Zz _ ⟨O3,O3⟩) λ_ _=>cl 6 [4] (Na _ _ e O7 (λi=>Zcv e.sz i)) λ_ _=>go 7 ?_;exact Nb c _ results364 J aA (Qy 6 Za (by first|(rw [Ya5 ‹_›]<;>rfl)|(rw [Ya4 j ‹_›]<;>rfl)))
theorem Yii(S:Vp xs)(h0:xs≠[])(hf:Zda xs)(F:Nat)(hC:Zbe F xs):Cal prog 311 #[v] [Ym 2 wv v xs] true (G:=Value×List (SL×List Int)) (λr=>r.2.map Prod.snd=chn F xs) (λr=> .tuple #[r.1,.int .i64 0]) (λr=>[Qb 1 Nk qZ r.1 r.2]):=by
 refine Zg func311 ntmps311 λw0 sc V N=>?_;obtain⟨k,p,I⟩:=hC;have n:=Zlq S h0 k;have a4:=Zng S k;have g:Vp (Xg (sqf F xs)):=Zgm n (λi hi=>p i O);refine Zf (Qi 999 2 144 wv)<|Zf (Yz 999 J J pV)<|go 9 ?_;refine cl 2 [1] (st_sqf S h0 hf F k) λ_ _=>go 11<|kf O3<|go 8 ?_;refine cl 3 [2] (Zau n (λi=>by by_cases hi:i<xs.length;exact p i hi;rw [Yr O];simp [Kv])) λ_ _=>go 11<|kt O3<|go 5 ?_;refine cl 80 [3] (Nr g) λ_ _=>go 11<|kf O3<|go 6 ?_;refine Zdt (Xe 2 J Zm) (λZ R=>?_);subst R;refine Zf (Ya qZ 71)<|Zf (Zh (q:=qZ) (z:=(Z,sqf F xs)) 71 2 71 J J J J J)<|Zdt (Xe 80 J Zm) (λY P=>?_);subst P;refine go 2 ?_;refine tt (Yx [(0,_)] 70 (enc:=Nk) [(Z,sqf F xs)] J J K2 Zo9 ti140 J J J J J pS.cells J J V.h) λv _=>go 5 ?_;refine lp (G:=List (SL×List Int)×SL×List Int×SL×List Int×Nat×Value) [] [0,1,999,2,3] (λq=>[(7,q.2.2.2.2.2.2),(6,Xi q.2.2.2.1)]) (λq=>[(70,Oc 1 140 Nk q.2.2.2.2.2.2 (q.1 ++ [(q.2.1,q.2.2.1)])),(71,Nt qZ (q.1 ++ [(q.2.1,q.2.2.1)])),(80,Ym 2 wv (Xi q.2.2.2.1) q.2.2.2.2.1)]) (λq=>(Vp q.2.2.1)/\(Vp q.2.2.2.2.1)/\(cok q.2.2.2.2.2.1 q.2.2.1 q.2.2.2.2.1)/\(q.1.map Prod.snd ++ Nz q.2.2.2.2.2.1 q.2.2.1 q.2.2.2.2.1=chn F xs)/\(q.1.length+q.2.2.2.2.1.length<=25)) (λq=>q.2.2.2.2.1.length) ([],Z,sqf F xs,Y,Yg (Xg (sqf F xs)),F,_) ⟨n,Lp g,I,J,by rw [Yj];simp;have:=g.len;omega⟩ ⟨J,J,aA⟩ ⟨J,J,J,aA⟩ ?_;rintro⟨B,w,x,H,y,f,vo⟩ ⟨h,o,s,l,W⟩;dsimp only at h o s l W;dsimp only;refine go 8<|Zc J (λc=>?_) (λc=>?_)
 .have j:y≠[]:=λe=>by rw [e]at c;simp at c
  obtain⟨f0,rfl,hd,M,t,u⟩:=Zh8 s j;refine go 7 ?_;refine tt (Yx [(0,_)] 4 (enc:=Nk) [(H,y)] J J K2 Zo9 ti140 J J J J J pS.cells J J V.h) (λa5 _=>?_);refine tt (Qr 70 4 24 J J J J J J O3 J (Zo pS) Zo9 ti140 J pS J J J O9 O3 J V.h) λa6 _=>go 4 ?_;have a3:(B ++ [(w,x)] ++ [(H,y)]).length=B.length+2:=O5;refine Zf (Zh (q:=qZ) (z:=(H,y)) 71 80 71 J J J J J)<|Zf (Za9 (q:=qZ) 71 92 (w,x) J J O5 J)<|go 5 ⟨O,?_⟩;refine dt (Zv 70 B.length J J J J (Zo pS) Zo9 sizeOf140)<|dt (Xk (Xi w) (Xd 70 Z0 J J J (Zo pS) pS) (by simp [aK])) ?_;refine go 1 ?_;refine cl 80 [92,80] (Yp6 h o j hd M) λ_ _=>?_;refine Znl (Xe 80 J Zm) (λsn Q=>?_);subst Q;refine go 10<|kf O3<|go 5 ?_;exact Yi (B ++ [(w,x)],H,y,sn,Mr x y,f0,_) ⟨o,Zlr h hd,t,by rw [<-l,u];simp,by have h7:=Pf x j;have h8:=Af (y:=y) h.tr;simp;omega⟩ (by have h7:=Pf x j;have h8:=Af (y:=y) h.tr;dsimp only;omega) K2 K3
 .refine go 6 ?_;obtain rfl:y=[]:=aC O;refine Zf (Yz 70 J J pS)<|Zf (Yy 70 71 72 J J J J)<|go 7 ?_;exact Nb N (_,B ++ [(w,x)]) results311 J (by rw [<-l,Du];simp) (Qy 72 Za)
end Go.Sky

