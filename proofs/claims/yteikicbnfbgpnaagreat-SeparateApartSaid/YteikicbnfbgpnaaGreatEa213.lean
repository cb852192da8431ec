/- Rules, arithmetic and contracts: part 14. No conditions but those that each theorem names. -/
import Derived.Test.YteikicbnfbgpnaaGreatEa212
set_option linter.all false
set_option maxHeartbeats 4000000
namespace Go.Sky
variable{c p ts:List Int}{ov d G o x:Int}{a b r us:List Zk}{q:Zk}{i k:Nat}
theorem Ysb(h:AxC c ov)(n:c.getD (c.length-1) 0≠0){a b:Int}(v:0<b)(y:0<d):(Pe c a b d).length=c.length:=by
 have D:=h.l;have B:=Zhp c a b d;rcases aW (Pe c a b d).length c.length with q|q
 .exfalso;have w:(b:Rat)≠0:=by
    have:(0:Rat)<(b:Rat):=by exact_mod_cast v
    grind
  have z:(d:Rat)≠0:=by
    have:(0:Rat)<(d:Rat):=by exact_mod_cast y
    grind
  have m:∀t:Rat,t*(d:Rat)=(a:Rat)+(b:Rat)*((t*d-a)/b):=λt=>O5;by_cases j:(Pe c a b d).length=0
  .have s:=aC j;have:∀t:Rat,Zi c t=0:=λt=>by
    have e:=Zg0 h (m t);rw [s]at e;have f:(d:Rat)^5*Zi c t=0:=e.symm;have l:(d:Rat)^5≠0:=by rw [show(d:Rat)^5=d*d*d*d*d by rw [cZ,cZ,cZ,cZ,cZ,dO];grind];grind
    grind
   exact n (Zrg this _)
  .have g:∀t:Rat,Zi ((Lv (Pe c a b d) (-a) d b).map λq=>1*q) t=Zi (c.map λq=>b^((Pe c a b d).length-1)*d^5*q) t:=λt=>by rw [Zu,Zu];have e:=Zg0 h (m t);have f:=Zmo (p:=Pe c a b d) (-a) d b (t:=(t*d-a)/b) (u:=t) (by push_cast;grind) j;rw [f,e];push_cast;rw [<-Zcw,<-Zcw];push_cast;grind
   have e:=Nv g (c.length-1);rw [Cm,Cm,Yr (by have:=Zfx (Pe c a b d) (-a) d b;omega)]at e;have f:b^((Pe c a b d).length-1)*d^5≠0:=bB (Int.pow_ne_zero O1) (Int.pow_ne_zero O1);have l:b^((Pe c a b d).length-1)*d^5*cf c (c.length-1)=0:=O1;rcases Int.mul_eq_zero.1 l with q|q
   .exact f q
   .exact n q
 .omega
theorem Yas{X:List Int}(f:0<G)(e:∀x∈X,G∣x)(i:Nat):cf (Gc X G) i*G=cf X i:=by
 unfold Gc;split
 .rename_i h;rw [aC h]
  match i with
  | 0=>show(0:Int)*G=cf [] 0;rw [cK];rfl
  | i+1=>show(0:Int)*G=cf [] (i+1);rw [cK];rfl
 .rw [Zf7 _ _ O6];by_cases hi:i<X.length
  .have:cf X i∈X:=Zd hi;exact iW (e _ this)
  .rw [Yr O1];simp
theorem Yq3{X:List Int}(e:0<G)(f:∀x∈X,G∣x)(u:Rat):Zi (Gc X G) u*(G:Rat)=Zi X u:=by rw [kA,<-Zu];exact Nb u _ _ λi=>by rw [Cm,gF,Yas e f]
theorem Zjv(f g:Nat->Int)(a:Int)(h:∀k,f k*a=g k):∀m,Yl f m*a=Yl g m
 | 0=>cK _
 | m+1=>by rw [Yp,Yp,nC,Zjv f g a h m,h]
theorem Yt4{X:List Int}(e:0<G)(f:∀x∈X,G∣x)(n j:Nat):Ho n (Gc X G) j*G=Ho n X j:=by unfold Ho;exact Zjv _ _ _ (λk=>by rw [Int.mul_right_comm,Yas e f]) _
theorem Ysa(X:List Int)(G:Int):(Gc X G).length=max X.length 1:=by
 unfold Gc;split
 .rename_i h;rw [h];rfl
 .rw [bA];omega
theorem Ya4(h:AxC c ov){a b:Int}(H:0<=a)(w:0<b)(s:a+b<=d)(y:0<d)(n:0<G)(B:∀x∈Pe c a b d,G∣x)(M:o*G=ov*d^5):AxC (Gc (Pe c a b d) G) o/\(Gc (Pe c a b d) G).length=c.length:=by
 have P:=h.l;have f:(Gc (Pe c a b d) G).length=c.length/\(1<c.length->(Pe c a b d).length=c.length):=by
  rw [Ysa];by_cases D:c.getD (c.length-1) 0=0
  .have:=h.t;have I:=Zhp c a b d;have g:c.length=1:=by
    by_cases l:1<c.length
    .exact absurd ⟨l,D⟩ this
    .omega
   exact⟨O1,λl=>O1⟩
  .have:=Ysb h D (a:=a) w y;exact⟨O1,λ_=>this⟩
 refine⟨⟨O1,λ⟨g,t⟩=>?_,λj z=>?_⟩,f.1⟩
 .rw [f.1]at g t;have l:cf (Gc (Pe c a b d) G) (c.length-1)=0:=t;have u:=Yas n B (c.length-1);rw [l,cK]at u;have m:=f.2 g;have N:Tr (Pe c a b d):=Ql _ _;have v:=N.mem (λe=>by rw [e]at m;simp at m;omega);rw [m]at v;exact v u.symm
 .rw [f.1]at z ⊢;have g:=Yex h H (dY w) s y j z;rw [<-Yt4 n B,<-M,bT]at g;have F:((G.natAbs:Nat):Int)=G:=O1;push_cast at g;rw [F]at g;refine Int.le_of_mul_le_mul_right (a:=G) ?_ n;refine Int.le_trans g (Int.le_of_eq ?_);grind
theorem Zw5{G:Int}(e:0<G):∀(l:List Int) (o:Int),Mh (G*o) (l.map (G*·))=G*Mh o l
 | [],o=>rfl
 | x::l,o=>by show Mh ((Int.gcd _ _)) _=G*Mh _ l;rw [Int.gcd_mul_left];push_cast;rw [show((G.natAbs))=G by omega];exact Zw5 e l _
theorem Znm{X:List Int}(e:0<G)(f:∀x∈X,G∣x)(g:0<=o):Mh o ((Gc X G).map (G*·))=Mh o X:=by
 unfold Gc;split
 .rename_i h;rw [aC h];show((Int.gcd o (G*0)))=o;rw [eA,mR];omega
 .conv=>rhs;rw [<-mZ X]
  grind [List.map_congr_left,Int.mul_ediv_cancel']
theorem Ysl{X Y Z:List Int}{f:Int}(g:0<o)(e:0<Kw o X Y Z)(m:∀x∈X,Kw o X Y Z∣x)(n:∀x∈Y,Kw o X Y Z∣x)(s:∀x∈Z,Kw o X Y Z∣x)(h:Kw o X Y Z*f=o) :
  Mh f (Gc X (Kw o X Y Z) ++ Gc Y (Kw o X Y Z) ++ Gc Z (Kw o X Y Z))=1:=by
 have j:=Zw5 e (Gc X (Kw o X Y Z) ++ Gc Y (Kw o X Y Z) ++ Gc Z (Kw o X Y Z)) f;rw [h,dB,dB,Gi,Gi,Znm e m (dY g),Znm e n (Zhr _ _ (dY g)),Znm e s (Zhr _ _ (Zhr _ _ (dY g)))]at j;have t:Kw o X Y Z=Mh (Mh (Mh o X) Y) Z:=by show Mh o (X ++ Y ++ Z)=_;grind [Gi]
 generalize Mh f _=r at *;have l:Kw o X Y Z*r=Kw o X Y Z*1:=O1;exact iU O1 l
structure Prt (q g:Zk) (G:Int):Prop where
 g0:0<G
 a0:0<=q.1.1-g.1.1
 b0:0<q.1.2.1-q.1.1
 ab:(q.1.1-g.1.1)+(q.1.2.1-q.1.1)<=g.1.2.1-g.1.1
 o:q.1.2.2*G=g.1.2.2*(g.1.2.1-g.1.1)^5
 x:∀i (t u:Rat),t*((g.1.2.1-g.1.1:Int):Rat)=((q.1.1-g.1.1:Int):Rat)+((q.1.2.1-q.1.1:Int):Rat)*u->Zi (Zs i q.2.1.2 q.2.2.1.2 q.2.2.2.2) u*(G:Rat)=((g.1.2.1-g.1.1:Int):Rat)^5*Zi (Zs i g.2.1.2 g.2.2.1.2 g.2.2.2.2) t
theorem Zz0{X:List Int}(h:∀k,(X.getD k 0/G).natAbs<=9223372036854775807):∀a∈Gc X G,Nc a:=λa e=>by
 unfold Gc at e;split at e
 .rw [bN.1 e];exact⟨O1,O1⟩
 .obtain⟨x,g,rfl⟩:=dI.1 e;obtain⟨k,f⟩:=lN.1 g;have:=h k;rw [aL,f]at this;simp only [fD]at this;exact⟨O1,O1⟩
theorem Zrt{a b:Int}{t u:Rat}(f:AxC c ov)(e:0<G)(g:∀x∈Pe c a b d,G∣x)(h:t*(d:Rat)=(a:Rat)+(b:Rat)*u):Zi (Gc (Pe c a b d) G) u*(G:Rat)=(d:Rat)^5*Zi c t:=by grind [Yq3,Zg0]
theorem Ztk{fr e:Int}{g:Zk}(hi:Gin g)(hs:seB g=true)(hp:Kq fr e g=true)(hk:Zd0 fr e g=true)(hu:Gx q=Zf5 fr e g):Gin q/\seB q=true/\Prt q g (cG fr e g):=by
 have Q:SgG g:=Oj hi hs;obtain⟨a1,a2,a3⟩:=Zyz hs;obtain⟨D,F,I,M⟩:=Yn0 Q hp;have P:=Zzs hi hs hp;obtain⟨g1,⟨s,W⟩,N⟩:=P.g;have m:0<cG fr e g:=g1;have w:∀x∈cX fr e g g.2.1.2,cG fr e g∣x:=N 0 O1;have y:∀x∈cX fr e g g.2.2.1.2,cG fr e g∣x:=N 1 O1;have z:∀x∈cX fr e g g.2.2.2.2,cG fr e g∣x:=N 2 O1;have a4:cG fr e g*s=cO g:=W.symm;have v:cO g/cG fr e g=s:=by grind [Int.mul_ediv_cancel_left]
 have f:cO g/cG fr e g<=4294967296:=cC hk;have a0:0<cO g:=P.o;have a8:0<s:=by
  by_cases h:0<s
  .omega
  .have:=fU (dY m) (show s<=0 by omega);omega
 have n:s*cG fr e g=g.1.2.2*(g.1.2.1-g.1.1)^5:=O5;obtain⟨x1,x2⟩:=Ya4 a1 D F I M m w n;obtain⟨y1,y2⟩:=Ya4 a2 D F I M m y n;obtain⟨z1,z2⟩:=Ya4 a3 D F I M m z n;obtain⟨⟨qf,qt,qo⟩,⟨sx,qx⟩,⟨sy,qy⟩,⟨sz,qz⟩⟩:=q;unfold Gx Zf5 at hu;rw [mdO_t f,Zhl f,Zhl f,Zhl f,v]at hu;injection hu with h1 h2;injection h1 with hf h1;injection h1 with ht H;injection h2 with hx h2;injection h2 with hy hz;dsimp only at hf ht H hx hy hz;subst hf ht hx hy hz;have H:=H.symm;subst H;have j:=λi (hi:i<3) k=>P.fit (i:=i) f hi k;have a6:=cC hp;have a9:=Q.t1;have b0:=Q.t3;have R:∀a∈Gc (cX fr e g g.2.1.2) (cG fr e g),Nc a:=Zz0 (j 0 O1);have S:∀a∈Gc (cX fr e g g.2.2.1.2) (cG fr e g),Nc a:=Zz0 (j 1 O1);have V:∀a∈Gc (cX fr e g g.2.2.2.2) (cG fr e g),Nc a:=Zz0 (j 2 O1);have a7:s<=4294967296:=v▸f;have a5:0<=cA fr g/\cB e g<=3600000:=O1;have i1:Nc (cA fr g):=⟨O1,O1⟩;have i2:Nc (cB e g):=⟨O1,O1⟩;have i3:Nc s:=⟨O1,O1⟩;refine⟨⟨i1,i2,i3,R,S,V⟩,?_,⟨m,D,F,O1,n,λi t u B=>?_⟩⟩
 .show Bf (cA fr g) (cB e g) s _ _ _=true;unfold Bf Yfl;simp only [aN,cF];exact⟨⟨⟨⟨⟨⟨⟨⟨O1,O1⟩,O1⟩,O1⟩,O1⟩,x1.to⟩,y1.to⟩,z1.to⟩,Ysl a0 m w y z a4⟩
 .have l:t*((g.1.2.1-g.1.1:Int):Rat)=((cA fr g-g.1.1:Int):Rat)+((cB e g-cA fr g:Int):Rat)*u:=B;clear B;have k0:=Zrt a1 m w l;have k1:=Zrt a2 m y l;have k2:=Zrt a3 m z l;dsimp only;generalize Gc (cX fr e g g.2.1.2) (cG fr e g)=X at *;generalize Gc (cX fr e g g.2.2.1.2) (cG fr e g)=Y at *;generalize Gc (cX fr e g g.2.2.2.2) (cG fr e g)=Z at *;generalize ((cG fr e g:Int):Rat)=GG at *;generalize ((g.1.2.1-g.1.1:Int):Rat)^5=DD at *
  match i with
  | 0=>exact k0
  | 1=>exact k1
  | i+2=>exact k2
theorem cg_brS{n:Nat}(t:n<6)(w:c.length<=n+1){M:Int}(h:∀j,j<n+1->((Ho n c j).natAbs:Int)<=M*(Ou n j:Int))(k:Nat):((cf c k).natAbs:Int)<=80*M:=by
 have u:0<=M:=by have e:=h 0 O6;grind [Zn5]
 by_cases v:k<n+1
 .rw [Qj]
  match n,t with
  | 0,_=>
   have e:=Qj.1 (h 0 O1);rw [bre00,show(Ou 0 0:Int)=1 from rfl]at e;grind
  | 1,_=>
   have e:=Qj.1 (h 0 O1);rw [bre10,show(Ou 1 0:Int)=1 from rfl]at e;have f:=Qj.1 (h 1 O1);rw [bre11,show(Ou 1 1:Int)=1 from rfl]at f;grind
  | 2,_=>
   have e:=Qj.1 (h 0 O1);rw [bre20,show(Ou 2 0:Int)=1 from rfl]at e;have f:=Qj.1 (h 1 O1);rw [bre21,show(Ou 2 1:Int)=2 from rfl]at f;have g:=Qj.1 (h 2 O1);rw [bre22,show(Ou 2 2:Int)=1 from rfl]at g;grind
  | 3,_=>
   have e:=Qj.1 (h 0 O1);rw [bre30,show(Ou 3 0:Int)=1 from rfl]at e;have f:=Qj.1 (h 1 O1);rw [bre31,show(Ou 3 1:Int)=3 from rfl]at f;have g:=Qj.1 (h 2 O1);rw [bre32,show(Ou 3 2:Int)=3 from rfl]at g;have l:=Qj.1 (h 3 O1);rw [bre33,show(Ou 3 3:Int)=1 from rfl]at l;grind
  | 4,_=>
   have e:=Qj.1 (h 0 O1);rw [bre40,show(Ou 4 0:Int)=1 from rfl]at e;have f:=Qj.1 (h 1 O1);rw [bre41,show(Ou 4 1:Int)=4 from rfl]at f;have g:=Qj.1 (h 2 O1);rw [bre42,show(Ou 4 2:Int)=6 from rfl]at g;have l:=Qj.1 (h 3 O1);rw [bre43,show(Ou 4 3:Int)=4 from rfl]at l;have m:=Qj.1 (h 4 O1);rw [bre44,show(Ou 4 4:Int)=1 from rfl]at m;grind
  | 5,_=>
   have e:=Qj.1 (h 0 O1);rw [bre50,show(Ou 5 0:Int)=1 from rfl]at e;have f:=Qj.1 (h 1 O1);rw [bre51,show(Ou 5 1:Int)=5 from rfl]at f;have g:=Qj.1 (h 2 O1);rw [bre52,show(Ou 5 2:Int)=10 from rfl]at g;have l:=Qj.1 (h 3 O1);rw [bre53,show(Ou 5 3:Int)=10 from rfl]at l;have m:=Qj.1 (h 4 O1);rw [bre54,show(Ou 5 4:Int)=5 from rfl]at m;have s:=Qj.1 (h 5 O1);rw [bre55,show(Ou 5 5:Int)=1 from rfl]at s;grind
 grind [Yr]
theorem AxC.cg(h:AxC c ov)(k:Nat):((cf c k).natAbs:Int)<=83886080*ov:=by have f:=h.l;have:=cg_brS O1 O1 (λj e=>h.b j O1) k;omega
theorem Ycr(c:List Int)(a:Int):∀k,plS c a 1 k=Yl (λk=>cf c k*a^k) k
 | 0=>rfl
 | k+1=>by show plS c a 1 k+plT c a 1 k=_;rw [Yp,Ycr c a k];congr 1;show c.getD k 0*(a^k*1^_)=cf c k*a^k;rw [Int.one_pow,fH];rfl
theorem Zpr(f:Nat->Int):∀n,((Yl f n:Int):Rat)=Hy (λi=>(f i:Rat)) n
 | 0=>rfl
 | n+1=>by rw [Yp,Mc,<-Zpr f n];push_cast;rfl
theorem Yk2(c:List Int)(a:Int):((pl c a 1:Int):Rat)=Zi c (a:Rat):=by
 unfold pl;rw [Ycr,Zpr]
 conv=>rhs;rw [<-Zcq c]
 rw [Zgz];exact Lt _ λi hi=>by rw [<-Zcw];push_cast;rfl
theorem Prt.pl{g:Zk}(h:Prt q g G){a e:Int}(l:a*(g.1.2.1-g.1.1)=(q.1.1-g.1.1)+(q.1.2.1-q.1.1)*e)(i:Nat) :
  Sky.pl (Zs i q.2.1.2 q.2.2.1.2 q.2.2.2.2) e 1*G=Sky.pl (Zs i g.2.1.2 g.2.2.1.2 g.2.2.2.2) a 1*(g.1.2.1-g.1.1)^5:=by
 have f:=h.x i (a:Rat) (e:Rat) (by exact_mod_cast l);rw [<-Yk2,<-Yk2,<-Zcw]at f;have j:((Sky.pl (Zs i q.2.1.2 q.2.2.1.2 q.2.2.2.2) e 1*G:Int):Rat)=((Sky.pl (Zs i g.2.1.2 g.2.2.1.2 g.2.2.2.2) a 1*(g.1.2.1-g.1.1)^5:Int):Rat):=by rw [Rat.intCast_mul,Rat.intCast_mul,f,kA]
 exact_mod_cast j
structure Chn (ps:List Zk):Prop where
 lt:∀g∈ps,g.1.1<g.1.2.1
 eq:∀(i:Nat) (g h:Zk),ps[i]? = some g->ps[i+1]? = some h->g.1.2.1=h.1.1
def Chn.tail{g:Zk}(h:Chn (g::r)):Chn r:=⟨λx e=>h.lt x (bH _ e),λi x y e f=>h.eq (i+1) x y e f⟩
theorem Chn.ge:∀{r:List Zk} {g:Zk},Chn (g::r)->∀x∈r,g.1.2.1<=x.1.1
 | [],_,_,_,e=>nomatch e
 | h::r,g,hc,x,e=>by
  have f:=hc.eq 0 g h rfl rfl;rcases aX.1 e with rfl|e
  .omega
  .have:=Chn.ge hc.tail x e;have:=hc.lt h O6;omega
theorem Zsw{fr n:Int} : ∀{ps:List Zk},Chn ps->∀(j:Nat) (f l:Zk),(ps.filter (Kq fr n))[j]? = some f->(ps.filter (Kq fr n))[j+1]? = some l->∃i:Nat,ps[i]? = some f/\ps[i+1]? = some l
 | [],_,j,f,l,h,_=>by simp at h
 | g::r,hc,j,f,l,h1,e=>by
  cases hp:Kq fr n g with
  | false=>
   rw [fL (by rw [hp];exact eU)]at h1 e;obtain⟨i,a,b⟩:=Zsw hc.tail j f l h1 e;exact⟨i+1,a,b⟩
  | true=>
   rw [dV hp]at h1 e
   match j with
   | j+1=>
    obtain⟨i,a,b⟩:=Zsw hc.tail j f l h1 e;exact⟨i+1,a,b⟩
   | 0=>
    obtain rfl:g=f:=by simpa using h1
    have e:(r.filter (Kq fr n))[0]? = some l:=e;have v:l∈r.filter (Kq fr n):=eV e;obtain⟨m,s⟩:=fA.1 v
    match r,hc,e,m with
    | h::r,hc,e,m=>
     have y:=hc.eq 0 g h rfl rfl;have z:=hc.lt h O6;have w:=cC hp;have t:=cC s;have u:Kq fr n h=true:=by
      refine aG ?_;unfold cA cB at *;rcases aX.1 m with rfl|q
      .exact t
      .have:=Chn.ge hc.tail l q;omega
     rw [dV u]at e;obtain rfl:h=l:=by simpa using e
     exact⟨0,rfl,rfl⟩
theorem getD_some{α:Type}{l:List α}{x d:α}(h:l[i]? = some x):l.getD i d=x:=by rw [aL,h];rfl
theorem Zbu{ps:List Zk}(hi:∀g∈ps,Gin g)(u:Yf ps=true):Chn ps/\(∀g∈ps,seB g=true)/\∀(i:Nat) (g h:Zk),ps[i]? = some g->ps[i+1]? = some h->meG g h=true:=by
 obtain⟨t,v,w⟩:=Qd u;have m:∀g∈ps,seB g=true:=λg f=>by obtain⟨i,j,e⟩:=cQ.1 f;have:=Nx (t i j);rw [aL,aO j,fD,e]at this;exact this
 have l:∀(i:Nat) (g h:Zk),ps[i]? = some g->ps[i+1]? = some h->meG g h=true:=λi g h f n=>by have s:=(fC.1 n).1;have:=t (i+1) s;rw [Zdn (Nx this) O1,kD,getD_some f,getD_some n]at this;exact this
 refine⟨⟨λg f=>(Oj (hi g f) (m g f)).t2,λi g h f n=>?_⟩,m,l⟩;have:=l i g h f n;unfold meG Zj7 at this;rw [aN,fW]at this;exact this.1
structure Pat (fr to:Int) (ps qs:List Zk):Prop where
 gin:∀q∈qs,Gin q
 pb:Yf qs=true
 len:qs.length=(ps.filter (Kq fr to)).length
 prt:∀(j:Nat) (q:Zk),qs[j]? = some q->∃f:Zk,(ps.filter (Kq fr to))[j]? = some f/\f∈ps/\Prt q f (cG fr to f)
 nxt:∀(j:Nat) (q r:Zk),qs[j]? = some q->qs[j+1]? = some r->∃(i:Nat) (f h:Zk),ps[i]? = some f/\ps[i+1]? = some h/\Prt q f (cG fr to f)/\Prt r h (cG fr to h)/\q.1.2.1=f.1.2.1/\r.1.1=h.1.1
theorem Ynz{fr j:Int} : ∀{ps:List Zk},Chn ps->ps≠[]->spF ps<=fr->fr<j->j<=spL ps->ps.filter (Kq fr j)≠[]
 | [],_,h,_,_,_=>absurd rfl h
 | g::r,hc,_,n,h2,f=>by
  have t:=hc.lt g O6;have n:g.1.1<=fr:=n;by_cases l:Kq fr j g=true
  .rw [dV l];exact List.cons_ne_nil _ _
  .have m:¬cA fr g<cB j g:=λh=>l (aG h);have e:g.1.2.1<=fr:=by unfold cA cB at m;omega
   rw [fL l]
   match r,hc,f with
   | [],_,f=>
    have f:j<=g.1.2.1:=f;omega
   | h::r,hc,f=>
    have s:=hc.eq 0 g h rfl rfl;refine Ynz hc.tail (List.cons_ne_nil _ _) (by show h.1.1<=fr;omega) h2 ?_;have:spL (g::h::r)=spL (h::r):=by unfold spL;simp
    rw [<-this];exact f
theorem bl_dl{a b:Int}{n:Nat}(h:bl a.natAbs<=n):bl (a/b).natAbs<=n:=by rw [Qs]at h ⊢;exact aV (fB a b) h
def jqP(fr h ov:Int)(x y z:List Int)(e g f:Int)(j l m:List Int)(i:Nat):Prop:=qr (bgS (Zs i j l m)) (Zap [f,g-e])=qr (enS (Zs i x y z)) (Zap [ov,h-fr])
def refS(o:Nat)(x y z:List Int):Nat->List Int
 | 0=>[]
 | i+1=>Gb (refS o x y z i) (Qx (dN o (tzl (Zs i x y z))) (dN o (tzl (Zs i x y z))))
def refC(o:Nat)(m ov T:Int):Int:=m^2*ov^2*T^(2*o)
def refF(o:Nat)(m ov T:Int)(x y z:List Int):List Int:=Ek (tzl [refC o m ov T]) (Zt (refS o x y z 3) (1000^(2*o)))
theorem ps_Cm(a b:Int):PS.C (a*b)=PS.C a*PS.C b:=PS.ext' λi=>by rw [PS.C_mul_c];cases i<;>simp [PS.C]
theorem Yf0(p:List Int)(k:Int):Qx (Zt p k) (Zt p k)=Zt (Qx p p) (k*k):=(Qo _ _).ps_inj (Ql _ _) (by rw [Zk9,Zi3,Zi3,Zk9,ps_Cm];grind)
theorem sz_one{c:Int}{n:Nat}(h:bl c.natAbs<=n):Sz n [c]:=Sz.of_mem λt e=>by rw [bN.1 e];exact h
def frB(ps:List Zk)(f e:Int)(i:Nat):Int:=
 if 0<i/\joG (ps.getD (i-1) G0) (ps.getD i G0)=false then 1 else if It (Ymu 1 f (ps.getD i G0))=true then 2 else if It (Ymu 2 e (ps.getD i G0))=true then 3 else 0
def fiB(ps:List Zk)(f e:Int):Option (Nat×Int):=((List.range ps.length).find? λi=>decide (frB ps f e i≠0)).map λi=>(i,frB ps f e i)
theorem tf(b:Bool):b=false\/b=true:=by cases b<;>simp
def fiI(o:Option (Nat×Int)):Int:=match o with
 | none=>0
 | some g=>g.1
def fiC(o:Option (Nat×Int)):Int:=match o with
 | none=>0
 | some g=>g.2
abbrev firV (o:Option (Nat×Int)):Value:= .tuple #[.agg #[.int .i64 (fiI o),.int .i64 (fiC o)],.bool o.isSome,.int .i64 0]
theorem Zmp(p q:List Int)(x:Rat):Zi (Gb p q) x=Zi p x+Zi q x:=by rw [<-Xt];exact Nb x _ _ λi=>by rw [Dh,Lb]
theorem Yjw(p q:List Int)(x:Rat):Zi (Ek p q) x=Zi p x-Zi q x:=by
 have:Zi (Ek p q) x=Zi (Mw p (q.map λa=>-1*a)) x:=Nb x _ _ λi=>by rw [Im,Lb,Pk];omega
 grind [Xt,Zu]
theorem Yjy(p:List Int)(x:Rat):Zi p x=(Yv p:Rat)*Zi (Yb p) x:=by rw [<-Zu];grind [Nb,Pk,Int.mul_comm,Gr]
theorem Zxx(h:Tr p)(e:p≠[]):(0:Rat)<(Yv p:Rat):=by have f:=Cz h e;have g:=Nw p;exact_mod_cast (show 0<Yv p by omega)
theorem Zm3(h:Tr p)(x:Rat):Zi (Yb p) x<0↔Zi p x<0:=by
 by_cases e:p=[]
 .subst e;rfl
 .have f:=Zxx h e;rw [Yjy p];constructor
  .intro h;have:=Rat.mul_lt_mul_of_pos_left h f;grind
  grind [Rat.mul_nonneg,Rat.le_of_lt,Rat.not_lt,Rat.not_le]
def spd(o:Nat)(x y z:List Int)(u:Rat):Rat:=Zi (refS o x y z 3) u
def lstB(o:Nat)(ps:List Zk):Nat:=Yp9 (λn=>Ymb o ps (n:Int)) 14 0 10000
def lsV(o:Nat)(ps:List Zk):Nat:=if Ymb o ps 10000 then lstB o ps else 0
theorem Zo8(a b:Bool):a=false\/(a=true/\b=false)\/(a=true/\b=true):=by cases a<;>cases b<;>simp
def dR(o:Nat)(c:List Int)(u:Rat):Rat:=Zi (dN o (tzl c)) u
theorem Prt.num{g:Zk}(h:Prt q g G):∃v s:Rat,0<=v/\0<s/\v+s<=1/\s*((g.1.2.1-g.1.1:Int):Rat)=((q.1.2.1-q.1.1:Int):Rat)/\v*((g.1.2.1-g.1.1:Int):Rat)=((q.1.1-g.1.1:Int):Rat)/\(0:Rat)<((g.1.2.1-g.1.1:Int):Rat)/\
  ∀i (u:Rat),Zi (Zs i q.2.1.2 q.2.2.1.2 q.2.2.2.2) u*(G:Rat)=((g.1.2.1-g.1.1:Int):Rat)^5*Zi (Zs i g.2.1.2 g.2.2.1.2 g.2.2.2.2) (v+s*u):=by
 have m:=h.a0;have n:=h.b0;have t:=h.ab;have B:=h.x;generalize g.1.2.1-g.1.1=d at *;generalize q.1.2.1-q.1.1=b at *;generalize q.1.1-g.1.1=a at *;have j:(0:Rat)<(d:Rat):=by exact_mod_cast (show 0<d by omega)
 have w:(0:Rat)<=(a:Rat):=by exact_mod_cast m
 have z:(0:Rat)<(b:Rat):=by exact_mod_cast n
 have y:(a:Rat)+(b:Rat)<=(d:Rat):=by exact_mod_cast t
 have hi:0<(d:Rat)⁻¹:=fR.2 j;have e:(a:Rat)/d*d=a:=eG O5;have f:(b:Rat)/d*d=b:=eG O5;refine⟨(a:Rat)/d,(b:Rat)/d,?_,?_,?_,f,e,j,λi u=>B i _ u (by
  have l:(b:Rat)/d*u*d=((b:Rat)/d*d)*u:=by rw [kT,kA u,<-kT]
  rw [Rat.add_mul,e,l,f])⟩
 .rw [gK];exact aE w (cS hi)
 .rw [gK];exact aT z hi
 .have:((a:Rat)/d+b/d)*d<=1*d:=by rw [Rat.add_mul,e,f];grind
  exact Rat.le_of_mul_le_mul_right this j
def Yam{fr e:Int}{ps:List Zk}(h:Pu fr e ps=true):Zxv fr e ps=0:=aM h
def Yal{fr e:Int}{ps:List Zk}(h:Pu fr e ps=false):Zxv fr e ps=7:=aK O5
def lh_M{fr f:Int}{ps:List Zk}(hi:∀g∈ps,Gin g)(h:Yf ps=true):∀g∈ps,Kq fr f g=true->MdG fr f g:=λg e j=>Zzs (hi g e) ((Zbu hi h).2.1 g e) j
def inn(fr e:Int)(ps:List Zk):List Int:=(ps.filter λg=>decide (fr<g.1.1) && decide (g.1.1<e)).map λg=>g.1.1
theorem inn_t{fr e:Int}{ps:List Zk}(h:k<ps.length)(f:fr<(ps.getD k G0).1.1)(g:(ps.getD k G0).1.1<e):inn fr e (ps.take (k+1))=inn fr e (ps.take k) ++ [(ps.getD k G0).1.1]:=by unfold inn;rw [Zio (x:=ps.getD k G0) O5];grind
theorem inn_f{fr e:Int}{ps:List Zk}(f:k<ps.length)(h:¬(fr<(ps.getD k G0).1.1/\(ps.getD k G0).1.1<e)):inn fr e (ps.take (k+1))=inn fr e (ps.take k):=by unfold inn;rw [Zio (x:=ps.getD k G0) O5];grind
theorem Zsm(fr e:Int)(ps:List Zk):(inn fr e ps).length<=ps.length:=by unfold inn;grind
theorem Yc6{fr e:Int}{ps:List Zk} : x∈inn fr e ps↔∃g∈ps,g.1.1=x/\fr<x/\x<e:=by
 unfold inn;constructor
 .grind
 .rintro⟨g,j,rfl,f,h⟩;grind
def cmF(a b:List Zk):Int:=max (spF a) (spF b)
def Dn(a b:List Zk):Int:=min (spL a) (spL b)
def Zgk(a b:List Zk)(i:Nat):List Int:=cmF a b::Dn a b::((if 1<=i then inn (cmF a b) (Dn a b) a else []) ++ (if 2<=i then inn (cmF a b) (Dn a b) b else []))
def Na(a b:List Zk):List Int:=Zuz (Zgk a b 2)
def Ct{α:Type _}(i:Nat)(a b:α):α:=if i=0 then a else b
theorem tms_s(h:i<2):Zgk a b (i+1)=Zgk a b i ++ inn (cmF a b) (Dn a b) (Ct i a b):=by
 match i,h with
 | 0,_=>simp [Zgk,Ct]
 | 1,_=>simp [Zgk,Ct]
theorem Zas : x∈Na a b↔x=cmF a b\/x=Dn a b\/(cmF a b<x/\x<Dn a b/\((∃g∈a,g.1.1=x)\/∃g∈b,g.1.1=x)):=by
 unfold Na;rw [Zna];show x∈cmF a b::Dn a b::(inn _ _ a ++ inn _ _ b)↔_;rw [aX,aX,cW,Yc6,Yc6];constructor
 .rintro(h|h|⟨g,e,f,j,l⟩|⟨g,e,f,j,l⟩)
  .exact .inl h
  .exact .inr (.inl h)
  .exact .inr (.inr ⟨j,l,.inl ⟨g,e,f⟩⟩)
  .exact .inr (.inr ⟨j,l,.inr ⟨g,e,f⟩⟩)
 .rintro(h|h|⟨j,l,⟨g,e,f⟩|⟨g,e,f⟩⟩)
  .exact .inl h
  .exact .inr (.inl h)
  .exact .inr (.inr (.inl ⟨g,e,f,j,l⟩))
  .exact .inr (.inr (.inr ⟨g,e,f,j,l⟩))
def Yew(a b:List Zk):Sst (Na a b) (Na a b).length:=Ybl (Znj _)
theorem Zwv(x:Int):∀l:List Int,(Zni x l).length<=l.length+1
 | []=>aF _
 | y::l=>by have:=Zwv x l;unfold Zni;grind
theorem Zws:∀l:List Int,(Zuz l).length<=l.length
 | []=>aF _
 | x::l=>by have:=Zws l;have:=Zwv x (Zuz l);show(Zni x (Zuz l)).length<=_;simp only [eI];omega
theorem Zsl(a b:List Zk)(i:Nat):(Zgk a b i).length<=2+a.length+b.length:=by have e:=Zsm (cmF a b) (Dn a b) a;have f:=Zsm (cmF a b) (Dn a b) b;unfold Zgk;split<;>split<;>simp<;>omega
theorem Zsn(a b:List Zk):(Na a b).length<=2+a.length+b.length:=aB (Zws _) (Zsl a b 2)
structure Bks (a b:List Zk):Prop where
 two:2<=(Na a b).length
 hd:(Na a b).getD 0 0=cmF a b
 ls:(Na a b).getD ((Na a b).length-1) 0=Dn a b
 lt:∀k,k+1<(Na a b).length->cmF a b<=(Na a b).getD k 0/\(Na a b).getD k 0<(Na a b).getD (k+1) 0/\(Na a b).getD (k+1) 0<=Dn a b
 no:∀k,k+1<(Na a b).length->∀g,g∈a\/g∈b->¬((Na a b).getD k 0<g.1.1/\g.1.1<(Na a b).getD (k+1) 0)
theorem bks (a:List Zk)(b:List Zk)(h:cmF a b<Dn a b):Bks a b:=by
 have hs:=Yew a b;have t:cmF a b∈Na a b:=Zas.2 (.inl rfl);have u:Dn a b∈Na a b:=Zas.2 (.inr (.inl rfl));have l:∀x∈Na a b,cmF a b<=x/\x<=Dn a b:=λx z=>by rcases Zas.1 z with f|f|⟨f,s,_⟩<;>omega
 obtain⟨i,hi,D⟩:=Db.1 t;obtain⟨j,N,F⟩:=Db.1 u;have n:2<=(Na a b).length:=by grind
 have v:(Na a b).getD 0 0=cmF a b:=by
  by_cases e:i=0
  .grind
  .have f:=hs 0 i O1 hi;grind [Zd]
 have B:(Na a b).getD ((Na a b).length-1) 0=Dn a b:=by
  by_cases e:j=(Na a b).length-1
  .grind
  .have f:=hs j ((Na a b).length-1) O1 O1;grind [Zd]
 refine⟨n,v,B,λk m=>⟨(l _ (Zd O1)).1,hs k (k+1) O6 m,(l _ (Zd m)).2⟩,λk m g M I=>?_⟩;have f:=(l _ (Zd (i:=k) (d:=0) O1)).1;have s:=(l _ (Zd (i:=k+1) (d:=0) m)).2;have w:g.1.1∈Na a b:=Zas.2 (.inr (.inr ⟨O1,O1,by grind⟩))
 obtain⟨q,y,H⟩:=Db.1 w;rcases fM q k with c|c|c
 .have:=hs q k c O1;omega
 .grind
 .rcases fM q (k+1)with d|d|d
  .omega
  .grind
  .have:=hs (k+1) q d y;omega
theorem Yeb{fr e:Int}{g:Zk}(h:Kq fr e g=true):fr<g.1.2.1/\g.1.1<e:=by unfold Kq cA cB at h;grind
theorem Ztl{fr e:Int}{ps:List Zk}(h:Chn ps)(j:ps≠[])(s:spF ps<=fr)(t:fr<e)(u:e<=spL ps)(w:∀g∈ps,¬(fr<g.1.1/\g.1.1<e)):(ps.filter (Kq fr e)).length=1:=by
 have v:=Ynz h j s t u;have l:=aH.2 v;rcases aW 1 (ps.filter _).length with f|f
 .have m:=aO l;have n:=aO f;obtain⟨i,f1,f2⟩:=Zsw h 0 _ _ m n;have y:=(fA.1 (iS l)).2;have z:=(fA.1 (iS f)).2;have F:=h.eq i _ _ f1 f2;have B:=Yeb y;have D:=Yeb z;grind
 omega
def Zd1(ts:List Int)(ps:List Zk):Nat->List Zkt
 | 0=>[]
 | n+1=>Zd1 ts ps n ++ Zbf (ts.getD n 0) (ts.getD (n+1) 0) ps
def Ei(ts:List Int)(a b:List Zk):Nat->Bool
 | 0=>true
 | n+1=>Ei ts a b n && (Pu (ts.getD n 0) (ts.getD (n+1) 0) a && Pu (ts.getD n 0) (ts.getD (n+1) 0) b)
def Yhf(a b:List Zk):Bool:=Ei (Na a b) a b ((Na a b).length-1)
def El(a b:List Zk):Int:=if cmF a b>=Dn a b then 9 else if Yhf a b then 0 else 7
def Lx(a b ps:List Zk):List Zkt:=if El a b=0 then Zd1 (Na a b) ps ((Na a b).length-1)else []
theorem Zx0{ts:List Int}{a b:List Zk} : ∀{n m:Nat},n<=m->Ei ts a b m=true->Ei ts a b n=true
 | n,0,h,f=>O5
 | n,m+1,h,f=>by
  rcases aW m n with e|e
  .grind
  .refine Zx0 e ?_;have:Ei ts a b (m+1)=(Ei ts a b m && (Pu _ _ a && Pu _ _ b)):=rfl;grind
def tik(a b:List Zk)(i k:Nat):List Int:=Zgk a b i ++ inn (cmF a b) (Dn a b) ((Ct i a b).take k)
theorem tik_0(a b:List Zk)(i:Nat):tik a b i 0=Zgk a b i:=by exact jA _
theorem tik_t(g:k<(Ct i a b).length)(e:cmF a b<((Ct i a b).getD k G0).1.1)(f:((Ct i a b).getD k G0).1.1<Dn a b):tik a b i (k+1)=tik a b i k ++ [((Ct i a b).getD k G0).1.1]:=by unfold tik;grind [inn_t,List.append_assoc]
theorem tik_f(e:k<(Ct i a b).length)(h:¬(cmF a b<((Ct i a b).getD k G0).1.1/\((Ct i a b).getD k G0).1.1<Dn a b)):tik a b i (k+1)=tik a b i k:=by unfold tik;grind [inn_f]
theorem tik_e(hi:i<2):tik a b i (Ct i a b).length=Zgk a b (i+1):=by unfold tik;rw [bL,tms_s hi]
theorem Zwt(a b:List Zk)(i:Nat):(Ct i a b).length<=a.length+b.length:=by unfold Ct;split<;>omega
theorem Yr8(a b:List Zk)(i k:Nat):(tik a b i k).length<=2+2*(a.length+b.length):=by have e:=Zsl a b i;have f:=Zsm (cmF a b) (Dn a b) ((Ct i a b).take k);have g:=Zwt a b i;unfold tik;grind
def tms_ne(a b:List Zk)(i:Nat):Zgk a b i≠[]:=λh=>nomatch h
theorem tms_2(a b:List Zk)(i:Nat):2<=(Zgk a b i).length:=by unfold Zgk;simp
section
variable {P:Program} {N:Nat} {sc:Nat->Prop} {env:Pw} {H:Hp}
theorem Yqu{l m sd:SL}(i j k n:Nat)(s:lk H j=some (Xn 6 Xv qG (Xk l) a))(t:lk H k=some (Xn 6 Xv qG (Xk m) b))(e:Nat.beq j 0=false)(f:Nat.beq k 0=false)(hi:i<2) :
  ∀g w,Sat N sc env H g w->Sat N sc env ((n,Xn 6 Xv qG (Xk ([l,m].getD i sd)) (Ct i a b))::H) g w:=by
 match i,hi with
 | 0,_=>exact Zcz j n s e rfl (λ_ h=>h) (λ_ h=>h) rfl
 | 1,_=>exact Zcz k n t f rfl (λ_ h=>h) (λ_ h=>h) rfl
end
theorem Zn2(h:cmF a b>=Dn a b)(ps:List Zk):El a b=9/\Lx a b ps=[]:=by have e:El a b=9:=aM h;exact⟨e,by unfold Lx;grind⟩
theorem Zc3(h:¬cmF a b>=Dn a b){n:Nat}(l:n+1<(Na a b).length)(j:(Pu ((Na a b).getD n 0) ((Na a b).getD (n+1) 0) a && Pu ((Na a b).getD n 0) ((Na a b).getD (n+1) 0) b)=false)(ps:List Zk):El a b=7/\Lx a b ps=[]:=by
 have k:Yhf a b=false:=by
  cases hk:Yhf a b with
  | false=>rfl
  | true=>
   have f:=Zx0 (n:=n+1) O1 hk;have g:Ei _ a b (n+1)=(Ei (Na a b) a b n && (Pu _ _ a && Pu _ _ b)):=rfl;grind
 have e:El a b=7:=by unfold El;grind
 exact⟨e,by unfold Lx;grind⟩
theorem Zqg(h:¬cmF a b>=Dn a b){n:Nat}(g:n+1=(Na a b).length)(f:Ei (Na a b) a b n=true):El a b=0/\∀ps,Lx a b ps=Zd1 (Na a b) ps n:=by
 have k:Yhf a b=true:=by unfold Yhf;grind
 have e:El a b=0:=by unfold El;grind
 exact⟨e,λps=>by unfold Lx;grind⟩
theorem com_k{n:Nat}(h:Ei (Na a b) a b n=true)(e:Pu ((Na a b).getD n 0) ((Na a b).getD (n+1) 0) a=true)(f:Pu ((Na a b).getD n 0) ((Na a b).getD (n+1) 0) b=true):Ei (Na a b) a b (n+1)=true:=by show(Ei _ a b n && (_ && _))=true;grind
theorem Yef{ps zs:List Zk}{n:Nat}(h:zs.map Gx=Zd1 ts ps n)(e:us.map Gx=Zbf (ts.getD n 0) (ts.getD (n+1) 0) ps):(zs ++ us).map Gx=Zd1 ts ps (n+1):=by rw [dB,h,e];rfl
theorem com_u{ps:List Zk}{fr f:Int}(hi:∀g∈ps,Gin g)(l:Yf ps=true)(m:spF ps<=fr)(n:fr<f)(s:f<=spL ps)(h:∀g∈ps,¬(fr<g.1.1/\g.1.1<f))(v:Pu fr f ps=true)(t:us.map Gx=Zbf fr f ps):us.length=1:=by have w:=(Qd l).2.1;have u:=Ztl (Zbu hi l).1 (λe=>O5) m n s h;have j:=aD List.length t;rw [bA]at j;rw [j];unfold Zbf;grind
theorem Yn9{n:Nat}(hi:∀g∈a,Gin g)(l:Yf a=true)(B:Bks a b)(e:n+1<(Na a b).length)(m:Pu ((Na a b).getD n 0) ((Na a b).getD (n+1) 0) a=true)(t:us.map Gx=Zbf ((Na a b).getD n 0) ((Na a b).getD (n+1) 0) a):us.length=1:=by obtain⟨f,h,j⟩:=B.lt n e;unfold cmF at f;unfold Dn at j;exact com_u hi l O1 h O1 (λg s=>B.no n e g (.inl s)) m t
theorem Yn8{n:Nat}(hi:∀g∈b,Gin g)(l:Yf b=true)(B:Bks a b)(e:n+1<(Na a b).length)(m:Pu ((Na a b).getD n 0) ((Na a b).getD (n+1) 0) b=true)(t:us.map Gx=Zbf ((Na a b).getD n 0) ((Na a b).getD (n+1) 0) b):us.length=1:=by obtain⟨f,h,j⟩:=B.lt n e;unfold cmF at f;unfold Dn at j;exact com_u hi l O1 h O1 (λg s=>B.no n e g (.inr s)) m t
theorem cm_two{a b:Bool}(h:¬(a=true/\b=true)):a=false\/(a=true/\b=false):=by cases a<;>cases b<;>simp_all
def Zjm{a b:Bool}(h:a=false):(a && b)=false:=O5
def Zjl{a b:Bool}(h:b=false):(a && b)=false:=O5
end Go.Sky
namespace Go.Sky
variable{c p q ns:List Int}{x M:Nat}{f:Nat->List Int}
section
variable {P:Program} {N:Nat} {sc:Nat->Prop} {env:Pw} {H:Hp}
end
def KA:Nat:=360287970189639680
theorem AxC.ka{a:Int}(h:AxC c a)(b:1<=a)(d:a<=4294967296):Ab KA (tzl c):=λk=>by have:=h.cg k;rw [Ly];unfold KA;omega
def BG:Nat:=2^250*2^250
def bl_two{a b:Nat}(h:x<2^a*2^b):bl x<=a+b:=(Qs _ x).2 O5
theorem Ye2(h:x<BG):bl x<=500:=bl_two h
def Ab.sg(h:Ab M p)(a:M<BG):Sz 500 p:=λi=>Ye2 (aV (h i) a)
theorem Cp(h:Ab M p)(a:M<BG)(d:Tr p)(b:p.length<=25):Vp p:=⟨(h.sg a).mono O1,d,b⟩
theorem Zvc{c:Int}(h:Ab M p)(b:M*c.natAbs<BG)(i:Nat):bl (cf p i*c).natAbs<=65536:=by have a:=Zaf h c i;grind [Yo,Nat.le_trans,Ye2,Nat.lt_of_le_of_lt]
theorem ad_ab{K:Nat}(h:Ab M p)(d:Ab K q)(e:M+K<BG)(i:Nat):bl (cf p i+cf q i).natAbs<=65536/\bl (cf p i-cf q i).natAbs<=65536:=by have a:=h i;have b:=d i;grind [Nat.le_trans,Ye2,Nat.lt_of_le_of_lt]
theorem mf_ab(h:Ab M p)(b:M<BG)(d:p.length<=11):¬Zar p p:=λa=>by have m:=Qy (h.sg b);rcases a.2.2 with w|w<;>omega
def dfP(p q:List Int)(a b:Int):List Int:=Ek (Zt (tzl p) b) (Zt (tzl q) a)
def dfK(p q:List Int)(a b k:Int):List Int:=Zt (dfP p q a b) k
def sqK(p q:List Int)(a b k:Int):List Int:=Qx (dfK p q a b k) (dfK p q a b k)
def sqP(p q:List Int)(a b:Int):List Int:=Qx (dfP p q a b) (dfP p q a b)
def KD:Nat:=KA*4294967296+KA*4294967296
structure FmX (p q:List Int) (a b k:Int):Prop where
 v1:Vp (tzl p)
 v2:Vp (tzl q)
 b1:bl b.natAbs<=65536
 a1:bl a.natAbs<=65536
 k1:bl k.natAbs<=65536
 s1:∀i,bl (cf (tzl p) i*b).natAbs<=65536
 s2:∀i,bl (cf (tzl q) i*a).natAbs<=65536
 v3:Vp (Zt (tzl p) b)
 v4:Vp (Zt (tzl q) a)
 s3:∀i,bl (cf (Zt (tzl p) b) i-cf (Zt (tzl q) a) i).natAbs<=65536
 v5:Vp (dfP p q a b)
 s4:∀i,bl (cf (dfP p q a b) i*k).natAbs<=65536
 v6:Vp (dfK p q a b k)
 m6:¬Zar (dfK p q a b k) (dfK p q a b k)
 v7:Vp (sqK p q a b k)
 ab:Ab (6*((KD*100)*(KD*100))) (sqK p q a b k)
 l:(sqK p q a b k).length<=11
 m5:¬Zar (dfP p q a b) (dfP p q a b)
 v8:Vp (sqP p q a b)
 ab8:Ab (6*((KD*100)*(KD*100))) (sqP p q a b)
 l8:(sqP p q a b).length<=11
theorem fmX{a b k:Int}(l:Ab KA (tzl p))(m:Ab KA (tzl q))(lp:p.length<=6)(I:q.length<=6)(w:1<=a/\a<=4294967296)(y:1<=b/\b<=4294967296)(Q:1<=k/\k<=100):FmX p q a b k:=by
 have o:=aB (Ns p) lp;have r:=aB (Ns q) I;have s:Ab (KA*4294967296) _:=(Zaf l b).mono (bC _ O1);have t:Ab (KA*4294967296) _:=(Zaf m a).mono (bC _ O1);have d:Ab KD _:=Yo9 s t;have e:Ab (KD*100) _:=(Zaf d k).mono (bC _ O1);have j:Ab (KD*100) _:=d.mono O1;have l3:(Zt (tzl p) b).length<=6:=aB (Ok _ _) o;have G:(Zt (tzl q) a).length<=6:=aB (Ok _ _) r;have g:(dfP p q a b).length<=6:=Ydd l3 G;have n:(dfK p q a b k).length<=6:=aB (Ok _ _) g;have t5:Tr (dfP p q a b):=Qn _;have t6:Tr (dfK p q a b k):=Qn _;have u:=Ypa e e n;have v:=Ypa j j g;have z:=Yde t6 t6 n n;have B:=Yde t5 t5 g g;have h:∀c:Int,1<=c/\c<=4294967296->bl c.natAbs<=65536:=λc F=>aB ((Qs 40 _).2 O1) O1;have D:∀c:Int,1<=c/\c<=4294967296->KA*c.natAbs<BG:=λc F=>aV (bC KA (by omega:c.natAbs<=4294967296)) O4;exact⟨Cp l O4 (Qn _) O1,Cp m O4 (Qn _) O1,h b y,h a w,h k O1,Zvc l (D b y),Zvc m (D a w),
  Cp s O4 (Qn _) O1,Cp t O4 (Qn _) O1,λi=>(ad_ab s t O4 i).2,Cp d O4 t5 O1,
  Zvc d (aV (bC KD (by omega:k.natAbs<=100)) O4),Cp e O4 t6 O1,mf_ab e O4 O1,Cp u O4 (Qo _ _) (by have:(sqK p q a b k).length<=_:=z;omega),u,z,
  mf_ab j O4 O1,Cp v O4 (Qo _ _) (by have:(sqP p q a b).length<=_:=B;omega),v,B⟩
def ngC(ns:List Int):Nat->List Int
 | 0=>[-1]
 | i+1=>Zt (Zt (ngC ns i) (ns.getD i 0)) (ns.getD i 0)
def sqN(ns:List Int):Nat->Nat
 | 0=>1
 | i+1=>sqN ns i*(ns.getD i 0).natAbs*(ns.getD i 0).natAbs
theorem Zr9(ns:List Int):∀i,Ab (sqN ns i) (ngC ns i)/\(ngC ns i).length<=1/\Tr (ngC ns i)
 | 0=>⟨λi=>by
   match i with
   | 0=>show(cf [-1] 0).natAbs<=1;decide
   | i+1=>show(cf [-1] _).natAbs<=1;grind [Yr],Nat.le_refl _,show Tr [-1]from .inr O4⟩
 | i+1=>by obtain⟨a,b,d⟩:=Zr9 ns i;exact⟨Zaf (Zaf a _) _,aB (Ok _ _) (aB (Ok _ _) b),Qn _⟩
theorem Yiq{ns:List Int}{B:Nat}(h:∀i,(ns.getD i 0).natAbs<=B):∀i,sqN ns i<=(B*B)^i
 | 0=>aF _
 | i+1=>by rw [cJ,<-eH];exact aP (aP (Yiq h i) (h i)) (h i)
structure NgX (ns:List Int) (i:Nat):Prop where
 b:bl (ns.getD i 0).natAbs<=65536
 inn:Nc (ns.getD i 0)
 v:Vp (ngC ns i)
 s:∀k,bl (cf (ngC ns i) k*ns.getD i 0).natAbs<=65536
 v2:Vp (Zt (ngC ns i) (ns.getD i 0))
 s2:∀k,bl (cf (Zt (ngC ns i) (ns.getD i 0)) k*ns.getD i 0).natAbs<=65536
theorem ngX(h:∀i,(ns.getD i 0).natAbs<=4294967296){i:Nat}(hi:i<=4):NgX ns i:=by obtain⟨j,n,k⟩:=Zr9 ns i;have e:=Yiq h i;have g:(4294967296*4294967296)^i<=(4294967296*4294967296)^4:=cY O1 hi;have a:=j.mono (aB e g);have b:=h i;have d:=(Zaf a _).mono (bC _ b);have l:(4294967296*4294967296)^4*(ns.getD i 0).natAbs<BG:=aV (bC _ b) O4;have m:(4294967296*4294967296)^4*4294967296*(ns.getD i 0).natAbs<BG:=aV (bC _ b) O4;exact⟨aB ((Qs 40 _).2 O1) O1,⟨O1,O1⟩,Cp a O4 k O1,Zvc a l,Cp d O4 (Qn _) (aB (Ok _ _) O1),Zvc d m⟩
def smP(c:List Int)(f:Nat->List Int):Nat->List Int
 | 0=>c
 | i+1=>Gb (smP c f i) (f i)
theorem Yiy{c:List Int}{f:Nat->List Int}{C F:Nat}(a:Ab C c)(d:c.length<=11)(g:Tr c)(b:∀i,Ab F (f i))(e:∀i,(f i).length<=11):∀i,Ab (C+i*F) (smP c f i)/\(smP c f i).length<=11/\Tr (smP c f i)
 | 0=>⟨by rw [gU];exact a,d,g⟩
 | i+1=>by obtain⟨h,j,k⟩:=Yiy a d g b e i;exact⟨by rw [dG,<-iX];exact Ya6 h (b i),Zso j (e i),Qn _⟩
structure SmX (c:List Int) (f:Nat->List Int):Prop where
 v:∀i,i<=3->Vp (smP c f i)
 s:∀i,i<3->∀k,bl (cf (smP c f i) k+cf (f i) k).natAbs<=65536
 d:Cvd (Yb (smP c f 3))
theorem smX(l:Ab (2^190) c)(o:c.length<=1)(n:Tr c)(h:∀i,Ab (6*((KD*100)*(KD*100))) (f i))(m:∀i,(f i).length<=11):SmX c f:=by
 have a:=Yiy l O1 n h m;have d:∀i,i<=3->2^190+i*(6*((KD*100)*(KD*100)))<2^205:=λi hi=>aV (Nat.add_le_add_left (aJ _ hi) _) O4;have e:(2)^205<BG:=O4;refine⟨λi hi=>?_,λi hi k=>?_,?_⟩
 .grind [Cp,Nat.lt_trans]
 .obtain⟨b,j,g⟩:=a i;refine(ad_ab b (h i) ?_ k).1;have:=d _ hi;grind
 .obtain⟨b,j,g⟩:=a 3;have hs:=b.sz (d 3 (aF _));exact⟨Kf (Cp b (jL (d 3 (aF _)) e) g O1),Gf hs,by simp_all [Yc]⟩
end Go.Sky
namespace Go.Sky
variable{a b:List Zk}{ov D d:Int}{x y z xs:List Int}{v:Value}
theorem Ym0{g h j c e f:Value}:Instr.fill (λi=>some (i*3,3)) ((List.range (1*3)).map ((Value.agg #[g,h,j]).cells[· % (Value.agg #[g,h,j]).cells.size]!)).toArray [(0,.agg #[c,e,f])]=some #[c,e,f]:=by rfl
def insB(m:Int)(l:List Int):Bool:=l.all λx=>decide (-m<=x) && decide (x<=m)
def ptB(x y z:Int):Bool:=insB 1048576 [x,y,z]
def znB(D n d:Int):Bool:=decide (1<=D/\D<=4194304/\1<=n/\n<=d/\d<=100)
theorem Ylr (x:Int)(y:Int)(A:Nat)(B:Nat)(c:x.natAbs<=A)(e:y.natAbs<=B):(x*y).natAbs<=A*B:=by simp_all [bT,aP]
def ptsB(e f g h c i D n d:Int):Bool:=decide (D*d*(D*d)<=(e-h)*d*((e-h)*d)+(f-c)*d*((f-c)*d)+(g-i)*n*((g-i)*n))
theorem Zv0{a b c:Bool}(h:¬(a=true/\b=true/\c=true)):a=false\/(a=true/\b=false)\/(a=true/\b=true/\c=false):=by cases a<;>cases b<;>cases c<;>simp_all
def fqZ(n d ov c:Int)(x y z e f g:List Int)(i:Nat):List Int:=sqK (Zs i x y z) (Zs i e f g) ov c (Zs i d d n)
def cnZ(D d ov c:Int):List Int:=ngC [D,d,ov,c] 4
def smZ(D n d ov c:Int)(x y z e f g:List Int)(i:Nat):List Int:=smP (cnZ D d ov c) (fqZ n d ov c x y z e f g) i
def fmZ(D n d ov c:Int)(x y z e f g:List Int):List Int:=Yb (smZ D n d ov c x y z e f g 3)
structure FzX (D n d ov ov2:Int) (x y z x2 y2 z2:List Int):Prop where
 X:∀i,FmX (Zs i x y z) (Zs i x2 y2 z2) ov ov2 (Zs i d d n)
 K:∀i,Nc (Zs i d d n)
 N:∀i,i<=4->NgX [D,d,ov,ov2] i
 Q:SmX (cnZ D d ov ov2) (fqZ n d ov ov2 x y z x2 y2 z2)
theorem Za7{fr k:Int}(h:Bf fr k ov x y z=true)(i:Nat):Ab KA (tzl (Zs i x y z)):=by unfold Bf Yfl at h;simp only [aN,cF]at h;obtain⟨⟨⟨⟨⟨⟨⟨⟨m,n⟩,o⟩,c⟩,e⟩,f⟩,g⟩,j⟩,-⟩:=h;exact Cr (p:=λl=>Ab KA _) ((AxC.of f).ka c e) ((AxC.of g).ka c e) ((AxC.of j).ka c e)
theorem tzlm1:(if 25<(tzl [(-1:Int)]).length then []else tzl [-1])=[-1]:=by rfl
abbrev Ad:=(Int×Int)×(SL×List Int)
abbrev Hm (g:Ad):Value:= .agg #[.int .i64 g.1.1,.int .i64 g.1.2,Xk g.2.1]
abbrev qGp (g:Ad):Pc:=Yx 2 wv (Xk g.2.1) g.2.2
abbrev Gp0:Ad:=((0,0),((none,0,0),[]))
abbrev GpU:=Int×Int×List Int
def unP(g:Ad):GpU:=(g.1.1,g.1.2,g.2.2)
def gpZ(D n d:Int)(g h:Zkt):GpU:=(g.1.1,g.1.2.1,fmZ D n d g.1.2.2 h.1.2.2 g.2.1 g.2.2.1 g.2.2.2 h.2.1 h.2.2.1 h.2.2.2)
def Ma(D n d:Int)(a b:List Zk):List GpU:=List.zipWith (gpZ D n d) (Lx a b a) (Lx a b b)
def Mx(a b:List Zk):Int:=if El a b=9 then 0 else El a b
def Yao(h:El a b≠0)(ps:List Zk):Lx a b ps=[]:=aK h
theorem Zsu{n:Int}(h:El a b≠0):Ma D n d a b=[]:=by unfold Ma;simp_all [Yao]
theorem Zng{c:List Int}{a b ps:List Zk}(e:∀k,Pu (c.getD k 0) (c.getD (k+1) 0) a=true->Pu (c.getD k 0) (c.getD (k+1) 0) b=true->k+1<c.length->(Zbf (c.getD k 0) (c.getD (k+1) 0) ps).length=1):∀n,n+1<=c.length->Ei c a b n=true->(Zd1 c ps n).length=n
 | 0,_,_=>rfl
 | n+1,h,f=>by have g:Ei c a b (n+1)=(Ei c a b n && (Pu _ _ a && Pu _ _ b)):=rfl;rw [g,aN,aN]at f;show(Zd1 c ps n ++ Zbf _ _ ps).length=_;rw [bG,Zng e n O1 f.1,e n f.2.1 f.2.2 O1]
theorem Yn3{ps:List Zk}{fr c:Int}(hi:∀g∈ps,Gin g)(h:Yf ps=true)(i:spF ps<=fr)(j:fr<c)(k:c<=spL ps)(f:∀g∈ps,¬(fr<g.1.1/\g.1.1<c))(l:Pu fr c ps=true):(Zbf fr c ps).length=1:=by have m:=(Qd h).2.1;unfold Zbf;rw [aM l,bA,Ztl (Zbu hi h).1 (λe=>O5) i j k f]
theorem Yap(a b:List Zk):El a b=9\/El a b=0\/El a b=7:=by unfold El;omega
theorem Yoa(h:El a b=0):¬cmF a b>=Dn a b/\Yhf a b=true:=by unfold El at h;grind
theorem Yeg(o:∀g∈a,Gin g)(p:∀g∈b,Gin g)(l:Yf a=true)(m:Yf b=true):(Lx a b a).length=(Lx a b b).length/\(Lx a b a).length<=2+a.length+b.length:=by
 by_cases h:El a b=0
 .obtain⟨u,q⟩:=Yoa h;have B:=bks a b O1;have t:=B.two;have e:∀ps,Lx a b ps=Zd1 _ ps _:=λps=>aM h;have w:=Zng (λk r s c=>by obtain⟨f,i,j⟩:=B.lt k c;unfold cmF at f;unfold Dn at j;exact Yn3 o l O1 i O1 (λg n=>B.no k c g (.inl n)) r) _ O1 q
  have F:=Zng (λk r s c=>by obtain⟨f,i,j⟩:=B.lt k c;unfold cmF at f;unfold Dn at j;exact Yn3 p m O1 i O1 (λg n=>B.no k c g (.inr n)) s) _ O1 q
  grind [Zsn]
 simp_all [Yao,bE]
theorem Zf6{ps zs:List Zk}(hi:∀g∈ps,Gin g)(p:Yf ps=true)(t:zs.map Gx=Lx a b ps):∀q∈zs,Gin q/\seB q=true:=by
 have k:∀n,∀u∈Zd1 _ ps n,∃(fr e:Int) (g:Zk),g∈ps/\Kq fr e g=true/\Zd0 fr e g=true/\u=Zf5 fr e g:=λn=>by
  induction n with
  | zero=>intro u j;cases j
  | succ n w=>
   intro u j;rcases cW.1 (show u∈Zd1 (Na a b) ps n ++ _ from j)with h|h
   .grind
   .unfold Zbf at h;split at h
    .rename_i r;obtain⟨g,l,rfl⟩:=dI.1 h;obtain⟨c,f⟩:=fA.1 l;exact⟨_,_,g,c,f,cI.1 r g l,rfl⟩
    grind
 intro q s;have i:Gx q∈Lx a b ps:=O5;unfold Lx at i;split at i
 .obtain⟨fr,e,g,c,f,m,o⟩:=k _ _ i;have:=Ztk (hi g c) ((Zbu hi p).2.1 g c) f m o;grind
 grind
theorem zip_s{α β γ:Type}{f:α->β->γ} : ∀{l:List α} {m:List β} {k:Nat} {x:α} {y:β},l[k]? = some x->m[k]? = some y->(List.zipWith f l m).take (k+1)=(List.zipWith f l m).take k ++ [f x y]
 | [],_,_,_,_,h,_=>O5
 | _::_,[],_,_,_,_,h=>O5
 | a::l,b::m,0,x,y,h,h2=>O11
 | a::l,b::m,k+1,x,y,h,h2=>by have:=zip_s (f:=f) (by simpa using h) (by simpa using h2);simp only [kY,jV,this,iQ]
def gpY(q:Zk)(g:SL×List Int):Ad:=((q.1.1,q.1.2.1),g)
theorem Ydi{n:Int}{xs ys:List Zk}{zs:List Ad}{k:Nat}{g:SL×List Int}(l:xs.map Gx=Lx a b a)(m:ys.map Gx=Lx a b b)(h:zs.map unP=(Ma D n d a b).take k)(j:k<xs.length)(f:k<ys.length)(i:g.2=fmZ D n d (xs.getD k G0).1.2.2 (ys.getD k G0).1.2.2 (xs.getD k G0).2.1.2 (xs.getD k G0).2.2.1.2 (xs.getD k G0).2.2.2.2 (ys.getD k G0).2.1.2 (ys.getD k G0).2.2.1.2 (ys.getD k G0).2.2.2.2) :
  (zs ++ [gpY (xs.getD k G0) g]).map unP=(Ma D n d a b).take (k+1):=by
 have c:(Lx a b a)[k]? = some (Gx (xs.getD k G0)):=O5;have e:(Lx a b b)[k]? = some (Gx (ys.getD k G0)):=O5;unfold Ma at h ⊢;rw [zip_s c e,dB,bZ];simp only [gpY,unP,gpZ,Gx];grind
theorem Ymn{n:Int}{xs:List Zk}{zs:List Ad}(e:xs.map Gx=Lx a b a)(c:(Lx a b a).length=(Lx a b b).length)(h:zs.map unP=(Ma D n d a b).take xs.length):zs.map unP=Ma D n d a b:=by rw [h];unfold Ma;grind
def Ymq(h:El a b=9):Mx a b=0:=aM h
def Ymp(h:¬El a b=9):Mx a b=El a b:=aK h
theorem Zp5{fr c:Int}(h:Sgo fr c ov x y z):Nc ov:=⟨by have:=h.o1;omega,by have:=h.o2;omega⟩
def Zko(l:List GpU):Option GpU:=l.find? λg=>It g.2.2
def Cc(l:List GpU):Int×Int×Bool:=match Zko l with
 | some g=>(g.1,g.2.1,true)
 | none=>(0,0,false)
theorem fst_n{l:List GpU}(h:∀i,i<l.length->It (l.getD i (0,0,[])).2.2=false):Cc l=(0,0,false):=by
 have:Zko l=none:=jC.2 λg c=>by obtain⟨i,hi,rfl⟩:=cQ.1 c;grind
 unfold Cc;grind
theorem Zbh(zs:List Ad)(k:Nat):(zs.map unP).getD k (0,0,[])=unP (zs.getD k Gp0):=by rw [aL,iJ,aL];cases zs[k]?<;>rfl
def mkS(u:Zkt):Zk:=(u.1,((none,0,0),u.2.1),((none,0,0),u.2.2.1),((none,0,0),u.2.2.2))
theorem Zum(l:List Zkt):(l.map mkS).map Gx=l:=by rw [kW];exact List.map_id' _
theorem fst_no{l:List GpU}{zs:List Ad}(h:zs.map unP=l)(c:∀i,i<zs.length->It (zs.getD i Gp0).2.2=false):Cc l=(0,0,false):=by subst h;exact fst_n λi hi=>by rw [Zbh];exact c i O5
def Fw(D n d:Int)(a b:List Zk):Bool:=decide (Mx a b=0) && !(Cc (Ma D n d a b)).2.2
theorem ap_t{n:Int}(h:Mx a b=0):Fw D n d a b=!(Cc (Ma D n d a b)).2.2:=by unfold Fw;grind
theorem ap_f{n:Int}(h:¬Mx a b=0):Fw D n d a b=false:=by unfold Fw;grind
open Go.Proofs
def pPa:Enc Tryz.prog 38 1 Xk:=Enc.flat Tryz.sizeOf38 Tryz.isAgg38 (λ_=>rfl)
def pGp:Enc Tryz.prog 130 3 Hm:=Enc.agg O4 Tryz.sizeOf130 Tryz.isAgg130 (λx=>⟨[.int .i64 x.1.1,.int .i64 x.1.2,Xk x.2.1],rfl,rfl,O12⟩)
@[reducible,instance] def encPaI:EncT Tryz.prog 38 1 Xk:=⟨pPa⟩
@[reducible,instance] def encGpI:EncT Tryz.prog 130 3 Hm:=⟨pGp⟩
def ti_a3:Tryz.prog.info? 190=some Tryz.t190:=O8
open Go.Proofs.Tryz
set_option synthInstance.maxHeartbeats 0
set_option synthInstance.maxSize 100000
set_option maxRecDepth 20000
set_option linter.unusedSimpArgs false
theorem Yft{va vb:Value}{e f:List Zk}(u:∀g∈e,Gin g)(w:∀g∈f,Gin g)(o:Yf e=true)(p:Yf f=true)(b7:e.length<=5)(b8:f.length<=5):Cal prog 83 #[va,vb] [Xn 6 Xv qG va e,Xn 6 Xv qG vb f] true (G:=(Value×List Zk)×(Value×List Zk)) (λg=>g.1.2.map Gx=Lx e f e/\g.2.2.map Gx=Lx e f f) (λg=> .tuple #[g.1.1,g.2.1,.int .i64 (El e f)]) (λg=>[Xn 6 Xv qG g.1.1 g.1.2,Xn 6 Xv qG g.2.1 g.2.2]):=by
 refine Zg func83 ntmps83 λw0 sc t B=>?_;refine Zby (Xp 1 J Zc) (λsa a9=>?_);subst a9;refine Zby (Xp 2 J Zc) (λsb b0=>?_);subst b0;obtain⟨-,b1,Z⟩:=Qd o;obtain⟨-,b2,a0⟩:=Qd p;have a1:=Zr1 u o;have a2:=Zr1 w p;have b5:=Zsn e f;have b6:([sa,sb]:List SL).length=2:=rfl;refine go 11 ?_;refine cl 2 [1] (Nu u) λ_ _=>?_;refine dt (dF (Yq J J) (aD (λb=>Value.bool (!b)) o))<|go 2 ?_;refine Hu 2 [2] (Nu w) λ_ _=>?_;refine Hk (dF (Yq J J) (aD (λb=>Value.bool (!b)) p)) J J<|go 7 ?_;refine Qb (λ_=>False) [(0,0),(1,0),(2,0),(3,0),(4,0),(5,0),(6,0),(7,0),(8,0),(9,0),(10,0),(11,0),(12,0),(13,0),(14,0),(15,0),(16,0),(17,0),(18,0),(19,0),(20,0),(21,0),(22,0),(23,0),(24,0),(25,3)]<|go 2 ⟨O1,?_⟩;refine Xc J J (Xl (Mb 1 J J J Zc Dl J Kx J))<|Xc J J (Xl (Mj 1 G0 J J J Zc iA3 J))<|go 2 ⟨O1,?_⟩;refine Xc J J (Xl (Mb 2 J J J Zc Dl J Kx J))<|Xc J J (Xl (Mj 2 G0 J J J Zc iA3 J))<|Xc J J (Xl (Yz ( .int .i64 (cmF e f)) (Zc2 J J J) J))<|go 4 ⟨O1,?_⟩;refine Xc J J (Xl (Zv 1 (e.length-1) J J J J Zc Lz Ir))<|Xc J J (Xl (Mb 1 J J J Zc Dl J Kx J))<|Xc J J (Xl (Mj 1 G0 J J J Zc iA3 J))<|go 4 ⟨O1,?_⟩;refine Xc J J (Xl (Zv 2 (f.length-1) J J J J Zc Lz Ir))<|Xc J J (Xl (Mb 2 J J J Zc Dl J Kx J))<|Xc J J (Xl (Mj 2 G0 J J J Zc iA3 J))<|Xc J J (Xl (Yz ( .int .i64 (Dn e f)) (Zqe J J J) J))<|go 12 ?_;refine Ze J (λm=>?_) (λm=>?_)
 .have h:cmF e f>=Dn e f:=m;exact go 9<|Zp (Ci 72 6 Xv qG)<|xe3 B ((.slice none 0 0,[]),(.slice none 0 0,[])) results83 (by rw [(Zn2 h e).1]) ⟨(Zn2 h e).2.symm,(Zn2 h f).2.symm⟩ (Ph 72 (Ph 72 Za))
 .have h:¬cmF e f>=Dn e f:=m;have hB:=bks e f O1;have b4:=hB.two;refine go 6 ?_;refine tt (Xx [(0,_),(1,_)] 60 (enc:=Yj) ([cmF e f,Dn e f]:List Int) J J K4 Py ti3 J J J J J pZ.cells J J t.h) λv _=>go 8 ?_;refine tt (Xx [(0,_),(1,_)] 61 (enc:=Xk) ([sa,sb]:List SL) J J K4 Yfk ti38 J J J J J pPa.cells J J t.h) λc3 _=>go 5 ?_;refine lp (G:=Nat×Value) [0,1,4,5,7,8,59,60] [0,1,2,61] (λq=>[(61,.int .i64 (q.1:Int)),(9,q.2)]) (λq=>[(60,Oe 1 3 Yj q.2 (Zgk e f q.1))]) (λq=>q.1<=2) (λq=>2-q.1) (0,_) O2 K2 K1 ?_;rintro⟨i,vt⟩ hi;dsimp only at hi;dsimp only;refine go 6<|Ze J (λP=>?_) (λP=>?_)
  .refine go 5<|Zf (Yqu (sd:=(none,0,0)) i 1 2 50 J J J J O1)<|go 1 ?_;refine dt (Zv 61 i J J J J (Zz pPa) Yfk sizeOf38 J O9)<|dt (Yw 61 (none,0,0) J J J (Zz pPa) pPa O9)<|go 11 ?_;refine lp (G:=Nat×Value) [0,1,4,5,7,8,59,60,61,65,66] [0,1,2,61,50] (λq=>[(67,.int .i64 (q.1:Int)),(9,q.2)]) (λq=>[(60,Oe 1 3 Yj q.2 (tik e f i q.1))]) (λq=>q.1<=(Ct i e f).length) (λq=>(Ct i e f).length-q.1) (0,_) O2 K2 ⟨by rw [tik_0];rfl,aA⟩ ?_;rintro⟨k,vu⟩ hk;dsimp only at hk;dsimp only;have b9:=Yr8 e f i k;have a3:=Zwt e f i;refine go 6<|Ze J (λQ=>?_) (λQ=>?_)
   .refine go 5<|Zf (Pf ((Ct i e f).getD k G0) (((Ct i e f).getD k G0).2.1) 50 51 J J (Zd O1) O6)<|Zf (Pf ((Ct i e f).getD k G0) (((Ct i e f).getD k G0).2.2.1) 50 52 J J (Zd O1) O6)<|Zf (Pf ((Ct i e f).getD k G0) (((Ct i e f).getD k G0).2.2.2) 50 53 J J (Zd O1) O6)<|go 2 ⟨O3,?_⟩;refine dt (Yw 50 G0 J J J Zc pG O3)<|Yd (Zw 3) λbx _=>go 10 ?_;refine Xf 75 J (λa6=>?_) (λa6=>?_)
    .refine go 7<|Ze J (λR=>?_) (λR=>?_)
     .refine go 4 ?_;refine tt (Xx [(0,_)] 4 (enc:=Yj) ([((Ct i e f).getD k G0).1.1]:List Int) J J K2 Py ti3 J J J J J pZ.cells J J t.h) (λc4 _=>?_);refine tt (Oa 60 4 8 J J J J J J O4 J (Zz pZ) Py ti3 J pZ J J J O9 O4 J t.h) (λc5 _=>?_);refine go 8 ⟨O1,?_⟩;exact Yh (k+1,_) O2 O2 K2 ⟨by rw [tik_t O1 O1 O1];rfl,aA⟩
     .refine go 7 ⟨O1,?_⟩;exact Yh (k+1,_) O2 O2 K2 ⟨by rw [tik_f O1 O1];rfl,aA⟩
    .refine go 15 ⟨O1,?_⟩;exact Yh (k+1,_) O2 O2 K2 ⟨by rw [tik_f O1 O1];rfl,aA⟩
   .obtain rfl:k=(Ct i e f).length:=O1;refine go 10 ⟨O1,?_⟩;exact Yh (i+1,_) O2 O2 K2 ⟨by rw [<-tik_e O1];rfl,aA⟩
  .obtain rfl:i=2:=O1;refine go 6 ?_;refine e_obox 60 J J (tms_ne e f 2) J t.h (λbq cq rq hv c1 a8=>?_);subst hv;have b3:=tms_2 e f 2;have c0:=Zsl e f 2;refine go 2 ?_;refine tt (Pb 4 60 (Yqg O1 O1) J J J K1 call150 J O4 Zn J t.h aA) (λgs H=>?_);have a3:=H.1.1;rw [<-a3];refine go 5 ?_;refine tt (Pb 4 60 (sl_cmp O1 O1 O1 H.2) J J J K1 call151 J O4 Zn J t.h aA) λgc V=>go 5 ?_;obtain⟨gz,gr⟩:=gc;have c2:gz.length+gr.length=gs.length+rq.length:=V.2;obtain rfl:gz=Na e f:=Yoc H.1 V.1;refine Zf (Yqs (xs:=Na e f) (r:=gr) (c:=cq) 60 J J O1 a8 J t.h)<|go 5<|Zf (Qt 74 6 35 Xv)<|Zf (Qt 75 6 35 Xv)<|Zf (Yi qG 76)<|Zf (Yi qG 77) ?_;refine lp (G:=Nat×Value×List Zk×Value×List Zk) [0,1,9] [0,60,1,2] (λq=>[(14,.int .i64 ((q.1+1:Nat):Int)),(4,q.2.1),(5,q.2.2.2.1)]) (λq=>[(74,Oe 6 35 Xv q.2.1 q.2.2.1),(75,Oe 6 35 Xv q.2.2.2.1 q.2.2.2.2),(76,Nf qG q.2.2.1),(77,Nf qG q.2.2.2.2)]) (λq=>(q.1+1<=(Na e f).length)/\(Ei (Na e f) e f q.1=true)/\(q.2.2.1.map Gx=Zd1 (Na e f) e q.1)/\(q.2.2.2.2.map Gx=Zd1 (Na e f) f q.1)/\(q.2.2.1.length=q.1)/\(q.2.2.2.2.length=q.1)) (λq=>(Na e f).length-q.1) (0,.slice none 0 0,[],.slice none 0 0,[]) ⟨O1,J,J,J,J,J⟩ K3 K4 ?_;rintro⟨n,v4,z4,v5,z5⟩ ⟨hn,s,M,N,W,Y⟩;dsimp only at hn s M N W Y;dsimp only;refine go 9<|Ze J (λS=>?_) (λS=>?_)
   .refine go 5<|Qb (λ_=>False) [(0,0),(1,0),(2,0),(3,0),(4,0),(5,0),(6,0),(7,0),(8,0),(9,0),(10,1),(11,0),(12,0),(13,0),(14,0),(15,3)]<|go 4 ⟨O1,?_⟩;refine Xc J J (Xl (Zv 60 n J J J J (Zz pZ) Py Kx))<|go 3 ⟨O1,?_⟩;refine Xc J J (Xl (Zv 60 (n+1) J J J J (Zz pZ) Py Kx J))<|go 1 ⟨O1,?_⟩;refine Yn (Zl 84 [1] (Yiv a1 (lh_M u o) Z)) λg hg=>go 8<|Qb (λ_=>False) [(0,0),(1,0),(2,0),(3,0),(4,0),(5,0),(6,0),(7,0),(8,0),(9,0),(10,1),(11,0),(12,0),(13,0),(14,0),(15,3)]<|go 4 ⟨O1,?_⟩;refine Xc J J (Xl (Zv 60 n J J J J (Zz pZ) Py Kx))<|go 3 ⟨O1,?_⟩;refine Xc J J (Xl (Zv 60 (n+1) J J J J (Zz pZ) Py Kx J))<|go 1 ⟨O1,?_⟩;refine Yn (Zl 86 [2] (Yiv a2 (lh_M w p) a0)) λa7 F=>go 9 ?_;rcases Zo8 (Pu ((Na e f).getD n 0) ((Na e f).getD (n+1) 0) e) (Pu ((Na e f).getD n 0) ((Na e f).getD (n+1) 0) f)with j|⟨j,l⟩|⟨j,l⟩
    .exact go 2<|kt (aG (by rw [Yal j];decide))<|go 21<|Zp (Ci 72 6 Xv qG)<|xe3 B ((.slice none 0 0,[]),(.slice none 0 0,[])) results83 (by rw [(Zc3 h O1 (Zjm j) e).1]) ⟨(Zc3 h O1 (Zjm j) e).2.symm,(Zc3 h O1 (Zjm j) f).2.symm⟩ (Ph 72 (Ph 72 Za))
    .exact go 2<|kf (aI (by rw [Yam j];decide))<|go 2<|ktg (aG (by rw [Yal l];decide))<|go 18<|Zp (Ci 72 6 Xv qG)<|xe3 B ((.slice none 0 0,[]),(.slice none 0 0,[])) results83 (by rw [(Zc3 h O1 (Zjl l) e).1]) ⟨(Zc3 h O1 (Zjl l) e).2.symm,(Zc3 h O1 (Zjl l) f).2.symm⟩ (Ph 72 (Ph 72 Za))
    .refine go 2<|kf (aI (by rw [Yam j];decide))<|go 2<|kfg (aI (by rw [Yam l];decide))<|go 6 ?_;have a4:=Yn9 u o hB O1 j hg;have a5:=Yn8 w p hB O1 l F;refine go 3 ?_;refine tt (Oa 74 84 96 J J J J J J O4 J Zc Lz ti35 J pG J J J (by rw [a4];omega) O4 J t.h) λc6 _=>go 2 ?_;refine tt (Oa 75 86 96 J J J J J J O4 J Zc Lz ti35 J pG J J J (by rw [a5];omega) O4 J t.h) (λc7 _=>?_);refine Xg (Zch 84 85 J J)<|Xg (Zcg 76 85 76 J J J J)<|Xg (Zch 86 87 J J)<|Xg (Zcg 77 87 77 J J J J)<|go 10 ⟨O1,?_⟩;exact Yh (n+1,_,z4 ++ g.2,_,z5 ++ a7.2) ⟨O2,com_k s j l,Yef M hg,Yef N F,by rw [bG,W,a4],by rw [bG,Y,a5]⟩ O2 K3 K4
   .have I:n+1=(Na e f).length:=O1;exact go 10<|kf (aI O1)<|go 15<|Zp (Xo 74 J J pG)<|Zp (Xq 74 76 78 J J J J)<|Zp (Xo 75 J J pG)<|Zp (Xq 75 77 79 J J J J)<|xe3 B ((v4,z4),(v5,z5)) results83 (by rw [(Zqg h I s).1]) ⟨M.trans ((Zqg h I s).2 e).symm,N.trans ((Zqg h I s).2 f).symm⟩ (Ph 78 (Ph 79 Za))
theorem Yp8(e:Vp xs):Qe prog 314 #[v] [Yx 2 wv v xs] (.bool (decide (Zbn xs))):=by
 refine Zg func314 ntmps314 λo n l c=>?_;have h:=e.len;have j:=Qy e.sz;have k:(xs.length+2)*(xs.length+2)<=27*27:=aP O1 O1;have m:(xs.length+2)*(xs.length+2)*(Qc xs+16)<=27*27*65552:=aP k O1;have i:((xs.length:Int)-1+3)*((xs.length:Int)-1+3)=(((xs.length+2)*(xs.length+2):Nat):Int):=by rw [show(xs.length:Int)-1+3=((xs.length+2:Nat):Int) by omega];push_cast;rfl
 have f:((xs.length:Int)-1+3)*((xs.length:Int)-1+3)*((Qc xs:Int)+16)=(((xs.length+2)*(xs.length+2)*(Qc xs+16):Nat):Int):=by rw [i];push_cast;rfl
 refine go 9 ?_;refine cl 1 [1] (Xz ‹_›) λ_ _=>go 9 ?_;refine cl 1 [1] (Zj4 e) λ_ _=>go 10 ?_;refine cl 1 [1] (Zpv e) λ_ _=>go 13<|Xf 23 J (λg=>?_) (λg=>?_)
 .refine go 14 ?_;exact Xh c () results314 (by first|exact sf_t O1|exact sf_i O1 f) aA Za
 .refine go 14 ⟨O1,O1,by rw [i];exact⟨O1,O1⟩,O1,by rw [f];exact⟨O1,O1⟩,?_⟩;exact Xh c () results314 (by first|exact sf_t O1|exact sf_i O1 f) aA Za
theorem Yfq(g:Vp xs):Qe prog 306 #[v,.slice none 0 0] [Yx 2 wv v xs] (.int .i64 (Yar xs)):=by
 refine Zg func306 ntmps306 λj i h e=>?_;refine Zf (Qt 999 2 80 wv)<|Zf (Xo 999 J J pV)<|go 8 ?_;refine cl 1 [1] (Yp8 g) λ_ _=>go 13 ?_;refine lp (G:=Unit) [0,1,13,14] [0,1,999] (λ_=>[(15,.int .i64 0),(5,.bool (decide (¬Zbn xs)))]) (λ_=>[]) (λ_=>True) (λ_=>0) () aA K2 aA ?_;rintro _ -;refine go 2<|kf O4<|go 13 ?_;refine cl 1 [1] (Xz ‹_›) λ_ _=>go 14<|Ze J (λf=>?_) (λf=>?_)
 .refine go 7 ?_;exact Xh e () results306 (by unfold Yar;rw [aM O1]) aA Za
 .refine go 7<|kf O4<|go 11<|Mz J (λc=>?_) (λc=>?_)
  .refine go 7 ?_;exact Xh e () results306 (by unfold Yar;rw [aK O1,aK (by simpa using c)]) aA Za
  .refine go 8 ?_;exact Xh e () results306 (by unfold Yar;rw [aK O1,aM (by simpa using c)]) aA Za
theorem Zux(g:Vp xs)(k:xs≠[]):Cal prog 307 #[v] [Yx 2 wv v xs] true (G:=Value) (λr=>True) (λr=> .tuple #[r,.int .i64 0]) (λr=>[Yx 2 wv r (Xj xs)]):=by
 refine Zg func307 ntmps307 λq p o e=>?_;have c:=Kf g;have m:=aH.2 k;have n:=Yc xs;have j:=g.len;refine go 9 ?_;refine cl 2 [1] (Lf g) λ_ _=>go 11<|kt O4<|go 5 ⟨O1,?_⟩;refine Hk (Zv 2 ((Yb xs).length-1) J J J J Zr Lc Ks) J J<|go 1 ⟨O3,?_⟩;refine Hu 2 [] (Hs (c.sz _)) λ_ _=>go 4<|Ze J (λf=>?_) (λf=>?_)
 .refine go 3 ?_;refine cl 2 [] (Ya _ ⟨O4,O4⟩) λ_ _=>cl 3 [2] (Ie _ c O7 (λi=>Zcy c.sz i)) λ_ _=>go 8 ?_;exact Nm e _ results307 J aA (Ph 3 Za (by rw [Zld O1 ((sign_neg_iff _).1 ‹_›)]<;>rfl))
 .refine go 11 ?_;exact Nm e _ results307 J aA (Ph 2 Za (by rw [Zlc (λh=>by have l:=(sign_neg_iff _).2 h;exact absurd l ‹_›)]<;>rfl))
theorem st_sqf(j:Vp xs)(p:xs≠[])(t:Zbn xs)(F:Nat)(q:Yqb F xs):Cal prog 288 #[v] [Yx 2 wv v xs] true (G:=Value) (λr=>True) (λr=> .tuple #[r,.int .i64 0]) (λr=>[Yx 2 wv r (sqf F xs)]):=by
 refine Zg func288 ntmps288 λH B w n=>?_;obtain⟨e,l,f,m,g⟩:=q;have c:=Zym j;have u:=Pt j.tr;have h:Vp (Xi (Xj xs)):=Zgf c (λi hi=>e i O1);have o:=Ybb c h f;have s:=Ytu p t;refine Zf (Qt 999 2 80 wv)<|Zf (Xo 999 J J pV)<|go 10 ?_;refine cl 1 [1] (Yfq j) λ_ _=>go 9<|Ze J (λk=>?_) (λk=>?_)
 .exfalso;omega
 .refine go 5 ?_;refine cl 2 [1] (Zux j p) λ_ _=>go 11<|kf O4<|go 8 ?_;refine cl 3 [2] (Zaq c (λi=>by by_cases hi:i<xs.length;exact e i hi;rw [Yr O1];simp [Ip])) λ_ _=>go 11<|kf O4<|go 9 ?_;refine cl 4 [2,3] (Zv5 c h F l f) λ_ _=>go 11<|kf O4<|go 9 ?_;refine cl 5 [2,4] (Zdk c o m) λ_ _=>go 7 ?_;exact Nm n _ results288 (by rw [aM g]<;>rfl) aA (Ph 5 Za (by rw [aM g]<;>rfl))
theorem Yp7{u:Value}{ys:List Int}(m:Vp xs)(l:Vp ys)(q:ys≠[])(o:Bz xs ys=0)(j:ys.length<=xs.length):Cal prog 289 #[v,u] [Yx 2 wv v xs,Yx 2 wv u ys] true (G:=Value) (λr=>True) (λr=> .tuple #[r,.int .i64 0]) (λr=>[Yx 2 wv r (Le xs ys)]):=by
 refine Zg func289 ntmps289 λB w t c=>?_;have f:=Zbg m o;have e:=Kf f;have p:=m.len;have k:=l.len;have s:=aH.2 q;refine Zf (Qt 999 2 80 wv)<|Zf (Xo 999 J J pV)<|go 10 ?_;refine cl 3 [1,2] (Zpu m l o) λ_ _=>go 11<|kf O4<|go 7<|Ze J (λg=>?_) (λg=>?_)
 .refine go 9 ?_;exact Nm c (.slice none 0 0) results289 J aA (Mr (Yfr O1) Za)
 .refine go 5 ?_;refine cl 4 [3] (Lf f) λ_ _=>go 11<|kf O4<|go 23 ⟨O1,O1,O1,?_⟩;refine dt (Zv 2 (ys.length-1) J J J J Zr Lc Ks)<|go 1 ⟨O3,?_⟩;refine cl 4 [] (Hs (l.sz _)) λ_ _=>go 2<|Xf 45 J (λn=>?_) (λn=>?_)
  .refine go 1 ?_;refine Hk (Zny J J J O1 O1) J J<|go 4 ?_;refine Ze J (λh=>?_) (λh=>?_)
   .refine go 9 ?_;exact Nm c _ results289 J aA (Ph 4 Za (by rw [Yqd j ‹_› ‹_›]<;>rfl))
   .refine go 5 ?_;refine cl 4 [] (Ya _ ⟨O4,O4⟩) λ_ _=>cl 5 [4] (Ie _ e O7 (λi=>Zcy e.sz i)) λ_ _=>go 7 ?_;exact Nm c _ results289 J aA (Ph 5 Za (by first|(rw [Ybn ‹_›]<;>rfl)|(rw [Ybm j ‹_›]<;>rfl)))
  .refine go 12 ?_;refine cl 5 [] (Ya _ ⟨O4,O4⟩) λ_ _=>cl 6 [4] (Ie _ e O7 (λi=>Zcy e.sz i)) λ_ _=>go 7 ?_;exact Nm c _ results289 J aA (Ph 6 Za (by first|(rw [Ybn ‹_›]<;>rfl)|(rw [Ybm j ‹_›]<;>rfl)))
theorem Yii(R:Vp xs)(Z:xs≠[])(hf:Zbn xs)(F:Nat)(hC:Zac F xs):Cal prog 262 #[v] [Yx 2 wv v xs] true (G:=Value×List (SL×List Int)) (λr=>r.2.map Prod.snd=chn F xs) (λr=> .tuple #[r.1,.int .i64 0]) (λr=>[Xn 1 Nn qZ r.1 r.2]):=by
 refine Zg func262 ntmps262 λw0 sc S M=>?_;obtain⟨k,o,H⟩:=hC;have m:=Zlz R Z k;have a1:=Znd R k;have g:Vp (Xi (sqf F xs)):=Zgf m (λi hi=>o i O1);refine Zf (Qt 999 2 80 wv)<|Zf (Xo 999 J J pV)<|go 9 ?_;refine cl 2 [1] (st_sqf R Z hf F k) λ_ _=>go 11<|kf O4<|go 8 ?_;refine cl 3 [2] (Zaq m (λi=>by by_cases hi:i<xs.length;exact o i hi;rw [Yr O1];simp [Ip])) λ_ _=>go 11<|kt O4<|go 5 ?_;refine cl 80 [3] (Lf g) λ_ _=>go 11<|kf O4<|go 6 ?_;refine Zby (Xp 2 J Zr) (λY Q=>?_);subst Q;refine Zf (Yi qZ 71)<|Zf (Zq (q:=qZ) (z:=(Y,sqf F xs)) 71 2 71 J J J J J)<|Zby (Xp 80 J Zr) (λW N=>?_);subst N;refine go 2 ?_;refine tt (Xx [(0,_)] 70 (enc:=Nn) [(Y,sqf F xs)] J J K2 Zo5 ti40 J J J J J pS.cells J J S.h) λv _=>go 5 ?_;refine lp (G:=List (SL×List Int)×SL×List Int×SL×List Int×Nat×Value) [] [0,1,999,2,3] (λq=>[(7,q.2.2.2.2.2.2),(6,Xk q.2.2.2.1)]) (λq=>[(70,Oe 1 40 Nn q.2.2.2.2.2.2 (q.1 ++ [(q.2.1,q.2.2.1)])),(71,Nf qZ (q.1 ++ [(q.2.1,q.2.2.1)])),(80,Yx 2 wv (Xk q.2.2.2.1) q.2.2.2.2.1)]) (λq=>(Vp q.2.2.1)/\(Vp q.2.2.2.2.1)/\(cok q.2.2.2.2.2.1 q.2.2.1 q.2.2.2.2.1)/\(q.1.map Prod.snd ++ Mg q.2.2.2.2.2.1 q.2.2.1 q.2.2.2.2.1=chn F xs)/\(q.1.length+q.2.2.2.2.1.length<=25)) (λq=>q.2.2.2.2.1.length) ([],Y,sqf F xs,W,Yb (Xi (sqf F xs)),F,_) ⟨m,Kf g,H,J,by rw [Yc];simp;have:=g.len;omega⟩ ⟨J,J,aA⟩ ⟨J,J,J,aA⟩ ?_;rintro⟨w,u,x,B,y,f,vo⟩ ⟨h,n,p,l,V⟩;dsimp only at h n p l V;dsimp only;refine go 8<|Ze J (λc=>?_) (λc=>?_)
 .have j:y≠[]:=λe=>by rw [e]at c;simp at c
  obtain⟨f0,rfl,hd,I,s,t⟩:=Zh5 p j;refine go 7 ?_;refine tt (Xx [(0,_)] 4 (enc:=Nn) [(B,y)] J J K2 Zo5 ti40 J J J J J pS.cells J J S.h) (λa2 _=>?_);refine tt (Oa 70 4 24 J J J J J J O4 J (Zz pS) Zo5 ti40 J pS J J J O9 O4 J S.h) λa3 _=>go 4 ?_;have a0:(w ++ [(u,x)] ++ [(B,y)]).length=w.length+2:=O6;refine Zf (Zq (q:=qZ) (z:=(B,y)) 71 80 71 J J J J J)<|Zf (Za8 (q:=qZ) 71 92 (u,x) J J O6 J)<|go 5 ⟨O1,?_⟩;refine dt (Zv 70 w.length J J J J (Zz pS) Zo5 sizeOf40)<|dt (Yz (Xk u) (Yw 70 Z0 J J J (Zz pS) pS) (by simp [aL])) ?_;refine go 1 ?_;refine cl 80 [92,80] (Yp7 h n j hd I) λ_ _=>?_;refine Zkj (Xp 80 J Zr) (λsn P=>?_);subst P;refine go 10<|kf O4<|go 5 ?_;exact Yh (w ++ [(u,x)],B,y,sn,Le x y,f0,_) ⟨n,Zl0 h hd,s,by rw [<-l,t];simp,by have h7:=Pg x j;have h8:=Bu (y:=y) h.tr;simp;omega⟩ (by have h7:=Pg x j;have h8:=Bu (y:=y) h.tr;dsimp only;omega) K2 K3
 .refine go 6 ?_;obtain rfl:y=[]:=aC O1;refine Zf (Xo 70 J J pS)<|Zf (Xq 70 71 72 J J J J)<|go 7 ?_;exact Nm M (_,w ++ [(u,x)]) results262 J (by rw [<-l,Du];simp) (Ph 72 Za)
end Go.Sky

