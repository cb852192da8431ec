/- Rules, arithmetic and contracts: part 14. No conditions but those that each theorem names. -/
import Derived.Test.YtlnoheikolgejaaGreatLc12
set_option linter.all false
set_option maxHeartbeats 4000000
namespace Go.Sky
variable{G ov x:Int}{c p ts:List Int}{a b r us:List Zv}{q:Zv}{i:Nat}
theorem Zwc{G:Int}(d:0<G):∀(l:List Int) (o:Int),Mc (G*o) (l.map (G*·))=G*Mc o l
 | [],o=>rfl
 | x::l,o=>by show Mc ((Int.gcd _ _)) _=G*Mc _ l;rw [Int.gcd_mul_left];push_cast;rw [show((G.natAbs))=G by omega];exact Zwc d l _
theorem Znh{X:List Int}{o:Int}(d:0<G)(e:∀x∈X,G∣x)(f:0<=o):Mc o ((Hx X G).map (G*·))=Mc o X:=by
 unfold Hx;split
 .rename_i h;rw [aC h];show((Int.gcd o (G*0)))=o;rw [dX,Int.gcd_zero_right];omega
 .conv=>rhs;rw [<-mN X]
  grind [List.map_congr_left,Int.mul_ediv_cancel']
theorem Yr9{X Y Z:List Int}{o e:Int}(f:0<o)(d:0<Km o X Y Z)(k:∀x∈X,Km o X Y Z∣x)(l:∀x∈Y,Km o X Y Z∣x)(m:∀x∈Z,Km o X Y Z∣x)(g:Km o X Y Z*e=o) :
  Mc e (Hx X (Km o X Y Z) ++ Hx Y (Km o X Y Z) ++ Hx Z (Km o X Y Z))=1:=by
 have h:=Zwc d (Hx X (Km o X Y Z) ++ Hx Y (Km o X Y Z) ++ Hx Z (Km o X Y Z)) e;rw [g,cI,cI,Gg,Gg,Znh d k (dQ f),Znh d l (Zhi _ _ (dQ f)),Znh d m (Zhi _ _ (Zhi _ _ (dQ f)))]at h;have n:Km o X Y Z=Mc (Mc (Mc o X) Y) Z:=by show Mc o (X ++ Y ++ Z)=_;grind [Gg]
 generalize Mc e _=r at *;have j:Km o X Y Z*r=Km o X Y Z*1:=O;exact iJ O j
structure Prt (q g:Zv) (G:Int):Prop where
 g0:0<G
 a0:0<=q.1.1-g.1.1
 b0:0<q.1.2.1-q.1.1
 ab:(q.1.1-g.1.1)+(q.1.2.1-q.1.1)<=g.1.2.1-g.1.1
 o:q.1.2.2*G=g.1.2.2*(g.1.2.1-g.1.1)^5
 x:∀i (t u:Rat),t*((g.1.2.1-g.1.1:Int):Rat)=((q.1.1-g.1.1:Int):Rat)+((q.1.2.1-q.1.1:Int):Rat)*u->Zj (Zt i q.2.1.2 q.2.2.1.2 q.2.2.2.2) u*(G:Rat)=((g.1.2.1-g.1.1:Int):Rat)^5*Zj (Zt i g.2.1.2 g.2.2.1.2 g.2.2.2.2) t
theorem Zyz{X:List Int}(h:∀k,(X.getD k 0/G).natAbs<=9223372036854775807):∀a∈Hx X G,Lo a:=λa d=>by
 unfold Hx at d;split at d
 .rw [cF.1 d];exact⟨O,O⟩
 .obtain⟨x,f,rfl⟩:=eK.1 d;obtain⟨k,e⟩:=kX.1 f;have:=h k;rw [aK,e]at this;simp only [eN]at this;exact⟨O,O⟩
theorem Zra{a b d:Int}{t u:Rat}(f:AxC c ov)(e:0<G)(g:∀x∈Ph c a b d,G∣x)(h:t*(d:Rat)=(a:Rat)+(b:Rat)*u):Zj (Hx (Ph c a b d) G) u*(G:Rat)=(d:Rat)^5*Zj c t:=by grind [Yqm,Zgv]
theorem Ys0{fr d:Int}{g:Zv}(hi:Gin g)(hs:seB g=true)(hp:Hc fr d g=true)(hk:Zew fr d g=true)(hu:Ia q=Zw2 fr d g):Gin q/\seB q=true/\Prt q g (cG fr d g):=by
 have N:SgG g:=Nz hi hs;obtain⟨a1,a2,a3⟩:=Zx0 hs;obtain⟨z,B,F,H⟩:=Yne N hp;have M:=Zyu hi hs hp;obtain⟨g1,⟨n,S⟩,I⟩:=M.g;have l:0<cG fr d g:=g1;have s:∀x∈cX fr d g g.2.1.2,cG fr d g∣x:=I 0 O;have v:∀x∈cX fr d g g.2.2.1.2,cG fr d g∣x:=I 1 O;have w:∀x∈cX fr d g g.2.2.2.2,cG fr d g∣x:=I 2 O;have W:cG fr d g*n=cO g:=S.symm;have o:cO g/cG fr d g=n:=by grind [Int.mul_ediv_cancel_left]
 have e:cO g/cG fr d g<=4294967296:=bW hk;have V:0<cO g:=M.o;have a6:0<n:=by
  by_cases h:0<n
  .omega
  .have:=eY (dQ l) (show n<=0 by omega);omega
 have m:n*cG fr d g=g.1.2.2*(g.1.2.1-g.1.1)^5:=O4;obtain⟨x1,x2⟩:=Zzz a1 z B F H l s m;obtain⟨y1,y2⟩:=Zzz a2 z B F H l v m;obtain⟨z1,z2⟩:=Zzz a3 z B F H l w m;obtain⟨⟨qf,qt,qo⟩,⟨sx,qx⟩,⟨sy,qy⟩,⟨sz,qz⟩⟩:=q;unfold Ia Zw2 at hu;rw [mdO_t e,Zm2 e,Zm2 e,Zm2 e,o]at hu;injection hu with h1 h2;injection h1 with hf h1;injection h1 with ht D;injection h2 with hx h2;injection h2 with hy hz;dsimp only at hf ht D hx hy hz;subst hf ht hx hy hz;have D:=D.symm;subst D;have f:=λi (hi:i<3) k=>M.fit (i:=i) e hi k;have a4:=bW hp;have a7:=N.t1;have a8:=N.t3;have P:∀a∈Hx (cX fr d g g.2.1.2) (cG fr d g),Lo a:=Zyz (f 0 O);have Q:∀a∈Hx (cX fr d g g.2.2.1.2) (cG fr d g),Lo a:=Zyz (f 1 O);have R:∀a∈Hx (cX fr d g g.2.2.2.2) (cG fr d g),Lo a:=Zyz (f 2 O);have a5:n<=4294967296:=o▸e;have a0:0<=cA fr g/\cB d g<=3600000:=O;have i1:Lo (cA fr g):=⟨O,O⟩;have i2:Lo (cB d g):=⟨O,O⟩;have i3:Lo n:=⟨O,O⟩;refine⟨⟨i1,i2,i3,P,Q,R⟩,?_,⟨l,z,B,O,m,λi t u y=>?_⟩⟩
 .show Zaz (cA fr g) (cB d g) n _ _ _=true;unfold Zaz Yel;simp only [aY,dI];exact⟨⟨⟨⟨⟨⟨⟨⟨O,O⟩,O⟩,O⟩,O⟩,x1.to⟩,y1.to⟩,z1.to⟩,Yr9 V l s v w W⟩
 .have j:t*((g.1.2.1-g.1.1:Int):Rat)=((cA fr g-g.1.1:Int):Rat)+((cB d g-cA fr g:Int):Rat)*u:=y;clear y;have k0:=Zra a1 l s j;have k1:=Zra a2 l v j;have k2:=Zra a3 l w j;dsimp only;generalize Hx (cX fr d g g.2.1.2) (cG fr d g)=X at *;generalize Hx (cX fr d g g.2.2.1.2) (cG fr d g)=Y at *;generalize Hx (cX fr d g g.2.2.2.2) (cG fr d g)=Z at *;generalize ((cG fr d g:Int):Rat)=GG at *;generalize ((g.1.2.1-g.1.1:Int):Rat)^5=DD at *
  match i with
  | 0=>exact k0
  | 1=>exact k1
  | i+2=>exact k2
theorem cg_brS{n:Nat}(o:n<6)(u:c.length<=n+1){M:Int}(h:∀j,j<n+1->((Ho n c j).natAbs:Int)<=M*(Ot n j:Int))(k:Nat):((cf c k).natAbs:Int)<=80*M:=by
 have s:0<=M:=by have d:=h 0 O5;grind [Znv]
 by_cases t:k<n+1
 .rw [Qh]
  match n,o with
  | 0,_=>
   have d:=Qh.1 (h 0 O);rw [bre00,show(Ot 0 0:Int)=1 from rfl]at d;grind
  | 1,_=>
   have d:=Qh.1 (h 0 O);rw [bre10,show(Ot 1 0:Int)=1 from rfl]at d;have e:=Qh.1 (h 1 O);rw [bre11,show(Ot 1 1:Int)=1 from rfl]at e;grind
  | 2,_=>
   have d:=Qh.1 (h 0 O);rw [bre20,show(Ot 2 0:Int)=1 from rfl]at d;have e:=Qh.1 (h 1 O);rw [bre21,show(Ot 2 1:Int)=2 from rfl]at e;have f:=Qh.1 (h 2 O);rw [bre22,show(Ot 2 2:Int)=1 from rfl]at f;grind
  | 3,_=>
   have d:=Qh.1 (h 0 O);rw [bre30,show(Ot 3 0:Int)=1 from rfl]at d;have e:=Qh.1 (h 1 O);rw [bre31,show(Ot 3 1:Int)=3 from rfl]at e;have f:=Qh.1 (h 2 O);rw [bre32,show(Ot 3 2:Int)=3 from rfl]at f;have g:=Qh.1 (h 3 O);rw [bre33,show(Ot 3 3:Int)=1 from rfl]at g;grind
  | 4,_=>
   have d:=Qh.1 (h 0 O);rw [bre40,show(Ot 4 0:Int)=1 from rfl]at d;have e:=Qh.1 (h 1 O);rw [bre41,show(Ot 4 1:Int)=4 from rfl]at e;have f:=Qh.1 (h 2 O);rw [bre42,show(Ot 4 2:Int)=6 from rfl]at f;have g:=Qh.1 (h 3 O);rw [bre43,show(Ot 4 3:Int)=4 from rfl]at g;have l:=Qh.1 (h 4 O);rw [bre44,show(Ot 4 4:Int)=1 from rfl]at l;grind
  | 5,_=>
   have d:=Qh.1 (h 0 O);rw [bre50,show(Ot 5 0:Int)=1 from rfl]at d;have e:=Qh.1 (h 1 O);rw [bre51,show(Ot 5 1:Int)=5 from rfl]at e;have f:=Qh.1 (h 2 O);rw [bre52,show(Ot 5 2:Int)=10 from rfl]at f;have g:=Qh.1 (h 3 O);rw [bre53,show(Ot 5 3:Int)=10 from rfl]at g;have l:=Qh.1 (h 4 O);rw [bre54,show(Ot 5 4:Int)=5 from rfl]at l;have m:=Qh.1 (h 5 O);rw [bre55,show(Ot 5 5:Int)=1 from rfl]at m;grind
 grind [Yt]
theorem AxC.cg(h:AxC c ov)(k:Nat):((cf c k).natAbs:Int)<=83886080*ov:=by have e:=h.l;have:=cg_brS O O (λj d=>h.b j O) k;omega
theorem Ybk(c:List Int)(a:Int):∀k,plS c a 1 k=Yo (λk=>cf c k*a^k) k
 | 0=>rfl
 | k+1=>by show plS c a 1 k+plT c a 1 k=_;rw [Ys,Ybk c a k];congr 1;show c.getD k 0*(a^k*1^_)=cf c k*a^k;rw [Int.one_pow,fS];rfl
theorem Zpk(f:Nat->Int):∀n,((Yo f n:Int):Rat)=Gd (λi=>(f i:Rat)) n
 | 0=>rfl
 | n+1=>by rw [Ys,Mi,<-Zpk f n];push_cast;rfl
theorem Ykc(c:List Int)(a:Int):((pl c a 1:Int):Rat)=Zj c (a:Rat):=by
 unfold pl;rw [Ybk,Zpk]
 conv=>rhs;rw [<-Zej c]
 rw [Zko];exact Le _ λi hi=>by rw [<-Zf3];push_cast;rfl
theorem Prt.pl{g:Zv}(h:Prt q g G){a d:Int}(j:a*(g.1.2.1-g.1.1)=(q.1.1-g.1.1)+(q.1.2.1-q.1.1)*d)(i:Nat) :
  Sky.pl (Zt i q.2.1.2 q.2.2.1.2 q.2.2.2.2) d 1*G=Sky.pl (Zt i g.2.1.2 g.2.2.1.2 g.2.2.2.2) a 1*(g.1.2.1-g.1.1)^5:=by
 have e:=h.x i (a:Rat) (d:Rat) (by exact_mod_cast j);rw [<-Ykc,<-Ykc,<-Zf3]at e;have f:((Sky.pl (Zt i q.2.1.2 q.2.2.1.2 q.2.2.2.2) d 1*G:Int):Rat)=((Sky.pl (Zt i g.2.1.2 g.2.2.1.2 g.2.2.2.2) a 1*(g.1.2.1-g.1.1)^5:Int):Rat):=by rw [Rat.intCast_mul,Rat.intCast_mul,e,kM]
 exact_mod_cast f
structure Chn (ps:List Zv):Prop where
 lt:∀g∈ps,g.1.1<g.1.2.1
 eq:∀(i:Nat) (g h:Zv),ps[i]? = some g->ps[i+1]? = some h->g.1.2.1=h.1.1
def Chn.tail{g:Zv}(h:Chn (g::r)):Chn r:=⟨λx d=>h.lt x (bT _ d),λi x y d e=>h.eq _ x y d e⟩
theorem Chn.ge:∀{r:List Zv} {g:Zv},Chn (g::r)->∀x∈r,g.1.2.1<=x.1.1
 | [],_,_,_,d=>nomatch d
 | h::r,g,hc,x,d=>by
  have e:=hc.eq 0 g h rfl rfl;rcases bI.1 d with rfl|d
  .omega
  .have:=Chn.ge hc.tail x d;have:=hc.lt h O5;omega
theorem Zsb{fr l:Int} : ∀{ps:List Zv},Chn ps->∀(j:Nat) (f e:Zv),(ps.filter (Hc fr l))[j]? = some f->(ps.filter (Hc fr l))[j+1]? = some e->∃i:Nat,ps[i]? = some f/\ps[i+1]? = some e
 | [],_,j,f,e,h,_=>by simp at h
 | g::r,hc,j,f,e,h1,d=>by
  cases hp:Hc fr l g with
  | false=>
   rw [fQ (by rw [hp];exact dU)]at h1 d;obtain⟨i,a,b⟩:=Zsb hc.tail j f e h1 d;exact⟨i+1,a,b⟩
  | true=>
   rw [dY hp]at h1 d
   match j with
   | j+1=>
    obtain⟨i,a,b⟩:=Zsb hc.tail j f e h1 d;exact⟨i+1,a,b⟩
   | 0=>
    obtain rfl:g=f:=by simpa using h1
    have d:(r.filter (Hc fr l))[0]? = some e:=d;have s:e∈r.filter (Hc fr l):=jD d;obtain⟨k,m⟩:=gK.1 s
    match r,hc,d,k with
    | h::r,hc,d,k=>
     have u:=hc.eq 0 g h rfl rfl;have v:=hc.lt h O5;have t:=bW hp;have n:=bW m;have o:Hc fr l h=true:=by
      refine aH ?_;unfold cA cB at *;rcases bI.1 k with rfl|q
      .exact n
      .have:=Chn.ge hc.tail e q;omega
     rw [dY o]at d;obtain rfl:h=e:=by simpa using d
     exact⟨0,rfl,rfl⟩
theorem getD_some{α:Type}{l:List α}{x d:α}(h:l[i]? = some x):l.getD i d=x:=by rw [aK,h];rfl
theorem Zdd{ps:List Zv}(hi:∀g∈ps,Gin g)(o:Qg ps=true):Chn ps/\(∀g∈ps,seB g=true)/\∀(i:Nat) (g h:Zv),ps[i]? = some g->ps[i+1]? = some h->meG g h=true:=by
 obtain⟨n,s,t⟩:=Gq o;have k:∀g∈ps,seB g=true:=λg d=>by obtain⟨i,f,e⟩:=cN.1 d;have:=Zcb (n i f);rw [aK,aL f,eN,e]at this;exact this
 have j:∀(i:Nat) (g h:Zv),ps[i]? = some g->ps[i+1]? = some h->meG g h=true:=λi g h d l=>by have m:=(jR.1 l).1;have:=n (i+1) m;rw [Ziu (Zcb this) O,jM,getD_some d,getD_some l]at this;exact this
 refine⟨⟨λg d=>(Nz (hi g d) (k g d)).t2,λi g h d l=>?_⟩,k,j⟩;have:=j i g h d l;unfold meG Zm1 at this;rw [aY,iP]at this;exact this.1
theorem Ynd{fr f:Int} : ∀{ps:List Zv},Chn ps->ps≠[]->spF ps<=fr->fr<f->f<=spL ps->ps.filter (Hc fr f)≠[]
 | [],_,h,_,_,_=>absurd rfl h
 | g::r,hc,_,l,h2,d=>by
  have n:=hc.lt g O5;have l:g.1.1<=fr:=l;by_cases j:Hc fr f g=true
  .rw [dY j];exact List.cons_ne_nil _ _
  .have k:¬cA fr g<cB f g:=λh=>j (aH h);have e:g.1.2.1<=fr:=by unfold cA cB at k;omega
   rw [fQ j]
   match r,hc,d with
   | [],_,d=>
    have d:f<=g.1.2.1:=d;omega
   | h::r,hc,d=>
    have m:=hc.eq 0 g h rfl rfl;refine Ynd hc.tail (List.cons_ne_nil _ _) (by show h.1.1<=fr;omega) h2 ?_;have:spL (g::h::r)=spL (h::r):=by unfold spL;simp
    rw [<-this];exact d
theorem bl_dl{a b:Int}{n:Nat}(h:bl a.natAbs<=n):bl (a/b).natAbs<=n:=by rw [Qo]at h ⊢;exact aV (iI a b) h
theorem ps_Cm(a b:Int):PS.C (a*b)=PS.C a*PS.C b:=PS.ext' λi=>by rw [PS.C_mul_c];cases i<;>simp [PS.C]
theorem Yex(p:List Int)(k:Int):Pf (Zw p k) (Zw p k)=Zw (Pf p p) (k*k):=(Qk _ _).ps_inj (Ql _ _) (by rw [Zks,Zip,Zip,Zks,ps_Cm];grind)
theorem Yhj{c:Int}{n:Nat}(h:bl c.natAbs<=n):Sz n [c]:=Sz.of_mem λt d=>by rw [cF.1 d];exact h
theorem tf(b:Bool):b=false\/b=true:=by cases b<;>simp
theorem Ynm(h:Tr p)(d:p≠[]):(0:Rat)<(Yx p:Rat):=by have e:=Cv h d;have f:=Ns p;exact_mod_cast (show 0<Yx p by omega)
theorem Zo0(a b:Bool):a=false\/(a=true/\b=false)\/(a=true/\b=true):=by cases a<;>cases b<;>simp
theorem Prt.num{g:Zv}(h:Prt q g G):∃v s:Rat,0<=v/\0<s/\v+s<=1/\s*((g.1.2.1-g.1.1:Int):Rat)=((q.1.2.1-q.1.1:Int):Rat)/\v*((g.1.2.1-g.1.1:Int):Rat)=((q.1.1-g.1.1:Int):Rat)/\(0:Rat)<((g.1.2.1-g.1.1:Int):Rat)/\
  ∀i (u:Rat),Zj (Zt i q.2.1.2 q.2.2.1.2 q.2.2.2.2) u*(G:Rat)=((g.1.2.1-g.1.1:Int):Rat)^5*Zj (Zt i g.2.1.2 g.2.2.1.2 g.2.2.2.2) (v+s*u):=by
 have k:=h.a0;have l:=h.b0;have m:=h.ab;have o:=h.x;generalize g.1.2.1-g.1.1=d at *;generalize q.1.2.1-q.1.1=b at *;generalize q.1.1-g.1.1=a at *;have e:(0:Rat)<(d):=by exact_mod_cast (show 0<d by omega)
 have t:(0:Rat)<=(a):=by exact_mod_cast k
 have w:(0)<(b:Rat):=by exact_mod_cast l
 have n:(a:Rat)+(b)<=(d):=by exact_mod_cast m
 have hi:=eW.2 e;have f:(a:Rat)/d*d=a:=mE O4;have j:(b:Rat)/d*d=b:=mE O4;refine⟨(a)/d,(b)/d,?_,?_,?_,j,f,e,λi u=>o i _ u (by grind)⟩
 .grind [Rat.div_def,Rat.mul_nonneg,Rat.le_of_lt]
 .grind [Rat.div_def,Rat.mul_pos]
 .have:((a:Rat)/d+b/d)*d<=1*d:=O4;exact Rat.le_of_mul_le_mul_right this e
def Zzj{fr d:Int}{ps:List Zv}(h:Oq fr d ps=true):Zw3 fr d ps=0:=aP h
theorem Zzi{fr d:Int}{ps:List Zv}(h:Oq fr d ps=false):Zw3 fr d ps=7:=aJ O4
def lh_M{fr e:Int}{ps:List Zv}(hi:∀g∈ps,Gin g)(f:Qg ps=true):∀g∈ps,Hc fr e g=true->MdG fr e g:=λg d h=>Zyu (hi g d) ((Zdd hi f).2.1 g d) h
def inn(fr d:Int)(ps:List Zv):List Int:=(ps.filter λg=>decide (fr<g.1.1) && decide (g.1.1<d)).map λg=>g.1.1
theorem inn_t{fr d:Int}{ps:List Zv}{k:Nat}(g:k<ps.length)(e:fr<(ps.getD k G0).1.1)(f:(ps.getD k G0).1.1<d):inn fr d (ps.take (k+1))=inn fr d (ps.take k) ++ [(ps.getD k G0).1.1]:=by unfold inn;rw [Zlp (x:=ps.getD k G0) O4];grind
theorem inn_f{fr d:Int}{ps:List Zv}{k:Nat}(e:k<ps.length)(h:¬(fr<(ps.getD k G0).1.1/\(ps.getD k G0).1.1<d)):inn fr d (ps.take (k+1))=inn fr d (ps.take k):=by unfold inn;rw [Zlp (x:=ps.getD k G0) O4];grind
theorem Zrz(fr d:Int)(ps:List Zv):(inn fr d ps).length<=ps.length:=by unfold inn;grind
theorem Ybz{fr d:Int}{ps:List Zv} : x∈inn fr d ps↔∃g∈ps,g.1.1=x/\fr<x/\x<d:=by
 unfold inn;constructor
 .grind
 .rintro⟨g,h,rfl,e,f⟩;grind
def cmF(a b:List Zv):Int:=max (spF a) (spF b)
def cmL(a b:List Zv):Int:=min (spL a) (spL b)
def Zgg(a b:List Zv)(i:Nat):List Int:=cmF a b::cmL a b::((if 1<=i then inn (cmF a b) (cmL a b) a else []) ++ (if 2<=i then inn (cmF a b) (cmL a b) b else []))
def Lc(a b:List Zv):List Int:=Zt9 (Zgg a b 2)
def Co{α:Type _}(i:Nat)(a b:α):α:=if i=0 then a else b
theorem tms_s(h:i<2):Zgg a b (i+1)=Zgg a b i ++ inn (cmF a b) (cmL a b) (Co i a b):=by
 match i,h with
 | 0,_=>simp [Zgg,Co]
 | 1,_=>simp [Zgg,Co]
theorem Zan : x∈Lc a b↔x=cmF a b\/x=cmL a b\/(cmF a b<x/\x<cmL a b/\((∃g∈a,g.1.1=x)\/∃g∈b,g.1.1=x)):=by
 unfold Lc;rw [Zmz];show x∈cmF a b::cmL a b::(inn _ _ a ++ inn _ _ b)↔_;rw [bI,bI,cW,Ybz,Ybz];constructor
 .rintro(h|h|⟨g,d,e,f,j⟩|⟨g,d,e,f,j⟩)
  .exact .inl h
  .exact .inr (.inl h)
  .exact .inr (.inr ⟨f,j,.inl ⟨g,d,e⟩⟩)
  .exact .inr (.inr ⟨f,j,.inr ⟨g,d,e⟩⟩)
 .rintro(h|h|⟨f,j,⟨g,d,e⟩|⟨g,d,e⟩⟩)
  .exact .inl h
  .exact .inr (.inl h)
  .exact .inr (.inr (.inl ⟨g,d,e,f,j⟩))
  .exact .inr (.inr (.inr ⟨g,d,e,f,j⟩))
def Ydv(a b:List Zv):Sst (Lc a b) (Lc a b).length:=Yag (Znc _)
theorem Zv1(x:Int):∀l:List Int,(Znb x l).length<=l.length+1
 | []=>aF _
 | y::l=>by have:=Zv1 x l;unfold Znb;grind
theorem Zvy:∀l:List Int,(Zt9 l).length<=l.length
 | []=>aF _
 | x::l=>by have:=Zvy l;have:=Zv1 x (Zt9 l);show(Znb x (Zt9 l)).length<=_;simp only [bX];omega
theorem Zry(a b:List Zv)(i:Nat):(Zgg a b i).length<=2+a.length+b.length:=by have d:=Zrz (cmF a b) (cmL a b) a;have e:=Zrz (cmF a b) (cmL a b) b;unfold Zgg;split<;>split<;>simp<;>omega
theorem Zr0(a b:List Zv):(Lc a b).length<=2+a.length+b.length:=aB (Zvy _) (Zry a b 2)
structure Bks (a b:List Zv):Prop where
 two:2<=(Lc a b).length
 hd:(Lc a b).getD 0 0=cmF a b
 ls:(Lc a b).getD ((Lc a b).length-1) 0=cmL a b
 lt:∀k,k+1<(Lc a b).length->cmF a b<=(Lc a b).getD k 0/\(Lc a b).getD k 0<(Lc a b).getD (k+1) 0/\(Lc a b).getD (k+1) 0<=cmL a b
 no:∀k,k+1<(Lc a b).length->∀g,g∈a\/g∈b->¬((Lc a b).getD k 0<g.1.1/\g.1.1<(Lc a b).getD (k+1) 0)
theorem bks (a:List Zv)(b:List Zv)(h:cmF a b<cmL a b):Bks a b:=by
 have hs:=Ydv a b;have s:cmF a b∈Lc a b:=Zan.2 (.inl rfl);have t:cmL a b∈Lc a b:=Zan.2 (.inr (.inl rfl));have l:∀x∈Lc a b,cmF a b<=x/\x<=cmL a b:=λx y=>by rcases Zan.1 y with f|f|⟨f,o,_⟩<;>omega
 obtain⟨i,hi,B⟩:=Fh.1 s;obtain⟨j,M,D⟩:=Fh.1 t;have n:2<=(Lc a b).length:=by grind
 have u:(Lc a b).getD 0 0=cmF a b:=by
  by_cases e:i=0
  .grind
  .have f:=hs 0 i O hi;grind [Zd]
 have z:(Lc a b).getD ((Lc a b).length-1) 0=cmL a b:=by
  by_cases e:j=(Lc a b).length-1
  .grind
  .have f:=hs j ((Lc a b).length-1) O O;grind [Zd]
 refine⟨n,u,z,λk m=>⟨(l _ (Zd O)).1,hs k (k+1) O5 m,(l _ (Zd m)).2⟩,λk m g I H=>?_⟩;have f:=(l _ (Zd (i:=k) (d:=0) O)).1;have o:=(l _ (Zd (i:=k+1) (d:=0) m)).2;have v:g.1.1∈Lc a b:=Zan.2 (.inr (.inr ⟨O,O,by grind⟩))
 obtain⟨q,w,F⟩:=Fh.1 v;rcases jZ q k with c|c|c
 .have:=hs q k c O;omega
 .grind
 .rcases jZ q (k+1)with d|d|d
  .omega
  .grind
  .have:=hs (k+1) q d w;omega
theorem Yc9{fr d:Int}{g:Zv}(h:Hc fr d g=true):fr<g.1.2.1/\g.1.1<d:=by unfold Hc cA cB at h;grind
theorem Yc8{fr d:Int}{ps:List Zv}(f:Chn ps)(h:ps≠[])(m:spF ps<=fr)(n:fr<d)(o:d<=spL ps)(t:∀g∈ps,¬(fr<g.1.1/\g.1.1<d)):(ps.filter (Hc fr d)).length=1:=by
 have s:=Ynd f h m n o;have j:=aI.2 s;rcases bA 1 (ps.filter _).length with e|e
 .have k:=aL j;have l:=aL e;obtain⟨i,f1,f2⟩:=Zsb f 0 _ _ k l;have u:=(gK.1 (jA j)).2;have v:=(gK.1 (jA e)).2;have z:=f.eq i _ _ f1 f2;have w:=Yc9 u;have y:=Yc9 v;grind
 omega
def Zhw(ts:List Int)(ps:List Zv):Nat->List Zco
 | 0=>[]
 | n+1=>Zhw ts ps n ++ Zdp (ts.getD n 0) (ts.getD (n+1) 0) ps
def Bc(ts:List Int)(a b:List Zv):Nat->Bool
 | 0=>true
 | n+1=>Bc ts a b n && (Oq (ts.getD n 0) (ts.getD (n+1) 0) a && Oq (ts.getD n 0) (ts.getD (n+1) 0) b)
def Ygf(a b:List Zv):Bool:=Bc (Lc a b) a b ((Lc a b).length-1)
def Dk(a b:List Zv):Int:=if cmF a b>=cmL a b then 9 else if Ygf a b then 0 else 7
def Lr(a b ps:List Zv):List Zco:=if Dk a b=0 then Zhw (Lc a b) ps ((Lc a b).length-1)else []
theorem Zw7{ts:List Int}{a b:List Zv} : ∀{n m:Nat},n<=m->Bc ts a b m=true->Bc ts a b n=true
 | n,0,h,e=>O4
 | n,m+1,h,e=>by
  rcases bA m n with d|d
  .grind
  .refine Zw7 d ?_;have:Bc ts a b (m+1)=(Bc ts a b m && (Oq _ _ a && Oq _ _ b)):=rfl;grind
def tik(a b:List Zv)(i k:Nat):List Int:=Zgg a b i ++ inn (cmF a b) (cmL a b) ((Co i a b).take k)
theorem tik_0(a b:List Zv)(i:Nat):tik a b i 0=Zgg a b i:=by exact eU _
theorem tik_t{k:Nat}(f:k<(Co i a b).length)(d:cmF a b<((Co i a b).getD k G0).1.1)(e:((Co i a b).getD k G0).1.1<cmL a b):tik a b i (k+1)=tik a b i k ++ [((Co i a b).getD k G0).1.1]:=by unfold tik;grind [inn_t,List.append_assoc]
theorem tik_f{k:Nat}(d:k<(Co i a b).length)(h:¬(cmF a b<((Co i a b).getD k G0).1.1/\((Co i a b).getD k G0).1.1<cmL a b)):tik a b i (k+1)=tik a b i k:=by unfold tik;grind [inn_f]
theorem tik_e(hi:i<2):tik a b i (Co i a b).length=Zgg a b (i+1):=by unfold tik;rw [bS,tms_s hi]
theorem Zvz(a b:List Zv)(i:Nat):(Co i a b).length<=a.length+b.length:=by unfold Co;split<;>omega
theorem Yrq(a b:List Zv)(i k:Nat):(tik a b i k).length<=2+2*(a.length+b.length):=by have d:=Zry a b i;have e:=Zrz (cmF a b) (cmL a b) ((Co i a b).take k);have f:=Zvz a b i;unfold tik;grind
def tms_ne(a b:List Zv)(i:Nat):Zgg a b i≠[]:=λh=>nomatch h
theorem tms_2(a b:List Zv)(i:Nat):2<=(Zgg a b i).length:=by unfold Zgg;simp
section
variable {P:Program} {N:Nat} {sc:Nat->Prop} {env:Px} {H:Hp}
theorem Yp8{g l sd:SL}(i j k n:Nat)(m:lk H j=some (Xv 6 Qv qG (Xd g) a))(o:lk H k=some (Xv 6 Qv qG (Xd l) b))(d:Nat.beq j 0=false)(e:Nat.beq k 0=false)(hi:i<2) :
  ∀f w,Sat N sc env H f w->Sat N sc env ((n,Xv 6 Qv qG (Xd ([g,l].getD i sd)) (Co i a b))::H) f w:=by
 match i,hi with
 | 0,_=>exact Zbd j n m d rfl (λ_ h=>h) (λ_ h=>h) rfl
 | 1,_=>exact Zbd k n o e rfl (λ_ h=>h) (λ_ h=>h) rfl
end
theorem Zp6(h:cmF a b>=cmL a b)(ps:List Zv):Dk a b=9/\Lr a b ps=[]:=by have e:Dk a b=9:=aP h;exact⟨e,by unfold Lr;grind⟩
theorem Zcs(h:¬cmF a b>=cmL a b){n:Nat}(j:n+1<(Lc a b).length)(g:(Oq ((Lc a b).getD n 0) ((Lc a b).getD (n+1) 0) a && Oq ((Lc a b).getD n 0) ((Lc a b).getD (n+1) 0) b)=false)(ps:List Zv):Dk a b=7/\Lr a b ps=[]:=by
 have k:Ygf a b=false:=by
  cases hk:Ygf a b with
  | false=>rfl
  | true=>
   have d:=Zw7 (n:=n+1) O hk;have f:Bc _ a b (n+1)=(Bc (Lc a b) a b n && (Oq _ _ a && Oq _ _ b)):=rfl;grind
 have e:Dk a b=7:=by unfold Dk;grind
 exact⟨e,by unfold Lr;grind⟩
theorem Zp7(h:¬cmF a b>=cmL a b){n:Nat}(f:n+1=(Lc a b).length)(d:Bc (Lc a b) a b n=true):Dk a b=0/\∀ps,Lr a b ps=Zhw (Lc a b) ps n:=by
 have k:Ygf a b=true:=by unfold Ygf;grind
 have e:Dk a b=0:=by unfold Dk;grind
 exact⟨e,λps=>by unfold Lr;grind⟩
theorem com_k{n:Nat}(h:Bc (Lc a b) a b n=true)(d:Oq ((Lc a b).getD n 0) ((Lc a b).getD (n+1) 0) a=true)(e:Oq ((Lc a b).getD n 0) ((Lc a b).getD (n+1) 0) b=true):Bc (Lc a b) a b (n+1)=true:=by show(Bc _ a b n && (_ && _))=true;grind
theorem Ydd{ps zs:List Zv}{n:Nat}(h:zs.map Ia=Zhw ts ps n)(d:us.map Ia=Zdp (ts.getD n 0) (ts.getD (n+1) 0) ps):(zs ++ us).map Ia=Zhw ts ps (n+1):=by rw [cI,h,d];rfl
theorem com_u{ps:List Zv}{fr d:Int}(hi:∀g∈ps,Gin g)(j:Qg ps=true)(k:spF ps<=fr)(l:fr<d)(m:d<=spL ps)(f:∀g∈ps,¬(fr<g.1.1/\g.1.1<d))(s:Oq fr d ps=true)(n:us.map Ia=Zdp fr d ps):us.length=1:=by have t:=(Gq j).2.1;have o:=Yc8 (Zdd hi j).1 (λe=>O4) k l m f;have h:=aD List.length n;rw [aW]at h;rw [h];unfold Zdp;grind
theorem Yno{n:Nat}(hi:∀g∈a,Gin g)(j:Qg a=true)(B:Bks a b)(d:n+1<(Lc a b).length)(k:Oq ((Lc a b).getD n 0) ((Lc a b).getD (n+1) 0) a=true)(m:us.map Ia=Zdp ((Lc a b).getD n 0) ((Lc a b).getD (n+1) 0) a):us.length=1:=by obtain⟨e,f,h⟩:=B.lt n d;unfold cmF at e;unfold cmL at h;exact com_u hi j O f O (λg l=>B.no n d g (.inl l)) k m
theorem Ynn{n:Nat}(hi:∀g∈b,Gin g)(j:Qg b=true)(B:Bks a b)(d:n+1<(Lc a b).length)(k:Oq ((Lc a b).getD n 0) ((Lc a b).getD (n+1) 0) b=true)(m:us.map Ia=Zdp ((Lc a b).getD n 0) ((Lc a b).getD (n+1) 0) b):us.length=1:=by obtain⟨e,f,h⟩:=B.lt n d;unfold cmF at e;unfold cmL at h;exact com_u hi j O f O (λg l=>B.no n d g (.inr l)) k m
def Zjc{a b:Bool}(h:a=false):(a && b)=false:=O4
def Zjb{a b:Bool}(h:b=false):(a && b)=false:=O4
end Go.Sky
namespace Go.Sky
variable{o:Oper}{x y:Operand}{t:TypeId}{i M:Nat}{kd:IntKind}{c p q ns:List Int}{f:Nat->List Int}
section
variable {P:Program} {N:Nat} {sc:Nat->Prop} {env:Px} {H:Hp}
theorem d_ix4   {e:TypeId}   {m d g h n3:Int} (r:o.op= .index t x y) (u:ev env x=some (.agg #[.int .i64 d,.int .i64 g,.int .i64 h,.int .i64 n3])) (v:ev env y=some (.int kd m))
  (s:P.underlying t=some (.array 4 e)) (l:∀w,(sizeOf e).run P w= .ok 1 w) (k:∀w,(isAgg e).run P w= .ok false w) (b:m=(i:Int)) (n:i<4):Mr P N sc o env H (.int .i64 ([d,g,h,n3].getD i 0)):=λa w hs=>by
 subst b;have j:i=0\/i=1\/i=2\/i=3:=O;rcases j with rfl|rfl|rfl|rfl<;>simp [execOp,r,hs.ev u,hs.ev v,Instr.index,asIntOf,run_underlying s,l,k,asAgg,part]
theorem d_ix9   {e:TypeId}   {m d g h:Int} {n r s j k l:Value} (D:o.op= .index t x y) (G:ev env x=some (.agg #[n,j,.int .i64 d,r,k,.int .i64 g,s,l,.int .i64 h])) (I:ev env y=some (.int kd m))
  (F:P.underlying t=some (.array 3 e)) (z:∀w,(sizeOf e).run P w= .ok 3 w) (v:∀w,(isAgg e).run P w= .ok true w) (b:m=(i:Int)) (B:i<3):Mr P N sc o env H (.agg #[Zt i n r s,Zt i j k l,.int .i64 (Zt i d g h)]):=λa w hs=>by
 subst b;have u:i=0\/i=1\/i=2:=O;rcases u with rfl|rfl|rfl<;>simp [execOp,D,hs.ev G,hs.ev I,Instr.index,asIntOf,run_underlying F,z,v,asAgg,part,Zt]
end
def KA:Nat:=360287970189639680
theorem AxC.ka{a:Int}(h:AxC c a)(b:1<=a)(d:a<=4294967296):Ab KA (tzl c):=λk=>by have:=h.cg k;rw [Lg];unfold KA;omega
def BG:Nat:=2^250*2^250
def bl_two{a b x:Nat}(h:x<2^a*2^b):bl x<=a+b:=(Qo _ x).2 O4
theorem Zxd{x:Nat}(h:x<BG):bl x<=500:=bl_two h
def Ab.sg(h:Ab M p)(a:M<BG):Sz 500 p:=λi=>Zxd (aV (h i) a)
theorem Hr(h:Ab M p)(a:M<BG)(d:Tr p)(b:p.length<=25):Vp p:=⟨(h.sg a).mono O,d,b⟩
theorem Zuk{c:Int}(h:Ab M p)(b:M*c.natAbs<BG)(i:Nat):bl (cf p i*c).natAbs<=65536:=by have a:=Dg h c i;grind [Ym,Nat.le_trans,Zxd,Nat.lt_of_le_of_lt]
theorem ad_ab{K:Nat}(h:Ab M p)(d:Ab K q)(e:M+K<BG)(i:Nat):bl (cf p i+cf q i).natAbs<=65536/\bl (cf p i-cf q i).natAbs<=65536:=by have a:=h i;have b:=d i;grind [Nat.le_trans,Zxd,Nat.lt_of_le_of_lt]
theorem mf_ab(h:Ab M p)(b:M<BG)(d:p.length<=11):¬Zam p p:=λa=>by have m:=Qu (h.sg b);rcases a.2.2 with w|w<;>omega
def dfP(p q:List Int)(a b:Int):List Int:=Bf (Zw (tzl p) b) (Zw (tzl q) a)
def dfK(p q:List Int)(a b k:Int):List Int:=Zw (dfP p q a b) k
def sqK(p q:List Int)(a b k:Int):List Int:=Pf (dfK p q a b k) (dfK p q a b k)
def sqP(p q:List Int)(a b:Int):List Int:=Pf (dfP p q a b) (dfP p q a b)
def KD:Nat:=KA*4294967296+KA*4294967296
structure FmX (p q:List Int) (a b k:Int):Prop where
 v1:Vp (tzl p)
 v2:Vp (tzl q)
 b1:bl b.natAbs<=65536
 a1:bl a.natAbs<=65536
 k1:bl k.natAbs<=65536
 s1:∀i,bl (cf (tzl p) i*b).natAbs<=65536
 s2:∀i,bl (cf (tzl q) i*a).natAbs<=65536
 v3:Vp (Zw (tzl p) b)
 v4:Vp (Zw (tzl q) a)
 s3:∀i,bl (cf (Zw (tzl p) b) i-cf (Zw (tzl q) a) i).natAbs<=65536
 v5:Vp (dfP p q a b)
 s4:∀i,bl (cf (dfP p q a b) i*k).natAbs<=65536
 v6:Vp (dfK p q a b k)
 m6:¬Zam (dfK p q a b k) (dfK p q a b k)
 v7:Vp (sqK p q a b k)
 ab:Ab (6*((KD*100)*(KD*100))) (sqK p q a b k)
 l:(sqK p q a b k).length<=11
 m5:¬Zam (dfP p q a b) (dfP p q a b)
 v8:Vp (sqP p q a b)
 ab8:Ab (6*((KD*100)*(KD*100))) (sqP p q a b)
 l8:(sqP p q a b).length<=11
theorem fmX{a b k:Int}(l:Ab KA (tzl p))(m:Ab KA (tzl q))(lp:p.length<=6)(S:q.length<=6)(B:1<=a/\a<=4294967296)(D:1<=b/\b<=4294967296)(V:1<=k/\k<=100):FmX p q a b k:=by
 have r:=aB (Mg p) lp;have s:=aB (Mg q) S;have u:Ab (KA*4294967296) _:=(Dg l b).mono (aZ _ O);have v:Ab (KA*4294967296) _:=(Dg m a).mono (aZ _ O);have d:Ab KD _:=Zz1 u v;have e:Ab (KD*100) _:=(Dg d k).mono (aZ _ O);have j:Ab (KD*100) _:=d.mono O;have l3:(Zw (tzl p) b).length<=6:=aB (Pz _ _) r;have R:(Zw (tzl q) a).length<=6:=aB (Pz _ _) s;have g:(dfP p q a b).length<=6:=Zr1 _ l3 R;have n:(dfK p q a b k).length<=6:=aB (Pz _ _) g;have t5:Tr (dfP p q a b):=Xy _;have t6:Tr (dfK p q a b k):=Xy _;have w:=Yor e e n;have z:=Yor j j g;have F:=Yb6 t6 t6 n n;have G:=Yb6 t5 t5 g g;have h:∀c:Int,1<=c/\c<=4294967296->bl c.natAbs<=65536:=λc Q=>aB ((Qo 40 _).2 O) O;have I:∀c:Int,1<=c/\c<=4294967296->KA*c.natAbs<BG:=λc Q=>aV (aZ KA (by omega:c.natAbs<=4294967296)) O3;exact⟨Hr l O3 (Xy _) O,Hr m O3 (Xy _) O,h b D,h a B,h k O,Zuk l (I b D),Zuk m (I a B),
  Hr u O3 (Xy _) O,Hr v O3 (Xy _) O,λi=>(ad_ab u v O3 i).2,Hr d O3 t5 O,
  Zuk d (aV (aZ KD (by omega:k.natAbs<=100)) O3),Hr e O3 t6 O,mf_ab e O3 O,Hr w O3 (Qk _ _) (by have:(sqK p q a b k).length<=_:=F;omega),w,F,
  mf_ab j O3 O,Hr z O3 (Qk _ _) (by have:(sqP p q a b).length<=_:=G;omega),z,G⟩
def ngC(ns:List Int):Nat->List Int
 | 0=>[-1]
 | i+1=>Zw (Zw (ngC ns i) (ns.getD i 0)) (ns.getD i 0)
def sqN(ns:List Int):Nat->Nat
 | 0=>1
 | i+1=>sqN ns i*(ns.getD i 0).natAbs*(ns.getD i 0).natAbs
theorem Zms(ns:List Int):∀i,Ab (sqN ns i) (ngC ns i)/\(ngC ns i).length<=1/\Tr (ngC ns i)
 | 0=>⟨λi=>by
   match i with
   | 0=>show(cf [-1] 0).natAbs<=1;decide
   | i+1=>show(cf [-1] _).natAbs<=1;grind [Yt],Nat.le_refl _,show Tr [-1]from .inr O3⟩
 | i+1=>by obtain⟨a,b,d⟩:=Zms ns i;exact⟨Dg (Dg a _) _,aB (Pz _ _) (aB (Pz _ _) b),Xy _⟩
theorem Yhz{ns:List Int}{B:Nat}(h:∀i,(ns.getD i 0).natAbs<=B):∀i,sqN ns i<=(B*B)^i
 | 0=>aF _
 | i+1=>by rw [cH,<-eC];exact aQ (aQ (Yhz h i) (h i)) (h i)
structure NgX (ns:List Int) (i:Nat):Prop where
 b:bl (ns.getD i 0).natAbs<=65536
 inn:Lo (ns.getD i 0)
 v:Vp (ngC ns i)
 s:∀k,bl (cf (ngC ns i) k*ns.getD i 0).natAbs<=65536
 v2:Vp (Zw (ngC ns i) (ns.getD i 0))
 s2:∀k,bl (cf (Zw (ngC ns i) (ns.getD i 0)) k*ns.getD i 0).natAbs<=65536
theorem ngX(h:∀i,(ns.getD i 0).natAbs<=4294967296)(hi:i<=4):NgX ns i:=by obtain⟨j,n,k⟩:=Zms ns i;have e:=Yhz h i;have g:(4294967296*4294967296)^i<=(4294967296*4294967296)^4:=cY O hi;have a:=j.mono (aB e g);have b:=h i;have d:=(Dg a _).mono (aZ _ b);have l:(4294967296*4294967296)^4*(ns.getD i 0).natAbs<BG:=aV (aZ _ b) O3;have m:(4294967296*4294967296)^4*4294967296*(ns.getD i 0).natAbs<BG:=aV (aZ _ b) O3;exact⟨aB ((Qo 40 _).2 O) O,⟨O,O⟩,Hr a O3 k O,Zuk a l,Hr d O3 (Xy _) (aB (Pz _ _) O),Zuk d m⟩
def smP(c:List Int)(f:Nat->List Int):Nat->List Int
 | 0=>c
 | i+1=>Gy (smP c f i) (f i)
theorem Yh6{c:List Int}{f:Nat->List Int}{C F:Nat}(a:Ab C c)(d:c.length<=11)(g:Tr c)(b:∀i,Ab F (f i))(e:∀i,(f i).length<=11):∀i,Ab (C+i*F) (smP c f i)/\(smP c f i).length<=11/\Tr (smP c f i)
 | 0=>⟨by rw [fW];exact a,d,g⟩
 | i+1=>by obtain⟨h,j,k⟩:=Yh6 a d g b e i;exact⟨by rw [dR,<-gM];exact Zod h (b i),Zhg j (e i),Xy _⟩
structure SmX (c:List Int) (f:Nat->List Int):Prop where
 v:∀i,i<=3->Vp (smP c f i)
 s:∀i,i<3->∀k,bl (cf (smP c f i) k+cf (f i) k).natAbs<=65536
 d:Cvd (Yf (smP c f 3))
theorem smX(l:Ab (2^190) c)(r:c.length<=1)(n:Tr c)(h:∀i,Ab (6*((KD*100)*(KD*100))) (f i))(m:∀i,(f i).length<=11):SmX c f:=by
 have a:=Yh6 l O n h m;have d:∀i,i<=3->2^190+i*(6*((KD*100)*(KD*100)))<2^205:=λi hi=>aV (Nat.add_le_add_left (aM _ hi) _) O3;have e:(2)^205<BG:=O3;refine⟨λi hi=>?_,λi hi k=>?_,?_⟩
 .grind [Hr,Nat.lt_trans]
 .obtain⟨b,j,g⟩:=a i;refine(ad_ab b (h i) ?_ k).1;have:=d _ hi;grind
 .obtain⟨b,j,g⟩:=a 3;have hs:=b.sz (d 3 (aF _));exact⟨Lu (Hr b (fI (d 3 (aF _)) e) g O),Hz hs,by simp_all [Yi]⟩
end Go.Sky
namespace Go.Sky
variable{a0 a1 a2 v:Value}{m D d ov:Int}{x y z xs:List Int}{a b ys:List Zv}
theorem fill33{k l n o p q r s t c e f g h j:Value}:Instr.fill (λi=>some (i*3,3)) #[k,l,n,o,p,q,r,s,t] [(0,.agg #[a0,a1,a2]),(1,.agg #[c,e,f]),(2,.agg #[g,h,j])]=some #[a0,a1,a2,c,e,f,g,h,j]:=by simp [Instr.fill,Value.cells]
theorem Zp0{c e f:Value}:Instr.fill (λi=>some (i*3,3)) ((List.range (1*3)).map ((Value.agg #[c,e,f]).cells[· % (Value.agg #[c,e,f]).cells.size]!)).toArray [(0,.agg #[a0,a1,a2])]=some #[a0,a1,a2]:=by rfl
def Zyy(m:Int)(l:List Int):Bool:=l.all λx=>decide (-m<=x) && decide (x<=m)
theorem insB_t{l:List Int}(h:∀i,i<l.length->-m<=l.getD i 0/\l.getD i 0<=m):Zyy m l=true:=bK.2 λx c=>by grind [Fh,decide_eq_true]
theorem Ylv (i:Nat){l:List Int}(hi:i<l.length)(h:¬(-m<=l.getD i 0/\l.getD i 0<=m)):Zyy m l=false:=by
 cases hb:Zyy m l with
 | false=>rfl
 | true=>
  have:=bK.1 hb _ (Zd (d:=0) hi);grind
def ptB(x y z:Int):Bool:=Zyy 1048576 [x,y,z]
theorem pt_b{x y z:Int}(h:ptB x y z=true):(-1048576<=x/\x<=1048576)/\(-1048576<=y/\y<=1048576)/\(-1048576<=z/\z<=1048576):=by unfold ptB Zyy at h;grind
def znB(D n d:Int):Bool:=decide (1<=D/\D<=4194304/\1<=n/\n<=d/\d<=100)
def zn_b{n:Int}(h:znB D n d=true):1<=D/\D<=4194304/\1<=n/\n<=d/\d<=100:=bW h
theorem Zj3 (x:Int)(y:Int)(A:Nat)(B:Nat)(c:x.natAbs<=A)(e:y.natAbs<=B):(x*y).natAbs<=A*B:=by simp_all [cE,aQ]
def fqZ(n d ov c:Int)(x y z e f g:List Int)(i:Nat):List Int:=sqK (Zt i x y z) (Zt i e f g) ov c (Zt i d d n)
def cnZ(D d ov c:Int):List Int:=ngC [D,d,ov,c] 4
def smZ(D n d ov c:Int)(x y z e f g:List Int)(i:Nat):List Int:=smP (cnZ D d ov c) (fqZ n d ov c x y z e f g) i
def fmZ(D n d ov c:Int)(x y z e f g:List Int):List Int:=Yf (smZ D n d ov c x y z e f g 3)
structure FzX (D n d ov ov2:Int) (x y z x2 y2 z2:List Int):Prop where
 X:∀i,FmX (Zt i x y z) (Zt i x2 y2 z2) ov ov2 (Zt i d d n)
 K:∀i,Lo (Zt i d d n)
 N:∀i,i<=4->NgX [D,d,ov,ov2] i
 Q:SmX (cnZ D d ov ov2) (fqZ n d ov ov2 x y z x2 y2 z2)
theorem Gx{fr k:Int}(h:Zaz fr k ov x y z=true)(i:Nat):Ab KA (tzl (Zt i x y z)):=by unfold Zaz Yel at h;simp only [aY,dI]at h;obtain⟨⟨⟨⟨⟨⟨⟨⟨a1,a2⟩,n⟩,c⟩,e⟩,f⟩,g⟩,j⟩,-⟩:=h;exact Ep (p:=λl=>Ab KA _) ((AxC.of f).ka c e) ((AxC.of g).ka c e) ((AxC.of j).ka c e)
theorem fzX{fr P f l c n:Int}{o q r:List Int}(h:Sgo fr P ov x y z)(e:Sgo f l c o q r)(B:∀i,Ab KA (tzl (Zt i x y z)))(g:∀i,Ab KA (tzl (Zt i o q r)))(G:znB D n d=true):FzX D n d ov c x y z o q r:=by
 obtain⟨R,Q,S,V,W⟩:=zn_b G;have H:=h.o1;have I:=h.o2;have M:=e.o1;have N:=e.o2;have u:∀i,1<=Zt i d d n/\Zt i d d n<=100:=λi=>Ep (p:=λk=>1<=k/\k<=100) ⟨O,O⟩ ⟨O,O⟩ ⟨O,O⟩;have j:=λi=>fmX (B i) (g i) (h.lc i).2 (e.lc i).2 ⟨H,I⟩ ⟨M,N⟩ (u i);have F:∀i,([D,d,ov,c].getD i 0).natAbs<=4294967296:=λi=>by
  match i with
  | 0=>grind
  | 1=>grind
  | 2=>grind
  | 3=>grind
  | i+4=>simp
 refine⟨j,λi=>?_,λi hi=>ngX F hi,?_⟩
 .obtain⟨s,t⟩:=u i;exact⟨O,O⟩
 .obtain⟨s,t,w⟩:=Zms _ 4;refine smX (s.mono ?_) t w (λi=>(j i).ab) (λi=>(j i).l);refine aB (aQ (aQ (aQ (aQ (aQ (aQ (aQ (aQ (aF 1) (show D.natAbs<=4194304 by omega)) (show D.natAbs<=4194304 by omega)) (show d.natAbs<=100 by omega)) (show d.natAbs<=100 by omega)) (show ov.natAbs<=4294967296 by omega)) (show ov.natAbs<=4294967296 by omega)) (show c.natAbs<=4294967296 by omega)) (show c.natAbs<=4294967296 by omega)) O
theorem Yce{n c:Int}{e f g:List Int}(h:FzX D n d ov c x y z e f g):Cvd (fmZ D n d ov c x y z e f g):=by exact h.Q.d
theorem tzlm1:(if 25<(tzl [(-1:Int)]).length then []else tzl [-1])=[-1]:=by rfl
abbrev GpT:=(Int×Int)×(SL×List Int)
abbrev Ih (g:GpT):Value:= .agg #[.int .i64 g.1.1,.int .i64 g.1.2,Xd g.2.1]
abbrev qGp (g:GpT):Pc:=Yl 2 wv (Xd g.2.1) g.2.2
abbrev Gp0:GpT:=((0,0),((none,0,0),[]))
abbrev GpU:=Int×Int×List Int
def unP(g:GpT):GpU:=(g.1.1,g.1.2,g.2.2)
def gpZ(D n d:Int)(g h:Zco):GpU:=(g.1.1,g.1.2.1,fmZ D n d g.1.2.2 h.1.2.2 g.2.1 g.2.2.1 g.2.2.2 h.2.1 h.2.2.1 h.2.2.2)
def Ie(D n d:Int)(a b:List Zv):List GpU:=List.zipWith (gpZ D n d) (Lr a b a) (Lr a b b)
def Bi(a b:List Zv):Int:=if Dk a b=9 then 0 else Dk a b
def Zzl(h:Dk a b≠0)(ps:List Zv):Lr a b ps=[]:=aJ h
theorem Zr6{n:Int}(h:Dk a b≠0):Ie D n d a b=[]:=by unfold Ie;simp_all [Zzl]
theorem Zm7{ts:List Int}{a b ps:List Zv}(c:∀k,Oq (ts.getD k 0) (ts.getD (k+1) 0) a=true->Oq (ts.getD k 0) (ts.getD (k+1) 0) b=true->k+1<ts.length->(Zdp (ts.getD k 0) (ts.getD (k+1) 0) ps).length=1):∀n,n+1<=ts.length->Bc ts a b n=true->(Zhw ts ps n).length=n
 | 0,_,_=>rfl
 | n+1,g,e=>by have f:Bc ts a b (n+1)=(Bc ts a b n && (Oq _ _ a && Oq _ _ b)):=rfl;rw [f,aY,aY]at e;show(Zhw ts ps n ++ Zdp _ _ ps).length=_;rw [aO,Zm7 c n O e.1,c n e.2.1 e.2.2 O]
theorem Ynh{ps:List Zv}{fr c:Int}(hi:∀g∈ps,Gin g)(h:Qg ps=true)(i:spF ps<=fr)(j:fr<c)(k:c<=spL ps)(f:∀g∈ps,¬(fr<g.1.1/\g.1.1<c))(l:Oq fr c ps=true):(Zdp fr c ps).length=1:=by have n:=(Gq h).2.1;unfold Zdp;rw [aP l,aW,Yc8 (Zdd hi h).1 (λe=>O4) i j k f]
theorem Zzm(a b:List Zv):Dk a b=9\/Dk a b=0\/Dk a b=7:=by unfold Dk;omega
theorem comE_0(h:Dk a b=0):¬cmF a b>=cmL a b/\Ygf a b=true:=by unfold Dk at h;grind
theorem Zhv(p:∀g∈a,Gin g)(q:∀g∈b,Gin g)(l:Qg a=true)(n:Qg b=true):(Lr a b a).length=(Lr a b b).length/\(Lr a b a).length<=2+a.length+b.length:=by
 by_cases h:Dk a b=0
 .obtain⟨w,r⟩:=comE_0 h;have B:=bks a b O;have u:=B.two;have e:∀ps,Lr a b ps=Zhw _ ps _:=λps=>aP h;have F:=Zm7 (λk s t c=>by obtain⟨f,i,j⟩:=B.lt k c;unfold cmF at f;unfold cmL at j;exact Ynh p l O i O (λg o=>B.no k c g (.inl o)) s) _ O r
  have G:=Zm7 (λk s t c=>by obtain⟨f,i,j⟩:=B.lt k c;unfold cmF at f;unfold cmL at j;exact Ynh q n O i O (λg o=>B.no k c g (.inr o)) t) _ O r
  grind [Zr0]
 simp_all [Zzl,aX]
theorem Bk{ps zs:List Zv}(hi:∀g∈ps,Gin g)(r:Qg ps=true)(w:zs.map Ia=Lr a b ps):∀q∈zs,Gin q/\seB q=true:=by
 have k:∀n,∀u∈Zhw _ ps n,∃(fr e:Int) (g:Zv),g∈ps/\Hc fr e g=true/\Zew fr e g=true/\u=Zw2 fr e g:=λn=>by
  induction n with
  | zero=>intro u j;cases j
  | succ n B=>
   intro u j;rcases cW.1 (show u∈Zhw (Lc a b) ps n ++ _ from j)with h|h
   .grind
   .unfold Zdp at h;split at h
    .rename_i s;obtain⟨g,l,rfl⟩:=eK.1 h;obtain⟨c,f⟩:=gK.1 l;exact⟨_,_,g,c,f,bK.1 s g l,rfl⟩
    grind
 intro q t;have i:Ia q∈Lr a b ps:=O4;unfold Lr at i;split at i
 .obtain⟨fr,e,g,c,f,o,p⟩:=k _ _ i;have:=Ys0 (hi g c) ((Zdd hi r).2.1 g c) f o p;grind
 grind
theorem zip_s{α β γ:Type}{f:α->β->γ} : ∀{l:List α} {m:List β} {k:Nat} {x:α} {y:β},l[k]? = some x->m[k]? = some y->(List.zipWith f l m).take (k+1)=(List.zipWith f l m).take k ++ [f x y]
 | [],_,_,_,_,h,_=>O4
 | _::_,[],_,_,_,_,h=>O4
 | a::l,b::m,0,x,y,h,h2=>O10
 | a::l,b::m,k+1,x,y,h,h2=>by have:=zip_s (f:=f) (by simpa using h) (by simpa using h2);simp only [List.zipWith_cons_cons,jE,this,iD]
def gpY(q:Zv)(g:SL×List Int):GpT:=((q.1.1,q.1.2.1),g)
theorem Zky{n:Int}{xs:List Zv}{zs:List GpT}{k:Nat}{g:SL×List Int}(l:xs.map Ia=Lr a b a)(o:ys.map Ia=Lr a b b)(h:zs.map unP=(Ie D n d a b).take k)(j:k<xs.length)(f:k<ys.length)(i:g.2=fmZ D n d (xs.getD k G0).1.2.2 (ys.getD k G0).1.2.2 (xs.getD k G0).2.1.2 (xs.getD k G0).2.2.1.2 (xs.getD k G0).2.2.2.2 (ys.getD k G0).2.1.2 (ys.getD k G0).2.2.1.2 (ys.getD k G0).2.2.2.2) :
  (zs ++ [gpY (xs.getD k G0) g]).map unP=(Ie D n d a b).take (k+1):=by
 have c:(Lr a b a)[k]? = some (Ia (xs.getD k G0)):=O4;have e:(Lr a b b)[k]? = some (Ia (ys.getD k G0)):=O4;unfold Ie at h ⊢;rw [zip_s c e,cI,bQ];simp only [gpY,unP,gpZ,Ia];grind
theorem Zr4{n:Int}{xs:List Zv}{zs:List GpT}(e:xs.map Ia=Lr a b a)(c:(Lr a b a).length=(Lr a b b).length)(h:zs.map unP=(Ie D n d a b).take xs.length):zs.map unP=Ie D n d a b:=by rw [h];unfold Ie;grind
def Zr8(h:Dk a b=9):Bi a b=0:=aP h
def Zr7(h:¬Dk a b=9):Bi a b=Dk a b:=aJ h
theorem Zju{fr c:Int}(h:Sgo fr c ov x y z):Lo ov:=⟨by have:=h.o1;omega,by have:=h.o2;omega⟩
def Zoq(l:List GpU):Option GpU:=l.find? λg=>Hu g.2.2
def Zch(l:List GpU):Int×Int×Bool:=match Zoq l with
 | some g=>(g.1,g.2.1,true)
 | none=>(0,0,false)
theorem fst_n{l:List GpU}(h:∀i,i<l.length->Hu (l.getD i (0,0,[])).2.2=false):Zch l=(0,0,false):=by
 have:Zoq l=none:=mF.2 λg c=>by obtain⟨i,hi,rfl⟩:=cN.1 c;grind
 unfold Zch;grind
theorem fst_s:∀{l:List GpU} {k:Nat},k<l.length->(∀i,i<k->Hu (l.getD i (0,0,[])).2.2=false)->Hu (l.getD k (0,0,[])).2.2=true->Zoq l=some (l.getD k (0,0,[]))
 | [],_,c,_,_=>absurd c (aR _)
 | g::l,0,_,_,h2=>kP O4
 | g::l,k+1,c,h1,h2=>by have e:Zoq _=Zoq l:=kQ (by rw [show Hu g.2.2=false from h1 0 (jI _)];simp);rw [e];exact fst_s (by simpa using c) (λi hi=>h1 (i+1) O) h2
theorem Al(zs:List GpT)(k:Nat):(zs.map unP).getD k (0,0,[])=unP (zs.getD k Gp0):=by rw [aK,fG,aK];cases zs[k]?<;>rfl
theorem cvd_gp{n:Int}(h:∀g∈a,Gin g)(i:∀g∈b,Gin g)(c:Qg a=true)(f:Qg b=true)(I:znB D n d=true){xs:List Zv}(G:xs.map Ia=Lr a b a)(H:ys.map Ia=Lr a b b):∀g∈Ie D n d a b,Cvd g.2.2:=λg o=>by unfold Ie at o;obtain⟨k,w,e⟩:=cN.1 o;rw [lH]at e;subst e;rw [lQ]at w;have M:(Lr a b a)[k]∈xs.map Ia:=O4;have N:(Lr a b b)[k]∈ys.map Ia:=O4;obtain⟨q,B,t⟩:=eK.1 M;obtain⟨r,F,u⟩:=eK.1 N;obtain⟨p,j⟩:=Bk h c G q B;obtain⟨s,l⟩:=Bk i f H r F;rw [<-t,<-u];simp only [gpZ,Ia];exact Yce (fzX (Nz p j) (Nz s l) (Gx j) (Gx l) I)
def mkS(u:Zco):Zv:=(u.1,((none,0,0),u.2.1),((none,0,0),u.2.2.1),((none,0,0),u.2.2.2))
theorem Yaa(l:List Zco):(l.map mkS).map Ia=l:=by rw [kJ];exact List.map_id' _
theorem Ynb{n:Int}(f:∀g∈a,Gin g)(i:∀g∈b,Gin g)(c:Qg a=true)(e:Qg b=true)(l:znB D n d=true){zs:List GpT}(h:zs.map unP=Ie D n d a b){k:Nat}(o:k<zs.length):Cvd (zs.getD k Gp0).2.2:=by have j:unP (zs.getD k Gp0)∈Ie D n d a b:=O4;exact cvd_gp f i c e l (Yaa _) (Yaa _) _ j
theorem fst_at{l:List GpU}{zs:List GpT}(h:zs.map unP=l){k:Nat}(f:k<zs.length)(e:∀i,i<k->Hu (zs.getD i Gp0).2.2=false)(c:Hu (zs.getD k Gp0).2.2=true):Zch l=((zs.getD k Gp0).1.1,(zs.getD k Gp0).1.2,true):=by subst h;have:=fst_s (l:=zs.map unP) (k:=k) O4 (λi hi=>by rw [Al];exact e i hi) (by rw [Al];exact c);unfold Zch;rw [this,Al];rfl
theorem Yl8{l:List GpU}{zs:List GpT}(h:zs.map unP=l)(c:∀i,i<zs.length->Hu (zs.getD i Gp0).2.2=false):Zch l=(0,0,false):=by subst h;exact fst_n λi hi=>by rw [Al];exact c i O4
theorem Ysa{n:Int}(i:∀g∈a,Gin g)(j:∀g∈b,Gin g)(c:Qg a=true)(f:Qg b=true){zs:List GpT}(h:zs.map unP=Ie D n d a b):zs.length<=2+a.length+b.length:=by have k:=Zhv i j c f;have e:=aD List.length h;unfold Ie at e;grind
def apZ(D n d:Int)(a b:List Zv):Bool:=decide (Bi a b=0) && !(Zch (Ie D n d a b)).2.2
theorem ap_t{n:Int}(h:Bi a b=0):apZ D n d a b=!(Zch (Ie D n d a b)).2.2:=by unfold apZ;grind
theorem Ygn{n:Int}(h:¬Bi a b=0):apZ D n d a b=false:=by unfold apZ;grind
open Go.Proofs
def pPa:Enc Tryz.prog 36 1 Xd:=Enc.flat Tryz.sizeOf36 Tryz.isAgg36 (λ_=>rfl)
def pGp:Enc Tryz.prog 178 3 Ih:=Enc.agg O3 Tryz.sizeOf178 Tryz.isAgg178 (λx=>⟨[.int .i64 x.1.1,.int .i64 x.1.2,Xd x.2.1],rfl,rfl,O11⟩)
@[reducible,instance] def encPaI:EncT Tryz.prog 36 1 Xd:=⟨pPa⟩
@[reducible,instance] def encGpI:EncT Tryz.prog 178 3 Ih:=⟨pGp⟩
def ti_a3:Tryz.prog.info? 409=some Tryz.t409:=O6
def ti_ax:Tryz.prog.info? 408=some Tryz.t408:=O6
theorem Yob{c e f g h i:Value} : Tryz.prog.built 409 [(0,.agg #[a0,a1,a2]),(1,.agg #[c,e,f]),(2,.agg #[g,h,i])]=some #[a0,a1,a2,c,e,f,g,h,i]:=by refine Cd ti_a3 Tryz.underlying409 rfl ti_ax ?_;rw [show Tryz.t408.size=3 from rfl];exact fill33
open Go.Proofs.Tryz
set_option synthInstance.maxHeartbeats 0
set_option synthInstance.maxSize 100000
set_option maxRecDepth 20000
set_option linter.unusedSimpArgs false
theorem Zo7{va vb:Value}{e f:List Zv}(w:∀g∈e,Gin g)(B:∀g∈f,Gin g)(p:Qg e=true)(s:Qg f=true)(c1:e.length<=5)(c2:f.length<=5):Cal prog 247 #[va,vb] [Xv 6 Qv qG va e,Xv 6 Qv qG vb f] true (G:=(Value×List Zv)×(Value×List Zv)) (λg=>g.1.2.map Ia=Lr e f e/\g.2.2.map Ia=Lr e f f) (λg=> .tuple #[g.1.1,g.2.1,.int .i64 (Dk e f)]) (λg=>[Xv 6 Qv qG g.1.1 g.1.2,Xv 6 Qv qG g.2.1 g.2.2]):=by
 refine Zg func247 ntmps247 λw0 sc u F=>?_;refine Zcw (Xj 1 J Zc) (λsa b3=>?_);subst b3;refine Zcw (Xj 2 J Zc) (λsb b4=>?_);subst b4;obtain⟨-,b5,a3⟩:=Gq p;obtain⟨-,b6,a4⟩:=Gq s;have a5:=Zri w p;have a6:=Zri B s;have b9:=Zr0 e f;have c0:([sa,sb]:List SL).length=2:=rfl;refine go 11 ?_;refine cl 2 [1] (Em w) λ_ _=>?_;refine dt (dF (Qn J J) (aD (λb=>Value.bool (!b)) p))<|go 2 ?_;refine Gi 2 [2] (Em B) λ_ _=>?_;refine Di (dF (Qn J J) (aD (λb=>Value.bool (!b)) s)) J J<|go 7 ?_;refine Qa (λ_=>False) [(0,0),(1,0),(2,0),(3,0),(4,0),(5,0),(6,0),(7,0),(8,0),(9,0),(10,0),(11,0),(12,0),(13,0),(14,0),(15,0),(16,0),(17,0),(18,0),(19,0),(20,0),(21,0),(22,0),(23,0),(24,0),(25,3)]<|go 2 ⟨O,?_⟩;refine Yz J J (Xn (Ip 1 J J J Zc Hf J Lm J))<|Yz J J (Xn (Im 1 G0 J J J Zc iA3 J))<|go 2 ⟨O,?_⟩;refine Yz J J (Xn (Ip 2 J J J Zc Hf J Lm J))<|Yz J J (Xn (Im 2 G0 J J J Zc iA3 J))<|Yz J J (Xn (Xf ( .int .i64 (cmF e f)) (Zcr J J J) J))<|go 4 ⟨O,?_⟩;refine Yz J J (Xn (Zs 1 (e.length-1) J J J J Zc Ny Ow))<|Yz J J (Xn (Ip 1 J J J Zc Hf J Lm J))<|Yz J J (Xn (Im 1 G0 J J J Zc iA3 J))<|go 4 ⟨O,?_⟩;refine Yz J J (Xn (Zs 2 (f.length-1) J J J J Zc Ny Ow))<|Yz J J (Xn (Ip 2 J J J Zc Hf J Lm J))<|Yz J J (Xn (Im 2 G0 J J J Zc iA3 J))<|Yz J J (Xn (Xf ( .int .i64 (cmL e f)) (Zp4 J J J) J))<|go 12 ?_;refine Ze J (λo=>?_) (λo=>?_)
 .have h:cmF e f>=cmL e f:=o;exact go 9<|Zn (Kv 72 6 Qv qG)<|xe3 F ((.slice none 0 0,[]),(.slice none 0 0,[])) results247 (by rw [(Zp6 h e).1]) ⟨(Zp6 h e).2.symm,(Zp6 h f).2.symm⟩ (Pb 72 (Pb 72 Za))
 .have h:¬cmF e f>=cmL e f:=o;have hB:=bks e f O;have b8:=hB.two;refine go 6 ?_;refine tt (Xc [(0,_),(1,_)] 60 (enc:=Zz) ([cmF e f,cmL e f]:List Int) J J K4 Qi ti3 J J J J J pZ.cells J J u.h) J λv _=>go 8 ?_;refine tt (Xc [(0,_),(1,_)] 61 (enc:=Xd) ([sa,sb]:List SL) J J K4 Zgc ti36 J J J J J pPa.cells J J u.h) J λc7 _=>go 5 ?_;refine lp (G:=Nat×Value) [0,1,4,5,7,8,59,60] [0,1,2,61] (λq=>[(61,.int .i64 (q.1:Int)),(9,q.2)]) (λq=>[(60,Oe 1 3 Zz q.2 (Zgg e f q.1))]) (λq=>q.1<=2) (λq=>2-q.1) (0,_) O1 K2 K1 ?_;rintro⟨i,vt⟩ hi;dsimp only at hi;dsimp only;refine go 6<|Ze J (λQ=>?_) (λQ=>?_)
  .refine go 5<|Zf (Yp8 (sd:=(none,0,0)) i 1 2 50 J J J J O)<|go 1 ?_;refine dt (Zs 61 i J J J J (Yb pPa) Zgc Ztm J O8)<|dt (Yr 61 (none,0,0) J J J (Yb pPa) pPa O8)<|go 11 ?_;refine lp (G:=Nat×Value) [0,1,4,5,7,8,59,60,61,65,66] [0,1,2,61,50] (λq=>[(67,.int .i64 (q.1:Int)),(9,q.2)]) (λq=>[(60,Oe 1 3 Zz q.2 (tik e f i q.1))]) (λq=>q.1<=(Co i e f).length) (λq=>(Co i e f).length-q.1) (0,_) O1 K2 ⟨by rw [tik_0];rfl,aA⟩ ?_;rintro⟨k,vu⟩ hk;dsimp only at hk;dsimp only;have c3:=Yrq e f i k;have a7:=Zvz e f i;refine go 6<|Ze J (λR=>?_) (λR=>?_)
   .refine go 5<|Zf (Qr ((Co i e f).getD k G0) (((Co i e f).getD k G0).2.1) 50 51 J J (Zd O) O5)<|Zf (Qr ((Co i e f).getD k G0) (((Co i e f).getD k G0).2.2.1) 50 52 J J (Zd O) O5)<|Zf (Qr ((Co i e f).getD k G0) (((Co i e f).getD k G0).2.2.2) 50 53 J J (Zd O) O5)<|go 2 ⟨O2,?_⟩;refine dt (Yr 50 G0 J J J Zc pG O2)<|Yj (Yd 3) λbx _=>go 10 ?_;refine Zy 75 J (λb0=>?_) (λb0=>?_)
    .refine go 7<|Ze J (λS=>?_) (λS=>?_)
     .refine go 4 ?_;refine tt (Xc [(0,_)] 4 (enc:=Zz) ([((Co i e f).getD k G0).1.1]:List Int) J J K2 Qi ti3 J J J J J pZ.cells J J u.h) J (λc8 _=>?_);refine tt (Pk 60 4 8 J J J J J J O3 J (Yb pZ) Qi ti3 J pZ J J J O8 O3 J u.h) J (λc9 _=>?_);refine go 8 ⟨O,?_⟩;exact Ye (k+1,_) O1 O1 K2 ⟨by rw [tik_t O O O];rfl,aA⟩
     .refine go 7 ⟨O,?_⟩;exact Ye (k+1,_) O1 O1 K2 ⟨by rw [tik_f O O];rfl,aA⟩
    .refine go 15 ⟨O,?_⟩;exact Ye (k+1,_) O1 O1 K2 ⟨by rw [tik_f O O];rfl,aA⟩
   .obtain rfl:k=(Co i e f).length:=O;refine go 10 ⟨O,?_⟩;exact Ye (i+1,_) O1 O1 K2 ⟨by rw [<-tik_e O];rfl,aA⟩
  .obtain rfl:i=2:=O;refine go 6 ?_;refine e_obox 60 J J (tms_ne e f 2) J u.h (λbq cq rq hv c5 b2=>?_);subst hv;have b7:=tms_2 e f 2;have c4:=Zry e f 2;refine go 2 ?_;refine tt (Pd 4 60 (Ypw O O) J J J K1 call181 J O3 Zq J u.h aA) J (λgs I=>?_);have a7:=I.1.1;rw [<-a7];refine go 5 ?_;refine tt (Pd 4 60 (sl_cmp O O O I.2) J J J K1 call299 J O3 Zq J u.h aA) J λgc W=>go 5 ?_;obtain⟨gz,gr⟩:=gc;have c6:gz.length+gr.length=gs.length+rq.length:=W.2;obtain rfl:gz=Lc e f:=Ynr I.1 W.1;refine Zf (Yp7 (xs:=Lc e f) (r:=gr) (c:=cq) 60 J J O b2 J u.h)<|go 5<|Zf (Qp 74 6 116 Qv)<|Zf (Qp 75 6 116 Qv)<|Zf (Yh qG 76)<|Zf (Yh qG 77) ?_;refine lp (G:=Nat×Value×List Zv×Value×List Zv) [0,1,9] [0,60,1,2] (λq=>[(14,.int .i64 ((q.1+1:Nat):Int)),(4,q.2.1),(5,q.2.2.2.1)]) (λq=>[(74,Oe 6 116 Qv q.2.1 q.2.2.1),(75,Oe 6 116 Qv q.2.2.2.1 q.2.2.2.2),(76,Nw qG q.2.2.1),(77,Nw qG q.2.2.2.2)]) (λq=>(q.1+1<=(Lc e f).length)/\(Bc (Lc e f) e f q.1=true)/\(q.2.2.1.map Ia=Zhw (Lc e f) e q.1)/\(q.2.2.2.2.map Ia=Zhw (Lc e f) f q.1)/\(q.2.2.1.length=q.1)/\(q.2.2.2.2.length=q.1)) (λq=>(Lc e f).length-q.1) (0,.slice none 0 0,[],.slice none 0 0,[]) ⟨O,J,J,J,J,J⟩ K3 K4 ?_;rintro⟨n,v4,z4,v5,z5⟩ ⟨hn,t,N,P,Y,Z⟩;dsimp only at hn t N P Y Z;dsimp only;refine go 9<|Ze J (λV=>?_) (λV=>?_)
   .refine go 5<|Qa (λ_=>False) [(0,0),(1,0),(2,0),(3,0),(4,0),(5,0),(6,0),(7,0),(8,0),(9,0),(10,1),(11,0),(12,0),(13,0),(14,0),(15,3)]<|go 4 ⟨O,?_⟩;refine Yz J J (Xn (Zs 60 n J J J J (Yb pZ) Qi Lm))<|go 3 ⟨O,?_⟩;refine Yz J J (Xn (Zs 60 (n+1) J J J J (Yb pZ) Qi Lm J))<|go 1 ⟨O,?_⟩;refine Yq (Zo 84 [1] (Yh4 a5 (lh_M w p) a3)) λg hg=>go 8<|Qa (λ_=>False) [(0,0),(1,0),(2,0),(3,0),(4,0),(5,0),(6,0),(7,0),(8,0),(9,0),(10,1),(11,0),(12,0),(13,0),(14,0),(15,3)]<|go 4 ⟨O,?_⟩;refine Yz J J (Xn (Zs 60 n J J J J (Yb pZ) Qi Lm))<|go 3 ⟨O,?_⟩;refine Yz J J (Xn (Zs 60 (n+1) J J J J (Yb pZ) Qi Lm J))<|go 1 ⟨O,?_⟩;refine Yq (Zo 86 [2] (Yh4 a6 (lh_M B s) a4)) λb1 H=>go 9 ?_;rcases Zo0 (Oq ((Lc e f).getD n 0) ((Lc e f).getD (n+1) 0) e) (Oq ((Lc e f).getD n 0) ((Lc e f).getD (n+1) 0) f)with j|⟨j,l⟩|⟨j,l⟩
    .exact go 2<|kt (aH (by rw [Zzi j];decide))<|go 21<|Zn (Kv 72 6 Qv qG)<|xe3 F ((.slice none 0 0,[]),(.slice none 0 0,[])) results247 (by rw [(Zcs h O (Zjc j) e).1]) ⟨(Zcs h O (Zjc j) e).2.symm,(Zcs h O (Zjc j) f).2.symm⟩ (Pb 72 (Pb 72 Za))
    .exact go 2<|kf (aE (by rw [Zzj j];decide))<|go 2<|ktg (aH (by rw [Zzi l];decide))<|go 18<|Zn (Kv 72 6 Qv qG)<|xe3 F ((.slice none 0 0,[]),(.slice none 0 0,[])) results247 (by rw [(Zcs h O (Zjb l) e).1]) ⟨(Zcs h O (Zjb l) e).2.symm,(Zcs h O (Zjb l) f).2.symm⟩ (Pb 72 (Pb 72 Za))
    .refine go 2<|kf (aE (by rw [Zzj j];decide))<|go 2<|kfg (aE (by rw [Zzj l];decide))<|go 6 ?_;have a8:=Yno w p hB O j hg;have a9:=Ynn B s hB O l H;refine go 3 ?_;refine tt (Pk 74 84 96 J J J J J J O3 J Zc Ny ti116 J pG J J J (by rw [a8];omega) O3 J u.h) J λd0 _=>go 2 ?_;refine tt (Pk 75 86 96 J J J J J J O3 J Zc Ny ti116 J pG J J J (by rw [a9];omega) O3 J u.h) J (λd1 _=>?_);refine Yk (Iv 84 85 J J)<|Yk (Iu 76 85 76 J J J J)<|Yk (Iv 86 87 J J)<|Yk (Iu 77 87 77 J J J J)<|go 10 ⟨O,?_⟩;exact Ye (n+1,_,z4 ++ g.2,_,z5 ++ b1.2) ⟨O1,com_k t j l,Ydd N hg,Ydd P H,by rw [aO,Y,a8],by rw [aO,Z,a9]⟩ O1 K3 K4
   .have M:n+1=(Lc e f).length:=O;exact go 10<|kf (aE O)<|go 15<|Zn (Xa 74 J J pG)<|Zn (Xe 74 76 78 J J J J)<|Zn (Xa 75 J J pG)<|Zn (Xe 75 77 79 J J J J)<|xe3 F ((v4,z4),(v5,z5)) results247 (by rw [(Zp7 h M t).1]) ⟨N.trans ((Zp7 h M t).2 e).symm,P.trans ((Zp7 h M t).2 f).symm⟩ (Pb 78 (Pb 79 Za))
theorem Ypr(e:Vp xs):Xp prog 402 #[v] [Yl 2 wv v xs] (.bool (decide (Zc3 xs))):=by
 refine Zg func402 ntmps402 λp o l c=>?_;have h:=e.len;have j:=Qu e.sz;have k:(xs.length+2)*(xs.length+2)<=27*27:=aQ O O;have n:(xs.length+2)*(xs.length+2)*(Xx xs+16)<=27*27*65552:=aQ k O;have i:((xs.length:Int)-1+3)*((xs.length:Int)-1+3)=(((xs.length+2)*(xs.length+2):Nat):Int):=by rw [show(xs.length:Int)-1+3=((xs.length+2:Nat):Int) by omega];push_cast;rfl
 have f:((xs.length:Int)-1+3)*((xs.length:Int)-1+3)*((Xx xs:Int)+16)=(((xs.length+2)*(xs.length+2)*(Xx xs+16):Nat):Int):=by rw [i];push_cast;rfl
 refine go 9 ?_;refine cl 1 [1] (Xt ‹_›) λ_ _=>go 9 ?_;refine cl 1 [1] (Zjr e) λ_ _=>go 10 ?_;refine cl 1 [1] (Zpn e) λ_ _=>go 13<|Zy 23 J (λg=>?_) (λg=>?_)
 .refine go 14 ?_;exact Yp c () results402 (by first|exact sf_t O|exact sf_i O f) aA Za
 .refine go 14 ⟨O,O,by rw [i];exact⟨O,O⟩,O,by rw [f];exact⟨O,O⟩,?_⟩;exact Yp c () results402 (by first|exact sf_t O|exact sf_i O f) aA Za
theorem Yeq(g:Vp xs):Xp prog 393 #[v,.slice none 0 0] [Yl 2 wv v xs] (.int .i64 (Ygh xs)):=by
 refine Zg func393 ntmps393 λj i h e=>?_;refine Zf (Qp 999 2 144 wv)<|Zf (Xa 999 J J pV)<|go 8 ?_;refine cl 1 [1] (Ypr g) λ_ _=>go 13 ?_;refine lp (G:=Unit) [0,1,13,14] [0,1,999] (λ_=>[(15,.int .i64 0),(5,.bool (decide (¬Zc3 xs)))]) (λ_=>[]) (λ_=>True) (λ_=>0) () aA K2 aA ?_;rintro _ -;refine go 2<|kf O3<|go 13 ?_;refine cl 1 [1] (Xt ‹_›) λ_ _=>go 14<|Ze J (λf=>?_) (λf=>?_)
 .refine go 7 ?_;exact Yp e () results393 (by unfold Ygh;rw [aP O]) aA Za
 .refine go 7<|kf O3<|go 11<|Pe J (λc=>?_) (λc=>?_)
  .refine go 7 ?_;exact Yp e () results393 (by unfold Ygh;rw [aJ O,aJ (by simpa using c)]) aA Za
  .refine go 8 ?_;exact Yp e () results393 (by unfold Ygh;rw [aJ O,aP (by simpa using c)]) aA Za
theorem Zt7(g:Vp xs)(k:xs≠[]):Cal prog 394 #[v] [Yl 2 wv v xs] true (G:=Value) (λr=>True) (λr=> .tuple #[r,.int .i64 0]) (λr=>[Yl 2 wv r (Xg xs)]):=by
 refine Zg func394 ntmps394 λs q p e=>?_;have c:=Lu g;have n:=aI.2 k;have o:=Yi xs;have j:=g.len;refine go 9 ?_;refine cl 2 [1] (Nr g) λ_ _=>go 11<|kt O3<|go 5 ⟨O,?_⟩;refine Di (Zs 2 ((Yf xs).length-1) J J J J Zl Pw Ov) J J<|go 1 ⟨O2,?_⟩;refine Gi 2 [] (Hj (c.sz _)) λ_ _=>go 4<|Ze J (λf=>?_) (λf=>?_)
 .refine go 3 ?_;refine cl 2 [] (Ya _ ⟨O3,O3⟩) λ_ _=>cl 3 [2] (Nf _ _ c O7 (λi=>Zcm c.sz i)) λ_ _=>go 8 ?_;exact Nd e _ results394 J aA (Pb 3 Za (by rw [Zkw O ((Py _).1 ‹_›)]<;>rfl))
 .refine go 11 ?_;exact Nd e _ results394 J aA (Pb 2 Za (by rw [Zkv (λh=>by have l:=(Py _).2 h;exact absurd l ‹_›)]<;>rfl))
theorem st_sqf(j:Vp xs)(q:xs≠[])(u:Zc3 xs)(F:Nat)(s:Ypt F xs):Cal prog 363 #[v] [Yl 2 wv v xs] true (G:=Value) (λr=>True) (λr=> .tuple #[r,.int .i64 0]) (λr=>[Yl 2 wv r (sqf F xs)]):=by
 refine Zg func363 ntmps363 λI H B o=>?_;obtain⟨e,l,f,n,g⟩:=s;have c:=Zxp j;have w:=Pt j.tr;have h:Vp (Xh (Xg xs)):=Zga c (λi hi=>e i O);have p:=Zz7 c h f;have t:=Ytk q u;refine Zf (Qp 999 2 144 wv)<|Zf (Xa 999 J J pV)<|go 10 ?_;refine cl 1 [1] (Yeq j) λ_ _=>go 9<|Ze J (λk=>?_) (λk=>?_)
 .exfalso;omega
 .refine go 5 ?_;refine cl 2 [1] (Zt7 j q) λ_ _=>go 11<|kf O3<|go 8 ?_;refine cl 3 [2] (Zal c (λi=>by by_cases hi:i<xs.length;exact e i hi;rw [Yt O];simp [Ky])) λ_ _=>go 11<|kf O3<|go 9 ?_;refine cl 4 [2,3] (Zvc c h F l f) λ_ _=>go 11<|kf O3<|go 9 ?_;refine cl 5 [2,4] (Zda c p n) λ_ _=>go 7 ?_;exact Nd o _ results363 (by rw [aP g]<;>rfl) aA (Pb 5 Za (by rw [aP g]<;>rfl))
theorem Ypq{u:Value}{ys:List Int}(n:Vp xs)(l:Vp ys)(s:ys≠[])(p:Bx xs ys=0)(j:ys.length<=xs.length):Cal prog 364 #[v,u] [Yl 2 wv v xs,Yl 2 wv u ys] true (G:=Value) (λr=>True) (λr=> .tuple #[r,.int .i64 0]) (λr=>[Yl 2 wv r (Mt xs ys)]):=by
 refine Zg func364 ntmps364 λF B w c=>?_;have f:=Za6 n p;have e:=Lu f;have q:=n.len;have k:=l.len;have t:=aI.2 s;refine Zf (Qp 999 2 144 wv)<|Zf (Xa 999 J J pV)<|go 10 ?_;refine cl 3 [1,2] (Zpm n l p) λ_ _=>go 11<|kf O3<|go 7<|Ze J (λg=>?_) (λg=>?_)
 .refine go 9 ?_;exact Nd c (.slice none 0 0) results364 J aA (Nb (Yer O) Za)
 .refine go 5 ?_;refine cl 4 [3] (Nr f) λ_ _=>go 11<|kf O3<|go 23 ⟨O,O,O,?_⟩;refine dt (Zs 2 (ys.length-1) J J J J Zl Pw Ov)<|go 1 ⟨O2,?_⟩;refine cl 4 [] (Hj (l.sz _)) λ_ _=>go 2<|Zy 45 J (λo=>?_) (λo=>?_)
  .refine go 1 ?_;refine Di (Znr J J J O O) J J<|go 4 ?_;refine Ze J (λh=>?_) (λh=>?_)
   .refine go 9 ?_;exact Nd c _ results364 J aA (Pb 4 Za (by rw [Ypu j ‹_› ‹_›]<;>rfl))
   .refine go 5 ?_;refine cl 4 [] (Ya _ ⟨O3,O3⟩) λ_ _=>cl 5 [4] (Nf _ _ e O7 (λi=>Zcm e.sz i)) λ_ _=>go 7 ?_;exact Nd c _ results364 J aA (Pb 5 Za (by first|(rw [Yai ‹_›]<;>rfl)|(rw [Yah j ‹_›]<;>rfl)))
  .refine go 12 ?_;refine cl 5 [] (Ya _ ⟨O3,O3⟩) λ_ _=>cl 6 [4] (Nf _ _ e O7 (λi=>Zcm e.sz i)) λ_ _=>go 7 ?_;exact Nd c _ results364 J aA (Pb 6 Za (by first|(rw [Yai ‹_›]<;>rfl)|(rw [Yah j ‹_›]<;>rfl)))
theorem Yhr(S:Vp xs)(h0:xs≠[])(hf:Zc3 xs)(F:Nat)(hC:Za5 F xs):Cal prog 311 #[v] [Yl 2 wv v xs] true (G:=Value×List (SL×List Int)) (λr=>r.2.map Prod.snd=chn F xs) (λr=> .tuple #[r.1,.int .i64 0]) (λr=>[Xv 1 Nm qZ r.1 r.2]):=by
 refine Zg func311 ntmps311 λw0 sc V N=>?_;obtain⟨k,p,I⟩:=hC;have n:=Zlg S h0 k;have a4:=Zm4 S k;have g:Vp (Xh (sqf F xs)):=Zga n (λi hi=>p i O);refine Zf (Qp 999 2 144 wv)<|Zf (Xa 999 J J pV)<|go 9 ?_;refine cl 2 [1] (st_sqf S h0 hf F k) λ_ _=>go 11<|kf O3<|go 8 ?_;refine cl 3 [2] (Zal n (λi=>by by_cases hi:i<xs.length;exact p i hi;rw [Yt O];simp [Ky])) λ_ _=>go 11<|kt O3<|go 5 ?_;refine cl 80 [3] (Nr g) λ_ _=>go 11<|kf O3<|go 6 ?_;refine Zcw (Xj 2 J Zl) (λZ R=>?_);subst R;refine Zf (Yh qZ 71)<|Zf (Zm (q:=qZ) (z:=(Z,sqf F xs)) 71 2 71 J J J J J)<|Zcw (Xj 80 J Zl) (λY P=>?_);subst P;refine go 2 ?_;refine tt (Xc [(0,_)] 70 (enc:=Nm) [(Z,sqf F xs)] J J K2 Zoy ti140 J J J J J pS.cells J J V.h) J λv _=>go 5 ?_;refine lp (G:=List (SL×List Int)×SL×List Int×SL×List Int×Nat×Value) [] [0,1,999,2,3] (λq=>[(7,q.2.2.2.2.2.2),(6,Xd q.2.2.2.1)]) (λq=>[(70,Oe 1 140 Nm q.2.2.2.2.2.2 (q.1 ++ [(q.2.1,q.2.2.1)])),(71,Nw qZ (q.1 ++ [(q.2.1,q.2.2.1)])),(80,Yl 2 wv (Xd q.2.2.2.1) q.2.2.2.2.1)]) (λq=>(Vp q.2.2.1)/\(Vp q.2.2.2.2.1)/\(cok q.2.2.2.2.2.1 q.2.2.1 q.2.2.2.2.1)/\(q.1.map Prod.snd ++ Ma q.2.2.2.2.2.1 q.2.2.1 q.2.2.2.2.1=chn F xs)/\(q.1.length+q.2.2.2.2.1.length<=25)) (λq=>q.2.2.2.2.1.length) ([],Z,sqf F xs,Y,Yf (Xh (sqf F xs)),F,_) ⟨n,Lu g,I,J,by rw [Yi];simp;have:=g.len;omega⟩ ⟨J,J,aA⟩ ⟨J,J,J,aA⟩ ?_;rintro⟨B,w,x,H,y,f,vo⟩ ⟨h,o,s,l,W⟩;dsimp only at h o s l W;dsimp only;refine go 8<|Ze J (λc=>?_) (λc=>?_)
 .have j:y≠[]:=λe=>by rw [e]at c;simp at c
  obtain⟨f0,rfl,hd,M,t,u⟩:=Zhx s j;refine go 7 ?_;refine tt (Xc [(0,_)] 4 (enc:=Nm) [(H,y)] J J K2 Zoy ti140 J J J J J pS.cells J J V.h) J (λa5 _=>?_);refine tt (Pk 70 4 24 J J J J J J O3 J (Yb pS) Zoy ti140 J pS J J J O8 O3 J V.h) J λa6 _=>go 4 ?_;have a3:(B ++ [(w,x)] ++ [(H,y)]).length=B.length+2:=O5;refine Zf (Zm (q:=qZ) (z:=(H,y)) 71 80 71 J J J J J)<|Zf (Za1 (q:=qZ) 71 92 (w,x) J J O5 J)<|go 5 ⟨O,?_⟩;refine dt (Zs 70 B.length J J J J (Yb pS) Zoy sizeOf140)<|dt (Xf (Xd w) (Yr 70 Z0 J J J (Yb pS) pS) (by simp [aK])) ?_;refine go 1 ?_;refine cl 80 [92,80] (Ypq h o j hd M) λ_ _=>?_;refine Zm9 (Xj 80 J Zl) (λsn Q=>?_);subst Q;refine go 10<|kf O3<|go 5 ?_;exact Ye (B ++ [(w,x)],H,y,sn,Mt x y,f0,_) ⟨o,Zlh h hd,t,by rw [<-l,u];simp,by have h7:=Pi x j;have h8:=Bu (y:=y) h.tr;simp;omega⟩ (by have h7:=Pi x j;have h8:=Bu (y:=y) h.tr;dsimp only;omega) K2 K3
 .refine go 6 ?_;obtain rfl:y=[]:=aC O;refine Zf (Xa 70 J J pS)<|Zf (Xe 70 71 72 J J J J)<|go 7 ?_;exact Nd N (_,B ++ [(w,x)]) results311 J (by rw [<-l,Dt];simp) (Pb 72 Za)
end Go.Sky

