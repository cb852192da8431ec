/- Rules, arithmetic and contracts: part 15. No conditions but those that each theorem names. -/
import Derived.Test.YteikicbnfbgpnaaGreatDc13
set_option linter.all false
namespace Go.Sky
variable{q:Zt}{G x:Int}{a r b us:List Zt}{i k:Nat}{p ts:List Int}
theorem Zzn(c:List Int)(a:Int):∀k,plS c a 1 k=Ye (λk=>cf c k*a^k) k
 | 0=>rfl
 | k+1=>by show plS c a 1 k+plT c a 1 k=_;rw [Yi,Zzn c a k];congr 1;show c.getD k 0*(a^k*1^_)=cf c k*a^k;rw [Int.one_pow,fL];rfl
theorem Zn7(f:Nat->Int):∀n,((Ye f n:Int):Rat)=Hs (λi=>(f i:Rat)) n
 | 0=>rfl
 | n+1=>by rw [Yi,Ma,<-Zn7 f n];push_cast;rfl
theorem Yha(c:List Int)(a:Int):((pl c a 1:Int):Rat)=Zf c (a:Rat):=by
 unfold pl;rw [Zzn,Zn7]
 conv=>rhs;rw [<-Zd3 c]
 rw [Zjk];exact La _ λi hi=>by rw [<-Zde];push_cast;rfl
theorem Prt.pl{g:Zt}(h:Prt q g G){a c:Int}(f:a*(g.1.2.1-g.1.1)=(q.1.1-g.1.1)+(q.1.2.1-q.1.1)*c)(i:Nat) :
  Sky.pl (Zp i q.2.1.2 q.2.2.1.2 q.2.2.2.2) c 1*G=Sky.pl (Zp i g.2.1.2 g.2.2.1.2 g.2.2.2.2) a 1*(g.1.2.1-g.1.1)^5:=by
 have d:=h.x i (a:Rat) (c:Rat) (by exact_mod_cast f);rw [<-Yha,<-Yha,<-Zde]at d;have e:((Sky.pl (Zp i q.2.1.2 q.2.2.1.2 q.2.2.2.2) c 1*G:Int):Rat)=((Sky.pl (Zp i g.2.1.2 g.2.2.1.2 g.2.2.2.2) a 1*(g.1.2.1-g.1.1)^5:Int):Rat):=by rw [Rat.intCast_mul,Rat.intCast_mul,d,kF]
 exact_mod_cast e
structure Chn (ps:List Zt):Prop where
 lt:∀g∈ps,g.1.1<g.1.2.1
 eq:∀(i:Nat) (g h:Zt),ps[i]? = some g->ps[i+1]? = some h->g.1.2.1=h.1.1
def Chn.tail{g:Zt}(h:Chn (g::r)):Chn r:=⟨λx c=>h.lt x (bG _ c),λi x y c d=>h.eq (i+1) x y c d⟩
theorem Chn.ge:∀{r:List Zt} {g:Zt},Chn (g::r)->∀x∈r,g.1.2.1<=x.1.1
 | [],_,_,_,c=>nomatch c
 | h::r,g,hc,x,c=>by
  have d:=hc.eq 0 g h rfl rfl;rcases bQ.1 c with rfl|c
  .omega
  .have:=Chn.ge hc.tail x c;have:=hc.lt h O5;omega
theorem Zqq{fr l:Int} : ∀{ps:List Zt},Chn ps->∀(j:Nat) (f d:Zt),(ps.filter (Kw fr l))[j]? = some f->(ps.filter (Kw fr l))[j+1]? = some d->∃i:Nat,ps[i]? = some f/\ps[i+1]? = some d
 | [],_,j,f,d,h,_=>by simp at h
 | g::r,hc,j,f,d,h1,c=>by
  cases hp:Kw fr l g with
  | false=>
   rw [iK (by rw [hp];exact dC)]at h1 c;obtain⟨i,a,b⟩:=Zqq hc.tail j f d h1 c;exact⟨i+1,a,b⟩
  | true=>
   rw [fI hp]at h1 c
   match j with
   | j+1=>
    obtain⟨i,a,b⟩:=Zqq hc.tail j f d h1 c;exact⟨i+1,a,b⟩
   | 0=>
    obtain rfl:g=f:=by simpa using h1
    have c:(r.filter (Kw fr l))[0]? = some d:=c;have s:d∈r.filter (Kw fr l):=nA c;obtain⟨e,m⟩:=gT.1 s
    match r,hc,c,e with
    | h::r,hc,c,e=>
     have u:=hc.eq 0 g h rfl rfl;have v:=hc.lt h O5;have t:=cC hp;have n:=cC m;have o:Kw fr l h=true:=by
      refine aL ?_;unfold cA cB at *;rcases bQ.1 e with rfl|q
      .exact n
      .have:=Chn.ge hc.tail d q;omega
     rw [fI o]at c;obtain rfl:h=d:=by simpa using c
     exact⟨0,rfl,rfl⟩
theorem getD_some{α:Type}{l:List α}{x d:α}(h:l[i]? = some x):l.getD i d=x:=by rw [aI,h];rfl
theorem Zcw{ps:List Zt}(hi:∀g∈ps,Gin g)(o:Pi ps=true):Chn ps/\(∀g∈ps,seB g=true)/\∀(i:Nat) (g h:Zt),ps[i]? = some g->ps[i+1]? = some h->meG g h=true:=by
 obtain⟨n,s,t⟩:=Gg o;have j:∀g∈ps,seB g=true:=λg c=>by obtain⟨i,d,e⟩:=eN.1 c;have:=Zbx (n i d);rw [aI,aN d,fP,e]at this;exact this
 have f:∀(i:Nat) (g h:Zt),ps[i]? = some g->ps[i+1]? = some h->meG g h=true:=λi g h c l=>by have m:=(eZ.1 l).1;have:=n (i+1) m;rw [Zhv (Zbx this) O,eT,getD_some c,getD_some l]at this;exact this
 refine⟨⟨λg c=>(Ib (hi g c) (j g c)).t2,λi g h c l=>?_⟩,j,f⟩;have:=f i g h c l;unfold meG Zlo at this;rw [aS,fG]at this;exact this.1
structure Pat (fr to:Int) (ps qs:List Zt):Prop where
 gin:∀q∈qs,Gin q
 pb:Pi qs=true
 len:qs.length=(ps.filter (Kw fr to)).length
 prt:∀(j:Nat) (q:Zt),qs[j]? = some q->∃f:Zt,(ps.filter (Kw fr to))[j]? = some f/\f∈ps/\Prt q f (cG fr to f)
 nxt:∀(j:Nat) (q r:Zt),qs[j]? = some q->qs[j+1]? = some r->∃(i:Nat) (f h:Zt),ps[i]? = some f/\ps[i+1]? = some h/\Prt q f (cG fr to f)/\Prt r h (cG fr to h)/\q.1.2.1=f.1.2.1/\r.1.1=h.1.1
theorem Yj1{fr d:Int} : ∀{ps:List Zt},Chn ps->ps≠[]->spF ps<=fr->fr<d->d<=spL ps->ps.filter (Kw fr d)≠[]
 | [],_,h,_,_,_=>absurd rfl h
 | g::r,hc,_,l,h2,c=>by
  have n:=hc.lt g O5;have l:g.1.1<=fr:=l;by_cases f:Kw fr d g=true
  .rw [fI f];exact List.cons_ne_nil _ _
  .have j:¬cA fr g<cB d g:=λh=>f (aL h);have e:g.1.2.1<=fr:=by unfold cA cB at j;omega
   rw [iK f]
   match r,hc,c with
   | [],_,c=>
    have c:d<=g.1.2.1:=c;omega
   | h::r,hc,c=>
    have m:=hc.eq 0 g h rfl rfl;refine Yj1 hc.tail (List.cons_ne_nil _ _) (by show h.1.1<=fr;omega) h2 ?_;have:spL (g::h::r)=spL (h::r):=by unfold spL;simp
    rw [<-this];exact c
theorem bl_dl{a b:Int}{n:Nat}(h:bl a.natAbs<=n):bl (a/b).natAbs<=n:=by rw [Qm]at h ⊢;exact aZ (jO a b) h
def jqP(fr g f:Int)(x y z:List Int)(c e d:Int)(h j l:List Int)(i:Nat):Prop:=qr (bgS (Zp i h j l)) (Ay [d,e-c])=qr (enS (Zp i x y z)) (Ay [f,g-fr])
def refS(o:Nat)(x y z:List Int):Nat->List Int
 | 0=>[]
 | i+1=>Fh (refS o x y z i) (Qn (dN o (tzl (Zp i x y z))) (dN o (tzl (Zp i x y z))))
def refC(o:Nat)(m c T:Int):Int:=m^2*c^2*T^(2*o)
def refF(o:Nat)(m c T:Int)(x y z:List Int):List Int:=Di (tzl [refC o m c T]) (Zs (refS o x y z 3) (1000^(2*o)))
theorem ps_Cm(a b:Int):PS.C (a*b)=PS.C a*PS.C b:=PS.ext' λi=>by rw [PS.C_mul_c];cases i<;>simp [PS.C]
theorem Ycv(p:List Int)(k:Int):Qn (Zs p k) (Zs p k)=Zs (Qn p p) (k*k):=(Qi _ _).ps_inj (Qd _ _) (by rw [Zjn,Zhr,Zhr,Zjn,ps_Cm];grind)
theorem sz_one{c:Int}{n:Nat}(h:bl c.natAbs<=n):Sz n [c]:=Sz.of_mem λt d=>by rw [bC.1 d];exact h
def frB(ps:List Zt)(d c:Int)(i:Nat):Int:=
 if 0<i/\joG (ps.getD (i-1) G0) (ps.getD i G0)=false then 1 else if Gl (Yi0 1 d (ps.getD i G0))=true then 2 else if Gl (Yi0 2 c (ps.getD i G0))=true then 3 else 0
def fiB(ps:List Zt)(d c:Int):Option (Nat×Int):=((List.range ps.length).find? λi=>decide (frB ps d c i≠0)).map λi=>(i,frB ps d c i)
def fiI(o:Option (Nat×Int)):Int:=match o with
 | none=>0
 | some g=>g.1
def fiC(o:Option (Nat×Int)):Int:=match o with
 | none=>0
 | some g=>g.2
abbrev firV (o:Option (Nat×Int)):Value:= .tuple #[.agg #[.int .i64 (fiI o),.int .i64 (fiC o)],.bool o.isSome,.int .i64 0]
theorem Yka(h:Tr p)(c:p≠[]):(0:Rat)<(Ys p:Rat):=by have d:=Ck h c;have e:=Nk p;exact_mod_cast (show 0<Ys p by omega)
def spd(o:Nat)(x y z:List Int)(u:Rat):Rat:=Zf (refS o x y z 3) u
def lstB(o:Nat)(ps:List Zt):Nat:=Yl4 (λn=>Yig o ps (n:Int)) 14 0 10000
def lsV(o:Nat)(ps:List Zt):Nat:=if Yig o ps 10000 then lstB o ps else 0
theorem Zno(a b:Bool):a=false\/(a=true/\b=false)\/(a=true/\b=true):=by cases a<;>cases b<;>simp
def dR(o:Nat)(c:List Int)(u:Rat):Rat:=Zf (dN o (tzl c)) u
theorem Prt.num{g:Zt}(h:Prt q g G):∃v s:Rat,0<=v/\0<s/\v+s<=1/\s*((g.1.2.1-g.1.1:Int):Rat)=((q.1.2.1-q.1.1:Int):Rat)/\v*((g.1.2.1-g.1.1:Int):Rat)=((q.1.1-g.1.1:Int):Rat)/\(0:Rat)<((g.1.2.1-g.1.1:Int):Rat)/\
  ∀i (u:Rat),Zf (Zp i q.2.1.2 q.2.2.1.2 q.2.2.2.2) u*(G:Rat)=((g.1.2.1-g.1.1:Int):Rat)^5*Zf (Zp i g.2.1.2 g.2.2.1.2 g.2.2.2.2) (v+s*u):=by
 have l:=h.a0;have m:=h.b0;have n:=h.ab;have y:=h.x;generalize g.1.2.1-g.1.1=d at *;generalize q.1.2.1-q.1.1=b at *;generalize q.1.1-g.1.1=a at *;have f:(0:Rat)<(d:Rat):=by exact_mod_cast (show 0<d by omega)
 have o:(0:Rat)<=(a:Rat):=by exact_mod_cast l
 have w:(0:Rat)<(b:Rat):=by exact_mod_cast m
 have t:(a:Rat)+(b:Rat)<=(d:Rat):=by exact_mod_cast n
 have hi:0<(d:Rat)⁻¹:=fZ.2 f;have c:(a:Rat)/d*d=a:=nU O4;have e:(b:Rat)/d*d=b:=nU O4;refine⟨(a:Rat)/d,(b:Rat)/d,?_,?_,?_,e,c,f,λi u=>y i _ u (by
  have j:(b:Rat)/d*u*d=((b:Rat)/d*d)*u:=by rw [kJ,kF u,<-kJ]
  rw [Rat.add_mul,c,j,e])⟩
 .rw [jH];exact aJ o (dE hi)
 .rw [jH];exact bB w hi
 .have:((a:Rat)/d+b/d)*d<=1*d:=by rw [Rat.add_mul,c,e];grind
  exact Rat.le_of_mul_le_mul_right this f
def Zxm{fr c:Int}{ps:List Zt}(h:Ol fr c ps=true):Zu4 fr c ps=0:=aG h
theorem Zxl{fr c:Int}{ps:List Zt}(h:Ol fr c ps=false):Zu4 fr c ps=7:=aD (by rw [h];exact dC)
def lh_M{fr d:Int}{ps:List Zt}(hi:∀g∈ps,Gin g)(e:Pi ps=true):∀g∈ps,Kw fr d g=true->MdG fr d g:=λg c f=>Zww (hi g c) ((Zcw hi e).2.1 g c) f
def inn(fr c:Int)(ps:List Zt):List Int:=(ps.filter λg=>decide (fr<g.1.1) && decide (g.1.1<c)).map λg=>g.1.1
theorem inn_t{fr c:Int}{ps:List Zt}(f:k<ps.length)(d:fr<(ps.getD k G0).1.1)(e:(ps.getD k G0).1.1<c):inn fr c (ps.take (k+1))=inn fr c (ps.take k) ++ [(ps.getD k G0).1.1]:=by unfold inn;rw [Zhg (x:=ps.getD k G0) (by rw [aI,aN f];rfl),iO,dV];rw [show List.filter (λg:Zt=>decide (fr<g.1.1) && decide (g.1.1<c)) [ps.getD k G0]=[ps.getD k G0]from fI (by rw [aL d,aL e];rfl)];rfl
theorem inn_f{fr c:Int}{ps:List Zt}(e:k<ps.length)(h:¬(fr<(ps.getD k G0).1.1/\(ps.getD k G0).1.1<c)):inn fr c (ps.take (k+1))=inn fr c (ps.take k):=by
 unfold inn;rw [Zhg (x:=ps.getD k G0) (by rw [aI,aN e];rfl),iO,dV];rw [show List.filter (λg:Zt=>decide (fr<g.1.1) && decide (g.1.1<c)) [ps.getD k G0]=[] by rw [iK (λd=>by rw [aS]at d;exact h ⟨cC d.1,cC d.2⟩)];rfl]
 simp
theorem Zqi(fr c:Int)(ps:List Zt):(inn fr c ps).length<=ps.length:=by unfold inn;rw [aP];exact iX _ _
theorem Zz1{fr f:Int}{ps:List Zt} : x∈inn fr f ps↔∃g∈ps,g.1.1=x/\fr<x/\x<f:=by
 unfold inn;rw [fT];constructor
 .rintro⟨g,e,rfl⟩;obtain⟨d,c⟩:=gT.1 e;simp only [aS,dW]at c;exact⟨g,d,rfl,c.1,c.2⟩
 .rintro⟨g,e,rfl,d,c⟩;exact⟨g,gT.2 ⟨e,by simp [d,c]⟩,rfl⟩
def cmF(a b:List Zt):Int:=max (spF a) (spF b)
def Am(a b:List Zt):Int:=min (spL a) (spL b)
def Zfo(a b:List Zt)(i:Nat):List Int:=cmF a b::Am a b::((if 1<=i then inn (cmF a b) (Am a b) a else []) ++ (if 2<=i then inn (cmF a b) (Am a b) b else []))
def Nd(a b:List Zt):List Int:=Zsl (Zfo a b 2)
def Ew{α:Type _}(i:Nat)(a b:α):α:=if i=0 then a else b
theorem tms_s(h:i<2):Zfo a b (i+1)=Zfo a b i ++ inn (cmF a b) (Am a b) (Ew i a b):=by
 match i,h with
 | 0,_=>simp [Zfo,Ew]
 | 1,_=>simp [Zfo,Ew]
theorem Zab : x∈Nd a b↔x=cmF a b\/x=Am a b\/(cmF a b<x/\x<Am a b/\((∃g∈a,g.1.1=x)\/∃g∈b,g.1.1=x)):=by
 unfold Nd;rw [Zlm];show x∈cmF a b::Am a b::(inn _ _ a ++ inn _ _ b)↔_;rw [bQ,bQ,cY,Zz1,Zz1];constructor
 .rintro(h|h|⟨g,c,d,e,f⟩|⟨g,c,d,e,f⟩)
  .exact .inl h
  .exact .inr (.inl h)
  .exact .inr (.inr ⟨e,f,.inl ⟨g,c,d⟩⟩)
  .exact .inr (.inr ⟨e,f,.inr ⟨g,c,d⟩⟩)
 .rintro(h|h|⟨e,f,⟨g,c,d⟩|⟨g,c,d⟩⟩)
  .exact .inl h
  .exact .inr (.inl h)
  .exact .inr (.inr (.inl ⟨g,c,d,e,f⟩))
  .exact .inr (.inr (.inr ⟨g,c,d,e,f⟩))
def Ybu(a b:List Zt):Sst (Nd a b) (Nd a b).length:=Zyj (Zly _)
theorem Zt7(x:Int):∀l:List Int,(Zlx x l).length<=l.length+1
 | []=>aH _
 | y::l=>by
  have:=Zt7 x l;unfold Zlx;split
  .exact aH _
  .split
   .exact Nat.le_succ _
   .simp only [dM];omega
theorem Zt4:∀l:List Int,(Zsl l).length<=l.length
 | []=>aH _
 | x::l=>by have:=Zt4 l;have:=Zt7 x (Zsl l);show(Zlx x (Zsl l)).length<=_;simp only [dM];omega
theorem Zqh(a b:List Zt)(i:Nat):(Zfo a b i).length<=2+a.length+b.length:=by have c:=Zqi (cmF a b) (Am a b) a;have d:=Zqi (cmF a b) (Am a b) b;unfold Zfo;split<;>split<;>simp<;>omega
def Zqj(a b:List Zt):(Nd a b).length<=2+a.length+b.length:=aB (Zt4 _) (Zqh a b 2)
structure Bks (a b:List Zt):Prop where
 two:2<=(Nd a b).length
 hd:(Nd a b).getD 0 0=cmF a b
 ls:(Nd a b).getD ((Nd a b).length-1) 0=Am a b
 lt:∀k,k+1<(Nd a b).length->cmF a b<=(Nd a b).getD k 0/\(Nd a b).getD k 0<(Nd a b).getD (k+1) 0/\(Nd a b).getD (k+1) 0<=Am a b
 no:∀k,k+1<(Nd a b).length->∀g,g∈a\/g∈b->¬((Nd a b).getD k 0<g.1.1/\g.1.1<(Nd a b).getD (k+1) 0)
theorem bks(h:cmF a b<Am a b):Bks a b:=by
 have hs:=Ybu a b;have v:cmF a b∈Nd a b:=Zab.2 (.inl rfl);have w:Am a b∈Nd a b:=Zab.2 (.inr (.inl rfl));have f:∀x∈Nd a b,cmF a b<=x/\x<=Am a b:=λx D=>by rcases Zab.1 D with l|l|⟨l,o,_⟩<;>omega
 obtain⟨i,hi,t⟩:=Gs.1 v;obtain⟨j,M,u⟩:=Gs.1 w;have s:2<=(Nd a b).length:=by
  by_cases e:i=j
  .subst e;omega
  .omega
 have y:(Nd a b).getD 0 0=cmF a b:=by
  by_cases e:i=0
  .subst e;exact t
  .have l:=hs 0 i O hi;have o:=(f _ (Ze (zs:=Nd a b) (i:=0) (d:=0))).1;omega
 have F:(Nd a b).getD ((Nd a b).length-1) 0=Am a b:=by
  by_cases e:j=(Nd a b).length-1
  .rw [<-e];exact u
  .have l:=hs j ((Nd a b).length-1) O O;have o:=(f _ (Ze (zs:=Nd a b) (i:=(Nd a b).length-1) (d:=0))).2;omega
 refine⟨s,y,F,λk n=>⟨(f _ (Ze)).1,hs k (k+1) O n,(f _ (Ze n)).2⟩,λk n g m I=>?_⟩;have l:=(f _ (Ze (zs:=Nd a b) (i:=k) (d:=0))).1;have o:=(f _ (Ze (zs:=Nd a b) (i:=k+1) (d:=0) n)).2;have z:g.1.1∈Nd a b:=Zab.2 (.inr (.inr ⟨O,O,by
  rcases m with m|m
  .exact .inl ⟨g,m,rfl⟩
  .exact .inr ⟨g,m,rfl⟩⟩))
 obtain⟨q,B,H⟩:=Gs.1 z;rcases lT q k with c|c|c
 .have:=hs q k c O;omega
 .subst c;omega
 .rcases lT q (k+1)with d|d|d
  .omega
  .subst d;omega
  .have:=hs (k+1) q d B;omega
theorem Yba{fr c:Int}{g:Zt}(h:Kw fr c g=true):fr<g.1.2.1/\g.1.1<c:=by unfold Kw cA cB at h;have:=cC h;exact⟨O,O⟩
theorem Ya9{fr c:Int}{ps:List Zt}(e:Chn ps)(h:ps≠[])(o:spF ps<=fr)(s:fr<c)(t:c<=spL ps)(j:∀g∈ps,¬(fr<g.1.1/\g.1.1<c)):(ps.filter (Kw fr c)).length=1:=by
 have u:=Yj1 e h o s t;have l:0<(ps.filter (Kw fr c)).length:=aE.2 u;rcases bA 1 (ps.filter (Kw fr c)).length with d|d
 .exfalso;have m:=aN l;have n:=aN d;obtain⟨i,f1,f2⟩:=Zqq e 0 _ _ m n;have v:=(gT.1 (fO l)).2;have w:=(gT.1 (fO d)).2;have f:=(gT.1 (fO d)).1;have B:=e.eq i _ _ f1 f2;have y:=Yba v;have z:=Yba w;exact j _ f ⟨O,O⟩
 .omega
def Zgz(ts:List Int)(ps:List Zt):Nat->List Zvp
 | 0=>[]
 | n+1=>Zgz ts ps n ++ Zda (ts.getD n 0) (ts.getD (n+1) 0) ps
def Cn(ts:List Int)(a b:List Zt):Nat->Bool
 | 0=>true
 | n+1=>Cn ts a b n && (Ol (ts.getD n 0) (ts.getD (n+1) 0) a && Ol (ts.getD n 0) (ts.getD (n+1) 0) b)
def Zxo(a b:List Zt):Bool:=Cn (Nd a b) a b ((Nd a b).length-1)
def Dr(a b:List Zt):Int:=if cmF a b>=Am a b then 9 else if Zxo a b then 0 else 7
def Ik(a b ps:List Zt):List Zvp:=if Dr a b=0 then Zgz (Nd a b) ps ((Nd a b).length-1)else []
theorem Zu8{ts:List Int}{a b:List Zt} : ∀{n m:Nat},n<=m->Cn ts a b m=true->Cn ts a b n=true
 | n,0,h,c=>by obtain rfl:n=0:=O;rfl
 | n,m+1,h,c=>by
  rcases bA m n with d|d
  .obtain rfl:n=m+1:=O;exact c
  .refine Zu8 d ?_;have:Cn ts a b (m+1)=(Cn ts a b m && (Ol (ts.getD m 0) (ts.getD (m+1) 0) a && Ol (ts.getD m 0) (ts.getD (m+1) 0) b)):=rfl;rw [this,aS]at c;exact c.1
def tik(a b:List Zt)(i k:Nat):List Int:=Zfo a b i ++ inn (cmF a b) (Am a b) ((Ew i a b).take k)
theorem tik_0(a b:List Zt)(i:Nat):tik a b i 0=Zfo a b i:=by unfold tik;rw [dS];exact iS _
theorem tik_t(e:k<(Ew i a b).length)(c:cmF a b<((Ew i a b).getD k G0).1.1)(d:((Ew i a b).getD k G0).1.1<Am a b):tik a b i (k+1)=tik a b i k ++ [((Ew i a b).getD k G0).1.1]:=by unfold tik;rw [inn_t e c d,eC]
theorem tik_f(c:k<(Ew i a b).length)(h:¬(cmF a b<((Ew i a b).getD k G0).1.1/\((Ew i a b).getD k G0).1.1<Am a b)):tik a b i (k+1)=tik a b i k:=by unfold tik;rw [inn_f c h]
theorem tik_e(hi:i<2):tik a b i (Ew i a b).length=Zfo a b (i+1):=by unfold tik;rw [bL,tms_s hi]
theorem Zt5(a b:List Zt)(i:Nat):(Ew i a b).length<=a.length+b.length:=by unfold Ew;split<;>omega
theorem Ynl(a b:List Zt)(i k:Nat):(tik a b i k).length<=2+2*(a.length+b.length):=by have c:=Zqh a b i;have d:=Zqi (cmF a b) (Am a b) ((Ew i a b).take k);have e:=Zt5 a b i;have f:((Ew i a b).take k).length<=(Ew i a b).length:=List.length_take_le' _ _;unfold tik;rw [aY];omega
def tms_ne(a b:List Zt)(i:Nat):Zfo a b i≠[]:=λh=>nomatch h
theorem tms_2(a b:List Zt)(i:Nat):2<=(Zfo a b i).length:=by unfold Zfo;simp
section
variable {P:Program} {N:Nat} {sc:Nat->Prop} {env:Ob} {H:Hp}
theorem Ymg{f g sd:SL}(i j k n:Nat)(l:lk H j=some (Qh 6 Qw qG (Xq f) a))(m:lk H k=some (Qh 6 Qw qG (Xq g) b))(c:Nat.beq j 0=false)(d:Nat.beq k 0=false)(hi:i<2) :
  ∀e w,Sat N sc env H e w->Sat N sc env ((n,Qh 6 Qw qG (Xq ([f,g].getD i sd)) (Ew i a b))::H) e w:=by
 match i,hi with
 | 0,_=>exact Zcp j n l c rfl (λ_ h=>h) (λ_ h=>h) rfl
 | 1,_=>exact Zcp k n m d rfl (λ_ h=>h) (λ_ h=>h) rfl
end
theorem Zoq(h:cmF a b>=Am a b)(ps:List Zt):Dr a b=9/\Ik a b ps=[]:=by have e:Dr a b=9:=aG h;exact⟨e,by unfold Ik;rw [e];rfl⟩
theorem Zcc(h:¬cmF a b>=Am a b){n:Nat}(g:n+1<(Nd a b).length)(f:(Ol ((Nd a b).getD n 0) ((Nd a b).getD (n+1) 0) a && Ol ((Nd a b).getD n 0) ((Nd a b).getD (n+1) 0) b)=false)(ps:List Zt):Dr a b=7/\Ik a b ps=[]:=by
 have k:Zxo a b=false:=by
  cases hk:Zxo a b with
  | false=>rfl
  | true=>
   have c:=Zu8 (n:=n+1) O hk;have d:Cn (Nd a b) a b (n+1)=(Cn (Nd a b) a b n && (Ol ((Nd a b).getD n 0) ((Nd a b).getD (n+1) 0) a && Ol ((Nd a b).getD n 0) ((Nd a b).getD (n+1) 0) b)):=rfl;rw [d,f,mZ]at c;exact c.symm
 have e:Dr a b=7:=by unfold Dr;rw [aD h,k];rfl
 exact⟨e,by unfold Ik;rw [e];rfl⟩
theorem Zor(h:¬cmF a b>=Am a b){n:Nat}(d:n+1=(Nd a b).length)(c:Cn (Nd a b) a b n=true):Dr a b=0/\∀ps,Ik a b ps=Zgz (Nd a b) ps n:=by
 have k:Zxo a b=true:=by unfold Zxo;rw [show(Nd a b).length-1=n by omega];exact c
 have e:Dr a b=0:=by unfold Dr;rw [aD h,k];rfl
 exact⟨e,λps=>by unfold Ik;rw [e,aG rfl,show(Nd a b).length-1=n by omega]⟩
theorem com_k{n:Nat}(h:Cn (Nd a b) a b n=true)(c:Ol ((Nd a b).getD n 0) ((Nd a b).getD (n+1) 0) a=true)(d:Ol ((Nd a b).getD n 0) ((Nd a b).getD (n+1) 0) b=true):Cn (Nd a b) a b (n+1)=true:=by show(Cn (Nd a b) a b n && (_ && _))=true;rw [h,c,d];rfl
theorem Ybe{ps zs:List Zt}{n:Nat}(h:zs.map unS=Zgz ts ps n)(c:us.map unS=Zda (ts.getD n 0) (ts.getD (n+1) 0) ps):(zs ++ us).map unS=Zgz ts ps (n+1):=by rw [dV,h,c];rfl
theorem com_u{ps:List Zt}{fr c:Int}(hi:∀g∈ps,Gin g)(h:Pi ps=true)(l:spF ps<=fr)(m:fr<c)(n:c<=spL ps)(d:∀g∈ps,¬(fr<g.1.1/\g.1.1<c))(s:Ol fr c ps=true)(t:us.map unS=Zda fr c ps):us.length=1:=by have j:=(Gg h).2.1;have o:=Ya9 (Zcw hi h).1 (λe=>by rw [e]at j;simp at j) l m n d;have f:=aF List.length t;rw [aP]at f;rw [f];unfold Zda;rw [aG s,aP,o]
theorem Ykc{n:Nat}(hi:∀g∈a,Gin g)(h:Pi a=true)(B:Bks a b)(c:n+1<(Nd a b).length)(j:Ol ((Nd a b).getD n 0) ((Nd a b).getD (n+1) 0) a=true)(m:us.map unS=Zda ((Nd a b).getD n 0) ((Nd a b).getD (n+1) 0) a):us.length=1:=by obtain⟨d,e,f⟩:=B.lt n c;unfold cmF at d;unfold Am at f;exact com_u hi h O e O (λg l=>B.no n c g (.inl l)) j m
theorem Ykb{n:Nat}(hi:∀g∈b,Gin g)(h:Pi b=true)(B:Bks a b)(c:n+1<(Nd a b).length)(j:Ol ((Nd a b).getD n 0) ((Nd a b).getD (n+1) 0) b=true)(m:us.map unS=Zda ((Nd a b).getD n 0) ((Nd a b).getD (n+1) 0) b):us.length=1:=by obtain⟨d,e,f⟩:=B.lt n c;unfold cmF at d;unfold Am at f;exact com_u hi h O e O (λg l=>B.no n c g (.inr l)) j m
theorem Zxq{a b:Bool}(h:¬(a=true/\b=true)):a=false\/(a=true/\b=false):=by cases a<;>cases b<;>simp_all
theorem Zib{a b:Bool}(h:a=false):(a && b)=false:=by rw [h];rfl
theorem Zia{a b:Bool}(h:b=false):(a && b)=false:=by rw [h];exact mZ _
end Go.Sky
namespace Go.Sky
variable{o:Oper}{x y:Operand}{t:TypeId}{i M:Nat}{kd:IntKind}{c p q ns:List Int}{f:Nat->List Int}
section
variable {P:Program} {N:Nat} {sc:Nat->Prop} {env:Ob} {H:Hp}
theorem d_ix4   {e:TypeId}   {m d g h j:Int} (s:o.op= .index t x y) (v:ev env x=some (.agg #[.int .i64 d,.int .i64 g,.int .i64 h,.int .i64 j])) (z:ev env y=some (.int kd m))
  (u:P.underlying t=some (.array 4 e)) (n:∀w,(sizeOf e).run P w= .ok 1 w) (l:∀w,(isAgg e).run P w= .ok false w) (b:m=(i:Int)) (r:i<4):Mz P N sc o env H (.int .i64 ([d,g,h,j].getD i 0)):=λa w hs=>by
 subst b;have k:i=0\/i=1\/i=2\/i=3:=O;rcases k with rfl|rfl|rfl|rfl<;>simp [execOp,s,hs.ev v,hs.ev z,Instr.index,asIntOf,run_underlying u,n,l,asAgg,part]
theorem d_ix9   {e:TypeId}   {m d g h:Int} {n r s j k l:Value} (D:o.op= .index t x y) (G:ev env x=some (.agg #[n,j,.int .i64 d,r,k,.int .i64 g,s,l,.int .i64 h])) (I:ev env y=some (.int kd m))
  (F:P.underlying t=some (.array 3 e)) (z:∀w,(sizeOf e).run P w= .ok 3 w) (v:∀w,(isAgg e).run P w= .ok true w) (b:m=(i:Int)) (B:i<3):Mz P N sc o env H (.agg #[Zp i n r s,Zp i j k l,.int .i64 (Zp i d g h)]):=λa w hs=>by
 subst b;have u:i=0\/i=1\/i=2:=O;rcases u with rfl|rfl|rfl<;>simp [execOp,D,hs.ev G,hs.ev I,Instr.index,asIntOf,run_underlying F,z,v,asAgg,part,Zp]
end
def KA:Nat:=360287970189639680
theorem AxC.ka{a:Int}(h:AxC c a)(b:1<=a)(d:a<=4294967296):Ab KA (tzl c):=λk=>by have:=h.cg k;rw [Mu];unfold KA;omega
def BG:Nat:=2^250*2^250
theorem bl_two{a b x:Nat}(h:x<2^a*2^b):bl x<=a+b:=(Qm (a+b) x).2 (by rw [bT];exact h)
def Zve{x:Nat}(h:x<BG):bl x<=500:=bl_two (a:=250) (b:=250) h
def Ab.sg(h:Ab M p)(a:M<BG):Sz 500 p:=λi=>Zve (aZ (h i) a)
def Fx(h:Ab M p)(a:M<BG)(d:Tr p)(b:p.length<=25):Vp p:=⟨(h.sg a).mono O3,d,b⟩
theorem Zsw{c:Int}(h:Ab M p)(b:M*c.natAbs<BG)(i:Nat):bl (cf p i*c).natAbs<=65536:=by have a:=Ev h c i;rw [Yj]at a;exact aB (Zve (aZ a b)) O3
theorem ad_ab{K:Nat}(h:Ab M p)(e:Ab K q)(d:M+K<BG)(i:Nat):bl (cf p i+cf q i).natAbs<=65536/\bl (cf p i-cf q i).natAbs<=65536:=by have a:=h i;have b:=e i;exact⟨aB (Zve (aZ (by omega:_<=M+K) d)) O3,aB (Zve (aZ (by omega:_<=M+K) d)) O3⟩
theorem mf_ab(h:Ab M p)(b:M<BG)(d:p.length<=11):¬Zaa p p:=λa=>by have m:=Qp (h.sg b);rcases a.2.2 with w|w<;>omega
def dfP(p q:List Int)(a b:Int):List Int:=Di (Zs (tzl p) b) (Zs (tzl q) a)
def dfK(p q:List Int)(a b k:Int):List Int:=Zs (dfP p q a b) k
def sqK(p q:List Int)(a b k:Int):List Int:=Qn (dfK p q a b k) (dfK p q a b k)
def sqP(p q:List Int)(a b:Int):List Int:=Qn (dfP p q a b) (dfP p q a b)
def KD:Nat:=KA*4294967296+KA*4294967296
structure FmX (p q:List Int) (a b k:Int):Prop where
 v1:Vp (tzl p)
 v2:Vp (tzl q)
 b1:bl b.natAbs<=65536
 a1:bl a.natAbs<=65536
 k1:bl k.natAbs<=65536
 s1:∀i,bl (cf (tzl p) i*b).natAbs<=65536
 s2:∀i,bl (cf (tzl q) i*a).natAbs<=65536
 v3:Vp (Zs (tzl p) b)
 v4:Vp (Zs (tzl q) a)
 s3:∀i,bl (cf (Zs (tzl p) b) i-cf (Zs (tzl q) a) i).natAbs<=65536
 v5:Vp (dfP p q a b)
 s4:∀i,bl (cf (dfP p q a b) i*k).natAbs<=65536
 v6:Vp (dfK p q a b k)
 m6:¬Zaa (dfK p q a b k) (dfK p q a b k)
 v7:Vp (sqK p q a b k)
 ab:Ab (6*((KD*100)*(KD*100))) (sqK p q a b k)
 l:(sqK p q a b k).length<=11
 m5:¬Zaa (dfP p q a b) (dfP p q a b)
 v8:Vp (sqP p q a b)
 ab8:Ab (6*((KD*100)*(KD*100))) (sqP p q a b)
 l8:(sqP p q a b).length<=11
theorem fmX{a b k:Int}(l:Ab KA (tzl p))(m:Ab KA (tzl q))(lp:p.length<=6)(V:q.length<=6)(B:1<=a/\a<=4294967296)(D:1<=b/\b<=4294967296)(W:1<=k/\k<=100):FmX p q a b k:=by
 have r:(tzl p).length<=6:=aB (Mo p) lp;have s:(tzl q).length<=6:=aB (Mo q) V;have u:Ab (KA*4294967296) (Zs (tzl p) b):=(Ev l b).mono (aX _ O);have v:Ab (KA*4294967296) (Zs (tzl q) a):=(Ev m a).mono (aX _ O);have d:Ab KD (dfP p q a b):=Yk9 u v;have e:Ab (KD*100) (dfK p q a b k):=(Ev d k).mono (aX _ O);have j:Ab (KD*100) (dfP p q a b):=d.mono O6;have R:(Zs (tzl p) b).length<=6:=aB (Pu _ _) r;have S:(Zs (tzl q) a).length<=6:=aB (Pu _ _) s;have g:(dfP p q a b).length<=6:=Zz8 R S;have n:(dfK p q a b k).length<=6:=aB (Pu _ _) g;have t5:Tr (dfP p q a b):=Qf _;have t6:Tr (dfK p q a b k):=Qf _;have w:=Yla e e n;have z:=Yla j j g;have F:=Zz9 t6 t6 n n;have G:=Zz9 t5 t5 g g;have h:∀c:Int,1<=c/\c<=4294967296->bl c.natAbs<=65536:=λc Q=>aB ((Qm 40 _).2 O) O6;have I:∀c:Int,1<=c/\c<=4294967296->KA*c.natAbs<BG:=λc Q=>aZ (aX KA (by omega:c.natAbs<=4294967296)) O6;exact⟨Fx l O6 (Qf _) O,Fx m O6 (Qf _) O,h b D,h a B,h k O,Zsw l (I b D),Zsw m (I a B),
  Fx u O6 (Qf _) O,Fx v O6 (Qf _) O,λi=>(ad_ab u v O6 i).2,Fx d O6 t5 O,
  Zsw d (aZ (aX KD (by omega:k.natAbs<=100)) O6),Fx e O6 t6 O,mf_ab e O6 O,Fx w O6 (Qi _ _) (by have:(sqK p q a b k).length<=_:=F;omega),w,F,
  mf_ab j O6 O,Fx z O6 (Qi _ _) (by have:(sqP p q a b).length<=_:=G;omega),z,G⟩
def ngC(ns:List Int):Nat->List Int
 | 0=>[-1]
 | i+1=>Zs (Zs (ngC ns i) (ns.getD i 0)) (ns.getD i 0)
def sqN(ns:List Int):Nat->Nat
 | 0=>1
 | i+1=>sqN ns i*(ns.getD i 0).natAbs*(ns.getD i 0).natAbs
theorem Zwt(ns:List Int):∀i,Ab (sqN ns i) (ngC ns i)/\(ngC ns i).length<=1/\Tr (ngC ns i)
 | 0=>⟨λi=>by
   match i with
   | 0=>show(cf [-1] 0).natAbs<=1;decide
   | i+1=>show(cf [-1] (i+1)).natAbs<=1;rw [Yf O5];decide,aH _,show Tr [-1]from .inr O3⟩
 | i+1=>by obtain⟨a,b,d⟩:=Zwt ns i;exact⟨Ev (Ev a _) _,aB (Pu _ _) (aB (Pu _ _) b),Qf _⟩
theorem Yff{ns:List Int}{B:Nat}(h:∀i,(ns.getD i 0).natAbs<=B):∀i,sqN ns i<=(B*B)^i
 | 0=>aH _
 | i+1=>by rw [bW,<-cT];exact aQ (aQ (Yff h i) (h i)) (h i)
structure NgX (ns:List Int) (i:Nat):Prop where
 b:bl (ns.getD i 0).natAbs<=65536
 inn:Nx (ns.getD i 0)
 v:Vp (ngC ns i)
 s:∀k,bl (cf (ngC ns i) k*ns.getD i 0).natAbs<=65536
 v2:Vp (Zs (ngC ns i) (ns.getD i 0))
 s2:∀k,bl (cf (Zs (ngC ns i) (ns.getD i 0)) k*ns.getD i 0).natAbs<=65536
theorem ngX(h:∀i,(ns.getD i 0).natAbs<=4294967296)(hi:i<=4):NgX ns i:=by obtain⟨j,n,k⟩:=Zwt ns i;have e:=Yff h i;have g:(4294967296*4294967296)^i<=(4294967296*4294967296)^4:=dH O6 hi;have a:Ab ((4294967296*4294967296)^4) (ngC ns i):=j.mono (aB e g);have b:=h i;have d:Ab ((4294967296*4294967296)^4*4294967296) (Zs (ngC ns i) (ns.getD i 0)):=(Ev a _).mono (aX _ b);have l:(4294967296*4294967296)^4*(ns.getD i 0).natAbs<BG:=aZ (aX _ b) O6;have m:(4294967296*4294967296)^4*4294967296*(ns.getD i 0).natAbs<BG:=aZ (aX _ b) O6;exact⟨aB ((Qm 40 _).2 O) O6,⟨O,O⟩,Fx a O6 k O,Zsw a l,Fx d O6 (Qf _) (aB (Pu _ _) O),Zsw d m⟩
def smP(c:List Int)(f:Nat->List Int):Nat->List Int
 | 0=>c
 | i+1=>Fh (smP c f i) (f i)
theorem Yfm{c:List Int}{f:Nat->List Int}{C F:Nat}(a:Ab C c)(d:c.length<=11)(g:Tr c)(b:∀i,Ab F (f i))(e:∀i,(f i).length<=11):∀i,Ab (C+i*F) (smP c f i)/\(smP c f i).length<=11/\Tr (smP c f i)
 | 0=>⟨by rw [gI];exact a,d,g⟩
 | i+1=>by obtain⟨h,j,k⟩:=Yfm a d g b e i;exact⟨by rw [dA,<-fR];exact Zx9 h (b i),Zqk j (e i),Qf _⟩
structure SmX (c:List Int) (f:Nat->List Int):Prop where
 v:∀i,i<=3->Vp (smP c f i)
 s:∀i,i<3->∀k,bl (cf (smP c f i) k+cf (f i) k).natAbs<=65536
 d:Cvd (Zx (smP c f 3))
theorem smX(m:Ab (2^190) c)(s:c.length<=1)(r:Tr c)(l:∀i,Ab (6*((KD*100)*(KD*100))) (f i))(n:∀i,(f i).length<=11):SmX c f:=by
 have b:=Yfm m O r l n;have g:∀i,i<=3->2^190+i*(6*((KD*100)*(KD*100)))<2^205:=λi hi=>aZ (Nat.add_le_add_left (aK _ hi) _) O6;have a:(2:Nat)^205<BG:=O6;refine⟨λi hi=>?_,λi hi k=>?_,?_⟩
 .obtain⟨d,j,h⟩:=b i;exact Fx d (jM (g i hi) a) h O
 .obtain⟨d,j,h⟩:=b i;refine(ad_ab d (l i) ?_ k).1;have:=g (i+1) hi;rw [dA]at this;have e:=jM this a;omega
 .obtain⟨d,j,h⟩:=b 3;have hs:=d.sz (g 3 (aH _));exact⟨Lp (Fx d (jM (g 3 (aH _)) a) h O),Hl hs,by rw [Zw];exact j⟩
end Go.Sky
namespace Go.Sky
variable{m D d ov fr2 to2 ov2 zd zn ze o:Int}{i k M F:Nat}{x y z c x2 y2 z2 xs Y Z q p:List Int}{a b ys:List Zt}{zs gs:List (Int×SL)}{f:Nat->List Int}
theorem fill33(u v w B G H I N P e g h j l n r s t:Value):Instr.fill (λi=>some (i*3,3)) #[u,v,w,B,G,H,I,N,P] [(0,.agg #[e,g,h]),(1,.agg #[j,l,n]),(2,.agg #[r,s,t])]=some #[e,g,h,j,l,n,r,s,t]:=by simp [Instr.fill,Value.cells]
theorem fillG(j l n e g h:Value):Instr.fill (λi=>some (i*3,3)) ((List.range (1*3)).map ((Value.agg #[j,l,n]).cells[· % (Value.agg #[j,l,n]).cells.size]!)).toArray [(0,.agg #[e,g,h])]=some #[e,g,h]:=by
 simp [Instr.fill,Value.cells,List.range,List.range.loop]
 try rfl
def Ydv(m:Int)(l:List Int):Bool:=l.all λx=>decide (-m<=x) && decide (x<=m)
theorem insB_t{l:List Int}(h:∀i,i<l.length->-m<=l.getD i 0/\l.getD i 0<=m):Ydv m l=true:=cP.2 λx n=>by obtain⟨k,j,rfl⟩:=Gs.1 n;obtain⟨e,g⟩:=h k j;rw [aL e,aL g];rfl
theorem Yik{l:List Int}(hi:i<l.length)(h:¬(-m<=l.getD i 0/\l.getD i 0<=m)):Ydv m l=false:=by
 cases hb:Ydv m l with
 | false=>rfl
 | true=>
  have:=cP.1 hb _ (Ze (d:=0) hi);rw [aS]at this;exact absurd ⟨cC this.1,cC this.2⟩ h
def ptB(x y z:Int):Bool:=Ydv 1048576 [x,y,z]
theorem pt_b{x y z:Int}(h:ptB x y z=true):(-1048576<=x/\x<=1048576)/\(-1048576<=y/\y<=1048576)/\(-1048576<=z/\z<=1048576):=by unfold ptB Ydv at h;simp only [nL,List.all_nil,Bool.and_true,aS,dW]at h;exact h
def znB(D n d:Int):Bool:=decide (1<=D/\D<=4194304/\1<=n/\n<=d/\d<=100)
def Yli{n:Int}(h:znB D n d=true):1<=D/\D<=4194304/\1<=n/\n<=d/\d<=100:=cC h
theorem Zef{x y:Int}{A B:Nat}(e:x.natAbs<=A)(g:y.natAbs<=B):(x*y).natAbs<=A*B:=by rw [cF];exact aQ e g
def ptsB(g h j l e r D n d:Int):Bool:=decide (D*d*(D*d)<=(g-l)*d*((g-l)*d)+(h-e)*d*((h-e)*d)+(j-r)*n*((j-r)*n))
theorem Ygw{a b c:Bool}(h:¬(a=true/\b=true/\c=true)):a=false\/(a=true/\b=false)\/(a=true/\b=true/\c=false):=by cases a<;>cases b<;>cases c<;>simp_all
def fqZ(n d ov ov2:Int)(x y z x2 y2 z2:List Int)(i:Nat):List Int:=sqK (Zp i x y z) (Zp i x2 y2 z2) ov ov2 (Zp i d d n)
def cnZ(D d ov ov2:Int):List Int:=ngC [D,d,ov,ov2] 4
def smZ(D n d ov ov2:Int)(x y z x2 y2 z2:List Int)(i:Nat):List Int:=smP (cnZ D d ov ov2) (fqZ n d ov ov2 x y z x2 y2 z2) i
def fmZ(D n d ov ov2:Int)(x y z x2 y2 z2:List Int):List Int:=Zx (smZ D n d ov ov2 x y z x2 y2 z2 3)
structure FzX (D n d ov ov2:Int) (x y z x2 y2 z2:List Int):Prop where
 X:∀i,FmX (Zp i x y z) (Zp i x2 y2 z2) ov ov2 (Zp i d d n)
 K:∀i,Nx (Zp i d d n)
 N:∀i,i<=4->NgX [D,d,ov,ov2] i
 Q:SmX (cnZ D d ov ov2) (fqZ n d ov ov2 x y z x2 y2 z2)
theorem Zao{fr s:Int}(h:Cg fr s ov x y z=true)(i:Nat):Ab KA (tzl (Zp i x y z)):=by unfold Cg Yci at h;simp only [aS,dW]at h;obtain⟨⟨⟨⟨⟨⟨⟨⟨t,u⟩,v⟩,e⟩,g⟩,j⟩,n⟩,r⟩,-⟩:=h;exact Cf (p:=λl=>Ab KA (tzl l)) ((AxC.of j).ka e g) ((AxC.of n).ka e g) ((AxC.of r).ka e g)
theorem fzX{fr N n:Int}(h:Sgo fr N ov x y z)(e:Sgo fr2 to2 ov2 x2 y2 z2)(u:∀i,Ab KA (tzl (Zp i x y z)))(g:∀i,Ab KA (tzl (Zp i x2 y2 z2)))(w:znB D n d=true):FzX D n d ov ov2 x y z x2 y2 z2:=by
 obtain⟨Q,P,R,S,V⟩:=Yli w;have B:=h.o1;have G:=h.o2;have H:=e.o1;have I:=e.o2;have s:∀i,1<=Zp i d d n/\Zp i d d n<=100:=λi=>Cf (p:=λk:Int=>1<=k/\k<=100) ⟨O,O⟩ ⟨O,O⟩ ⟨O,O⟩;have j:∀i,FmX (Zp i x y z) (Zp i x2 y2 z2) ov ov2 (Zp i d d n):=λi=>fmX (u i) (g i) (h.lc i).2 (e.lc i).2 ⟨B,G⟩ ⟨H,I⟩ (s i);have v:∀i,([D,d,ov,ov2].getD i 0).natAbs<=4294967296:=λi=>by
  match i with
  | 0=>show D.natAbs<=_;omega
  | 1=>show d.natAbs<=_;omega
  | 2=>show ov.natAbs<=_;omega
  | 3=>show ov2.natAbs<=_;omega
  | i+4=>show(0:Int).natAbs<=_;decide
 refine⟨j,λi=>?_,λi hi=>ngX v hi,?_⟩
 .obtain⟨l,r⟩:=s i;exact⟨O,O⟩
 .obtain⟨l,r,t⟩:=Zwt [D,d,ov,ov2] 4;refine smX (l.mono ?_) r t (λi=>(j i).ab) (λi=>(j i).l);show 1*D.natAbs*D.natAbs*d.natAbs*d.natAbs*ov.natAbs*ov.natAbs*ov2.natAbs*ov2.natAbs<=2^190;refine aB (aQ (aQ (aQ (aQ (aQ (aQ (aQ (aQ (aH 1) (show D.natAbs<=4194304 by omega)) (show D.natAbs<=4194304 by omega)) (show d.natAbs<=100 by omega)) (show d.natAbs<=100 by omega)) (show ov.natAbs<=4294967296 by omega)) (show ov.natAbs<=4294967296 by omega)) (show ov2.natAbs<=4294967296 by omega)) (show ov2.natAbs<=4294967296 by omega)) O6
theorem Yah{n:Int}(h:FzX D n d ov ov2 x y z x2 y2 z2):Cvd (fmZ D n d ov ov2 x y z x2 y2 z2):=by unfold fmZ smZ;exact h.Q.d
def tzlm1:(if 25<(tzl [(-1:Int)]).length then []else tzl [-1])=[-1]:=O3
abbrev GpT:=(Int×Int)×(SL×List Int)
abbrev Eo (g:GpT):Value:= .agg #[.int .i64 g.1.1,.int .i64 g.1.2,Xq g.2.1]
abbrev qGp (g:GpT):Pc:=Yw 2 wv (Xq g.2.1) g.2.2
abbrev Gp0:GpT:=((0,0),((none,0,0),[]))
abbrev GpU:=Int×Int×List Int
def unP(g:GpT):GpU:=(g.1.1,g.1.2,g.2.2)
def gpZ(D n d:Int)(g h:Zvp):GpU:=(g.1.1,g.1.2.1,fmZ D n d g.1.2.2 h.1.2.2 g.2.1 g.2.2.1 g.2.2.2 h.2.1 h.2.2.1 h.2.2.2)
def Bl(D n d:Int)(a b:List Zt):List GpU:=List.zipWith (gpZ D n d) (Ik a b a) (Ik a b b)
def Zh3(a b:List Zt):Int:=if Dr a b=9 then 0 else Dr a b
def Zrc(h:Dr a b≠0)(ps:List Zt):Ik a b ps=[]:=aD h
theorem Yiv{n:Int}(h:Dr a b≠0):Bl D n d a b=[]:=by unfold Bl;rw [Zrc h];rfl
theorem Zlv{ts:List Int}{a b ps:List Zt}(e:∀k,Ol (ts.getD k 0) (ts.getD (k+1) 0) a=true->Ol (ts.getD k 0) (ts.getD (k+1) 0) b=true->k+1<ts.length->(Zda (ts.getD k 0) (ts.getD (k+1) 0) ps).length=1):∀n,n+1<=ts.length->Cn ts a b n=true->(Zgz ts ps n).length=n
 | 0,_,_=>rfl
 | n+1,j,g=>by have h:Cn ts a b (n+1)=(Cn ts a b n && (Ol (ts.getD n 0) (ts.getD (n+1) 0) a && Ol (ts.getD n 0) (ts.getD (n+1) 0) b)):=rfl;rw [h,aS,aS]at g;show(Zgz ts ps n ++ Zda _ _ ps).length=_;rw [aY,Zlv e n O g.1,e n g.2.1 g.2.2 O]
theorem Yj5{ps:List Zt}{fr h:Int}(hi:∀g∈ps,Gin g)(l:Pi ps=true)(r:spF ps<=fr)(s:fr<h)(t:h<=spL ps)(j:∀g∈ps,¬(fr<g.1.1/\g.1.1<h))(u:Ol fr h ps=true):(Zda fr h ps).length=1:=by have n:=(Gg l).2.1;unfold Zda;rw [aG u,aP,Ya9 (Zcw hi l).1 (λe=>by rw [e]at n;simp at n) r s t j]
theorem Zxp(a b:List Zt):Dr a b=9\/Dr a b=0\/Dr a b=7:=by
 unfold Dr;split
 .exact .inl rfl
 .split
  .exact .inr (.inl rfl)
  .exact .inr (.inr rfl)
theorem comE_0(h:Dr a b=0):¬cmF a b>=Am a b/\Zxo a b=true:=by
 unfold Dr at h;by_cases e:cmF a b>=Am a b
 .rw [aG e]at h;exact absurd h O3
 .rw [aD e]at h;cases hk:Zxo a b with
  | true=>exact⟨e,rfl⟩
  | false=>rw [hk]at h;exact absurd h O3
theorem Zrb(v:∀g∈a,Gin g)(w:∀g∈b,Gin g)(s:Pi a=true)(t:Pi b=true):(Ik a b a).length=(Ik a b b).length/\(Ik a b a).length<=2+a.length+b.length:=by
 by_cases h:Dr a b=0
 .obtain⟨R,G⟩:=comE_0 h;have B:=bks (a:=a) (b:=b) O;have Q:=B.two;have e:∀ps,Ik a b ps=Zgz (Nd a b) ps ((Nd a b).length-1):=λps=>aG h;have N:=Zlv (ts:=Nd a b) (a:=a) (b:=b) (ps:=a) (λk H I j=>by obtain⟨l,n,r⟩:=B.lt k j;unfold cmF at l;unfold Am at r;exact Yj5 v s O n O (λg u=>B.no k j g (.inl u)) H) ((Nd a b).length-1) O G
  have P:=Zlv (ts:=Nd a b) (a:=a) (b:=b) (ps:=b) (λk H I j=>by obtain⟨l,n,r⟩:=B.lt k j;unfold cmF at l;unfold Am at r;exact Yj5 w t O n O (λg u=>B.no k j g (.inr u)) I) ((Nd a b).length-1) O G
  have S:=Zqj a b;rw [e,e,N,P];exact⟨rfl,O⟩
 .rw [Zrc h,Zrc h];exact⟨rfl,bD _⟩
theorem Zh6{ps zs:List Zt}(hi:∀g∈ps,Gin g)(G:Pi ps=true)(N:zs.map unS=Ik a b ps):∀q∈zs,Gin q/\seB q=true:=by
 have t:∀n,∀u∈Zgz (Nd a b) ps n,∃(fr l:Int) (g:Zt),g∈ps/\Kw fr l g=true/\Zgy fr l g=true/\u=Zu3 fr l g:=λn=>by
  induction n with
  | zero=>intro u s;cases s
  | succ n P=>
   intro u s;rcases cY.1 (show u∈Zgz (Nd a b) ps n ++ _ from s)with h|h
   .exact P u h
   .unfold Zda at h;split at h
    .rename_i H;obtain⟨g,v,rfl⟩:=fT.1 h;obtain⟨e,r⟩:=gT.1 v;exact⟨_,_,g,e,r,cP.1 H g v,rfl⟩
    .cases h
 intro q I;have j:unS q∈Ik a b ps:=by rw [<-N];exact fT.2 ⟨q,I,rfl⟩
 unfold Ik at j;split at j
 .obtain⟨fr,l,g,e,r,w,B⟩:=t _ _ j;have:=Yoh (hi g e) ((Zcw hi G).2.1 g e) r w B;exact⟨this.1,this.2.1⟩
 .cases j
theorem zip_s{α β γ:Type}{f:α->β->γ} : ∀{l:List α} {m:List β} {k:Nat} {x:α} {y:β},l[k]? = some x->m[k]? = some y->(List.zipWith f l m).take (k+1)=(List.zipWith f l m).take k ++ [f x y]
 | [],_,_,_,_,h,_=>by simp at h
 | _::_,[],_,_,_,_,h=>by simp at h
 | a::l,b::m,0,x,y,h,h2=>by simp at h h2;subst h;subst h2;simp
 | a::l,b::m,k+1,x,y,h,h2=>by have:=zip_s (f:=f) (l:=l) (m:=m) (k:=k) (by simpa using h) (by simpa using h2);simp only [List.zipWith_cons_cons,kQ,this,iF]
def gpY(q:Zt)(g:SL×List Int):GpT:=((q.1.1,q.1.2.1),g)
theorem Yac{n:Int}{xs:List Zt}{zs:List GpT}{g:SL×List Int}(t:xs.map unS=Ik a b a)(u:ys.map unS=Ik a b b)(h:zs.map unP=(Bl D n d a b).take k)(j:k<xs.length)(e:k<ys.length)(s:g.2=fmZ D n d (xs.getD k G0).1.2.2 (ys.getD k G0).1.2.2 (xs.getD k G0).2.1.2 (xs.getD k G0).2.2.1.2 (xs.getD k G0).2.2.2.2 (ys.getD k G0).2.1.2 (ys.getD k G0).2.2.1.2 (ys.getD k G0).2.2.2.2) :
  (zs ++ [gpY (xs.getD k G0) g]).map unP=(Bl D n d a b).take (k+1):=by
 have l:(Ik a b a)[k]? = some (unS (xs.getD k G0)):=by rw [<-t,eR,aN j,aI,aN j];rfl
 have r:(Ik a b b)[k]? = some (unS (ys.getD k G0)):=by rw [<-u,eR,aN e,aI,aN e];rfl
 unfold Bl at h ⊢;rw [zip_s l r,dV,h,cJ,fS];simp only [gpY,unP,gpZ,unS];rw [s]
theorem Yit{n:Int}{xs:List Zt}{zs:List GpT}(g:xs.map unS=Ik a b a)(j:(Ik a b a).length=(Ik a b b).length)(h:zs.map unP=(Bl D n d a b).take xs.length):zs.map unP=Bl D n d a b:=by rw [h,bK];have e:=aF List.length g;rw [aP]at e;unfold Bl;rw [kT];omega
def Yix(h:Dr a b=9):Zh3 a b=0:=aG h
def Yiw(h:¬Dr a b=9):Zh3 a b=Dr a b:=aD h
theorem inI_o{fr e:Int}(h:Sgo fr e ov x y z):Nx ov:=⟨by have:=h.o1;omega,by have:=h.o2;omega⟩
def Zuh(l:List GpU):Option GpU:=l.find? λg=>Gl g.2.2
def Zfa(l:List GpU):Int×Int×Bool:=match Zuh l with
 | some g=>(g.1,g.2.1,true)
 | none=>(0,0,false)
theorem fst_n{l:List GpU}(h:∀i,i<l.length->Gl (l.getD i (0,0,[])).2.2=false):Zfa l=(0,0,false):=by
 have:Zuh l=none:=List.find?_eq_none.2 λg e=>by obtain⟨i,hi,rfl⟩:=eN.1 e;have:=h i hi;rw [aI,aN hi]at this;rw [show Gl (l[i]).2.2=false from this];exact dC
 unfold Zfa;rw [this]
theorem fst_s:∀{l:List GpU} {k:Nat},k<l.length->(∀i,i<k->Gl (l.getD i (0,0,[])).2.2=false)->Gl (l.getD k (0,0,[])).2.2=true->Zuh l=some (l.getD k (0,0,[]))
 | [],_,h,_,_=>absurd h (cI _)
 | g::l,0,_,_,h2=>mG (by exact h2)
 | g::l,k+1,h,h1,h2=>by have e:Zuh (g::l)=Zuh l:=mH (by rw [show Gl g.2.2=false from h1 0 (kE _)];exact dC);rw [e];exact fst_s (l:=l) (k:=k) (by simpa using h) (λi hi=>h1 (i+1) O) h2
theorem Fy(zs:List GpT)(k:Nat):(zs.map unP).getD k (0,0,[])=unP (zs.getD k Gp0):=by rw [aI,eR,aI];cases zs[k]?<;>rfl
theorem cvd_gp{n:Int}(t:∀g∈a,Gin g)(u:∀g∈b,Gin g)(h:Pi a=true)(j:Pi b=true)(W:znB D n d=true){xs:List Zt}(G:xs.map unS=Ik a b a)(H:ys.map unS=Ik a b b):∀g∈Bl D n d a b,Cvd g.2.2:=λg B=>by
 unfold Bl at B;obtain⟨k,R,e⟩:=eN.1 B;rw [List.getElem_zipWith]at e;subst e;rw [kT]at R;have l:k<(Ik a b a).length:=O;have s:k<(Ik a b b).length:=O;have q1:(Ik a b a)[k]∈xs.map unS:=by rw [G];exact fO l
 have q2:(Ik a b b)[k]∈ys.map unS:=by rw [H];exact fO s
 obtain⟨q,S,P⟩:=fT.1 q1;obtain⟨r,V,Q⟩:=fT.1 q2;obtain⟨I,v⟩:=Zh6 t h G q S;obtain⟨N,w⟩:=Zh6 u j H r V;rw [<-P,<-Q];simp only [gpZ,unS];exact Yah (fzX (Ib I v) (Ib N w) (Zao v) (Zao w) W)
def mkS(u:Zvp):Zt:=(u.1,((none,0,0),u.2.1),((none,0,0),u.2.2.1),((none,0,0),u.2.2.2))
theorem un_mk(l:List Zvp):(l.map mkS).map unS=l:=by rw [kW];exact List.map_id' _
theorem Yj0{n:Int}(l:∀g∈a,Gin g)(r:∀g∈b,Gin g)(e:Pi a=true)(j:Pi b=true)(u:znB D n d=true){zs:List GpT}(h:zs.map unP=Bl D n d a b)(s:k<zs.length):Cvd (zs.getD k Gp0).2.2:=by
 have t:unP (zs.getD k Gp0)∈Bl D n d a b:=by rw [<-h];exact fT.2 ⟨_,Ze s,rfl⟩
 exact cvd_gp l r e j u (un_mk (Ik a b a)) (un_mk (Ik a b b)) _ t
theorem fst_at{l:List GpU}{zs:List GpT}(h:zs.map unP=l)(e:k<zs.length)(j:∀i,i<k->Gl (zs.getD i Gp0).2.2=false)(g:Gl (zs.getD k Gp0).2.2=true):Zfa l=((zs.getD k Gp0).1.1,(zs.getD k Gp0).1.2,true):=by subst h;have:=fst_s (l:=zs.map unP) (k:=k) (by rw [aP];exact e) (λi hi=>by rw [Fy];exact j i hi) (by rw [Fy];exact g);unfold Zfa;rw [this,Fy];rfl
theorem fst_no{l:List GpU}{zs:List GpT}(h:zs.map unP=l)(e:∀i,i<zs.length->Gl (zs.getD i Gp0).2.2=false):Zfa l=(0,0,false):=by subst h;exact fst_n λi hi=>by rw [Fy];exact e i (by rw [aP]at hi;exact hi)
theorem Yny{n:Int}(r:∀g∈a,Gin g)(s:∀g∈b,Gin g)(j:Pi a=true)(l:Pi b=true){zs:List GpT}(h:zs.map unP=Bl D n d a b):zs.length<=2+a.length+b.length:=by have t:=Zrb r s j l;have e:=aF List.length h;rw [aP]at e;unfold Bl at e;rw [kT]at e;omega
def apZ(D n d:Int)(a b:List Zt):Bool:=decide (Zh3 a b=0) && !(Zfa (Bl D n d a b)).2.2
theorem ap_t{n:Int}(h:Zh3 a b=0):apZ D n d a b=!(Zfa (Bl D n d a b)).2.2:=by unfold apZ;rw [aL h];rfl
theorem Ypl{n:Int}(h:¬Zh3 a b=0):apZ D n d a b=false:=by unfold apZ;rw [aM h];rfl
def Db(a b k:Int):List Int:=if b-a=0\/k=2 then [a]else if k=1 then [a,b-a]else [a,0,0,10*(b-a),-15*(b-a),6*(b-a)]
def tmL_0{a b k:Int}(h:b-a=0\/k=2):Db a b k=[a]:=aG h
def tmL_1{a b k:Int}(h:¬(b-a=0\/k=2))(e:k=1):Db a b k=[a,b-a]:=(aD h).trans (aG e)
def tmL_2{a b k:Int}(h:¬(b-a=0\/k=2))(e:k≠1):Db a b k=[a,0,0,10*(b-a),-15*(b-a),6*(b-a)]:=(aD h).trans (aD e)
def lineG(k:Int)(s:SL×SL×SL):Zt:=((0,1000,1),(s.1,Db 0 300 k),(s.2.1,Db 0 400 k),(s.2.2,Db 0 0 k))
def stayG(s:SL×SL×SL):Zt:=((1000,2000,1),(s.1,Db 0 0 2),(s.2.1,Db 0 0 2),(s.2.2,Db 0 0 2))
theorem Ox{l:List Int}(h:l.all (λa=>decide (-9223372036854775808<=a/\a<=9223372036854775807))=true):∀a∈l,Nx a:=λa e=>by have:=cP.1 h a e;simp only [dW]at this;exact this
def Kg(g h j l e n k:Int)(s:SL×SL×SL):Zt:=((0,1000,1),(s.1,Db g l k),(s.2.1,Db h e k),(s.2.2,Db j n k))
def kn_f1:fmZ 100 1 2 1 1 (Db 0 0 2) (Db 0 0 2) (Db 0 0 2) (Db 0 0 2) (Db 0 0 2) (Db 200 200 2)=[]:=O6
def kn_f2:fmZ 100 1 2 1 1 (Db 0 0 2) (Db 0 0 2) (Db 0 0 2) (Db 0 0 2) (Db 0 0 2) (Db 100 100 2)=tzl [-1]:=O6
def kn_e1(s t:SL×SL×SL):Zh3 [Kg 0 0 0 400 0 0 1 s] [Kg 200 0 200 200 0 200 2 t]=0:=O7
def kn_a1(s t:SL×SL×SL):apZ 100 1 2 [Kg 0 0 0 400 0 0 1 s] [Kg 200 0 200 200 0 200 2 t]=true:=O7
def kn_a2(s t:SL×SL×SL):apZ 101 1 2 [Kg 0 0 0 400 0 0 1 s] [Kg 200 0 200 200 0 200 2 t]=false:=O7
def kn_p1(s:SL×SL×SL):Pi [Kg 0 0 0 400 0 0 1 s]=true:=O7
def kn_p2(s:SL×SL×SL):Pi [Kg 200 0 200 200 0 200 2 s]=true:=O7
def kn_s0:Cg 0 1000 1 (Db 0 0 2) (Db 0 0 2) (Db 0 0 2)=true:=O6
def kn_s1:Cg 0 1000 1 (Db 0 0 2) (Db 0 0 2) (Db 200 200 2)=true:=O6
def kn_s2:Cg 0 1000 1 (Db 0 0 2) (Db 0 0 2) (Db 100 100 2)=true:=O6
theorem kn_g1(s:SL×SL×SL):∀g∈[Kg 0 0 0 400 0 0 1 s],Gin g:=λg e=>by rw [bC.1 e];exact⟨show Nx (0:Int)from⟨O3,O3⟩,show Nx (1000:Int)from⟨O3,O3⟩,show Nx (1:Int)from⟨O3,O3⟩,show ∀a∈Db 0 400 1,Nx a from Ox O3,show ∀a∈Db 0 0 1,Nx a from Ox O3,show ∀a∈Db 0 0 1,Nx a from Ox O3⟩
theorem kn_g2(s:SL×SL×SL):∀g∈[Kg 200 0 200 200 0 200 2 s],Gin g:=λg e=>by rw [bC.1 e];exact⟨show Nx (0:Int)from⟨O3,O3⟩,show Nx (1000:Int)from⟨O3,O3⟩,show Nx (1:Int)from⟨O3,O3⟩,show ∀a∈Db 200 200 2,Nx a from Ox O3,show ∀a∈Db 0 0 2,Nx a from Ox O3,show ∀a∈Db 200 200 2,Nx a from Ox O3⟩
def sm_bl{x:Int}(h:x.natAbs<=1000000000000000000000000)(e:80<=M):bl x.natAbs<=M:=aB ((Qm 80 _).2 (aZ h O3)) e
def pt_1:ptB 0 0 0=true:=O3
theorem to_m1(e:Zb gs=tzl [-1]):Sz 1000000 (Zb gs)/\gs.length<=1000:=by have g:=aF List.length e;rw [Zi]at g;have j:(tzl [(-1:Int)]).length=1:=O3;refine⟨?_,O⟩;rw [e];exact(Sz.tzl (Zjc (λx h=>by rw [bC.1 h];exact⟨O3,O3⟩))).mono O
theorem i_le{l:List Int}(h:Zb zs=l){n:Nat}(e:l.length<=n):zs.length<=n:=by rw [<-Zi,h];exact e
theorem Zce{l:List Int}(h:Zb zs=l)(e:Vp l):Sz 1000000 (Zb zs):=by rw [h];exact e.sz.mono O3
def Cm{l:List Int}(h:Zb zs=l)(g:Vp l){n:Nat}(e:25<=n):zs.length<=n:=i_le h (aB g.len e)
abbrev TzT:=SL×List (Int×SL)
def sqF(ov ov2:Int)(x y z x2 y2 z2:List Int)(i:Nat):List Int:=sqP (Zp i x y z) (Zp i x2 y2 z2) ov ov2
def sqR(ov ov2:Int)(x y z x2 y2 z2:List Int):Nat->List (List Int)
 | 0=>[]
 | i+1=>sqR ov ov2 x y z x2 y2 z2 i ++ [sqF ov ov2 x y z x2 y2 z2 i]
theorem sqR_s{e:List TzT}{g:TzT}(h:e.map (λz=>Zb z.2)=sqR ov ov2 x y z x2 y2 z2 i)(j:Zb g.2=sqF ov ov2 x y z x2 y2 z2 i):(e ++ [g]).map (λz=>Zb z.2)=sqR ov ov2 x y z x2 y2 z2 (i+1):=by rw [dV,h,cJ,fS,j];rfl
theorem sqR_at{e:List TzT}(h:e.map (λz=>Zb z.2)=sqR ov ov2 x y z x2 y2 z2 3):e.length=3/\Zb (e.getD 0 T0).2=sqF ov ov2 x y z x2 y2 z2 0/\Zb (e.getD 1 T0).2=sqF ov ov2 x y z x2 y2 z2 1/\Zb (e.getD 2 T0).2=sqF ov ov2 x y z x2 y2 z2 2:=by
 have j:=aF List.length h;rw [aP]at j;have j:e.length=3:=j
 match e,j with
 | [a,b,c],_=>
  have g:[Zb a.2,Zb b.2,Zb c.2]=[sqF ov ov2 x y z x2 y2 z2 0,sqF ov ov2 x y z x2 y2 z2 1,sqF ov ov2 x y z x2 y2 z2 2]:=h;injection g with e0 g;injection g with e1 g;injection g with e2 g;exact⟨rfl,e0,e1,e2⟩
def ovW(ov ov2:Int):Int:=ov*ov2*(ov*ov2)
def rfL(zn ze ov ov2:Int)(x y z x2 y2 z2:List Int):List Int:=Fh (Zs (Fh (sqF ov ov2 x y z x2 y2 z2 0) (sqF ov ov2 x y z x2 y2 z2 1)) (ze*ze)) (Zs (sqF ov ov2 x y z x2 y2 z2 2) (zn*zn))
def rfW(zd ze ov ov2:Int):Int:=zd*zd*(ze*ze)*ovW ov ov2
def rfZ(zd zn ze ov ov2:Int)(x y z x2 y2 z2:List Int):List Int:=Di (rfL zn ze ov ov2 x y z x2 y2 z2) (tzl [rfW zd ze ov ov2])
theorem Yfg(p q:List Int)(a b k:Int):sqK p q a b k=Zs (sqP p q a b) (k*k):=by unfold sqK dfK sqP;exact Ycv _ _
def Zrl(w:Int):cf [w] 0=w:=rfl
theorem ab_one{w:Int}(h:w.natAbs<=M):Ab M (tzl [w]):=λi=>by
 rw [Mu]
 match i with
 | 0=>rw [Zrl];exact h
 | i+1=>rw [Yf O5];exact bD _
theorem Yde(w:Int)(i:Nat):cf [w] i=-(cf [-1] i*w):=by
 match i with
 | 0=>rw [Zrl,Zrl];omega
 | i+1=>rw [Yf O5,Yf O5];omega
theorem rf_eq(zd zn ze ov ov2:Int)(x y z x2 y2 z2:List Int):rfZ zd zn ze ov ov2 x y z x2 y2 z2=smZ zd zn ze ov ov2 x y z x2 y2 z2 3:=by
 have h:Tr (smZ zd zn ze ov ov2 x y z x2 y2 z2 3):=by unfold smZ;exact Qf _
 refine(Aq _ _).ext h λi=>?_;unfold rfL smZ;simp only [smP];rw [Ix,Ca,Yj,Ca,Yj,Ca,Ca,Ca,Mu];unfold fqZ;rw [Yfg,Yfg,Yfg,Yj,Yj,Yj];have e:cf (cnZ zd ze ov ov2) i=cf [-1] i*zd*zd*ze*ze*ov*ov*ov2*ov2:=by unfold cnZ;simp only [ngC,Yj,List.getD_cons_zero,nB]
 have g:=Yde (rfW zd ze ov ov2) i;rw [e,g];unfold rfW ovW sqF;simp only [Zp];generalize cf (sqP x x2 ov ov2) i=A;generalize cf (sqP y y2 ov ov2) i=B;generalize cf (sqP z z2 ov ov2) i=C;generalize cf [-1] i=D;grind
structure RfX (zd zn ze ov ov2:Int) (x y z x2 y2 z2:List Int):Prop where
 v0:∀i,Vp (sqF ov ov2 x y z x2 y2 z2 i)
 v1:Vp (Fh (sqF ov ov2 x y z x2 y2 z2 0) (sqF ov ov2 x y z x2 y2 z2 1))
 v2:Vp (Zs (Fh (sqF ov ov2 x y z x2 y2 z2 0) (sqF ov ov2 x y z x2 y2 z2 1)) (ze*ze))
 v3:Vp (Zs (sqF ov ov2 x y z x2 y2 z2 2) (zn*zn))
 v4:Vp (rfL zn ze ov ov2 x y z x2 y2 z2)
 v5:Vp (tzl [rfW zd ze ov ov2])
 v6:Vp (rfZ zd zn ze ov ov2 x y z x2 y2 z2)
 wb:bl (rfW zd ze ov ov2).natAbs<=1000000
 ob:bl (ov*ov2).natAbs<=1000
 oW:bl (ovW ov ov2).natAbs<=1000
 eb:bl (ze*ze).natAbs<=1000
 nb:bl (zn*zn).natAbs<=1000
 db:bl (zd*zd).natAbs<=1000
 xb:bl (zd*zd*(ze*ze)).natAbs<=1000
theorem rfX{fr to:Int}(w:Sgo fr to ov x y z)(e:Sgo fr2 to2 ov2 x2 y2 z2)(hA:∀i,Ab KA (tzl (Zp i x y z)))(u:∀i,Ab KA (tzl (Zp i x2 y2 z2)))(hz:znB zd zn ze=true):RfX zd zn ze ov ov2 x y z x2 y2 z2:=by
 obtain⟨z1,a7,z3,z4,z5⟩:=Yli hz;have o1:=w.o1;have o2:=w.o2;have o3:=e.o1;have o4:=e.o2;have hX:∀i,FmX (Zp i x y z) (Zp i x2 y2 z2) ov ov2 1:=λi=>fmX (hA i) (u i) (w.lc i).2 (e.lc i).2 ⟨o1,o2⟩ ⟨o3,o4⟩ ⟨O3,O3⟩;have s:=Zef (x:=ov) (y:=ov2) (A:=4294967296) (B:=4294967296) O O;have R:=Zef (x:=ov*ov2) (y:=ov*ov2) s s;have t:=Zef (x:=ze) (y:=ze) (A:=100) (B:=100) O O;have S:=Zef (x:=zn) (y:=zn) (A:=100) (B:=100) O O;have V:=Zef (x:=zd) (y:=zd) (A:=4194304) (B:=4194304) O O;have W:=Zef (x:=zd*zd) (y:=ze*ze) V t;have b7:=Zef (x:=zd*zd*(ze*ze)) (y:=ov*ov2*(ov*ov2)) W R;have hw:(rfW zd ze ov ov2).natAbs<=4194304*4194304*(100*100)*(4294967296*4294967296*(4294967296*4294967296)):=by unfold rfW ovW;exact b7
 have g:∀{v:Int} {M:Nat},v.natAbs<=M->M<BG->bl v.natAbs<=500:=λh hM=>Zve (aZ h hM);have j:∀i,Ab (6*((KD*100)*(KD*100))) (sqF ov ov2 x y z x2 y2 z2 i):=λi=>(hX i).ab8;have l:∀i,(sqF ov ov2 x y z x2 y2 z2 i).length<=11:=λi=>(hX i).l8;have t0:∀i,Tr (sqF ov ov2 x y z x2 y2 z2 i):=λi=>Qi _ _;have H:=Zx9 (j 0) (j 1);have l1:=Zqk (l 0) (l 1);have I:Ab ((6*((KD*100)*(KD*100))+6*((KD*100)*(KD*100)))*10000) (Zs (Fh (sqF ov ov2 x y z x2 y2 z2 0) (sqF ov ov2 x y z x2 y2 z2 1)) (ze*ze)):=(Ev H (ze*ze)).mono (aX _ t);have l2:=aB (Pu (Fh (sqF ov ov2 x y z x2 y2 z2 0) (sqF ov ov2 x y z x2 y2 z2 1)) (ze*ze)) l1;have N:Ab (6*((KD*100)*(KD*100))*10000) (Zs (sqF ov ov2 x y z x2 y2 z2 2) (zn*zn)):=(Ev (j 2) (zn*zn)).mono (aX _ S);have l3:=aB (Pu (sqF ov ov2 x y z x2 y2 z2 2) (zn*zn)) (l 2);have P:=Zx9 I N;have l4:=Zqk l2 l3;have Q:Ab (4194304*4194304*(100*100)*(4294967296*4294967296*(4294967296*4294967296))) (tzl [rfW zd ze ov ov2]):=ab_one hw;have l5:(tzl [rfW zd ze ov ov2]).length<=1:=Mo _;have a6:=Yk9 P Q;have l6:=Zz8 (n:=11) (q:=tzl [rfW zd ze ov ov2]) l4 O;have r:Ab ((6*((KD*100)*(KD*100))+6*((KD*100)*(KD*100)))*10000+6*((KD*100)*(KD*100))*10000+4194304*4194304*(100*100)*(4294967296*4294967296*(4294967296*4294967296))) (rfZ zd zn ze ov ov2 x y z x2 y2 z2):=by unfold rfZ rfL;exact a6
 have G:(rfZ zd zn ze ov ov2 x y z x2 y2 z2).length<=11:=by unfold rfZ rfL;exact l6
 have t6:Tr (rfZ zd zn ze ov ov2 x y z x2 y2 z2):=by unfold rfZ;exact Qf _
 constructor
 .exact(λi=>Fx (j i) O6 (t0 i) (aB (l i) O3))
 .exact(Fx H O6 (Qf _) (aB l1 O3))
 .exact(Fx I O6 (Qf _) (aB l2 O3))
 .exact(Fx N O6 (Qf _) (aB l3 O3))
 .exact(Fx P O6 (Qf _) (aB l4 O3))
 .exact(Fx Q O6 (Qf _) (aB l5 O3))
 .exact(Fx r O6 t6 (aB G O3))
 .exact(aB (g hw O6) O3)
 .exact(aB (g s O6) O3)
 .exact(aB (g R O6) O3)
 .exact(aB (g t O6) O3)
 .exact(aB (g S O6) O3)
 .exact(aB (g V O6) O3)
 .exact(aB (g W O6) O3)
theorem ov_b{fr h:Int}(g:Sgo fr h ov x y z)(e:Sgo fr2 to2 ov2 x2 y2 z2):bl (ov*ov2).natAbs<=1000000000:=by have j:=g.o1;have l:=g.o2;have n:=e.o1;have r:=e.o2;exact sm_bl (aB (Zef (x:=ov) (y:=ov2) (A:=4294967296) (B:=4294967296) O O) O3) O3
theorem Yml(h:Zb zs=rfZ zd zn ze ov ov2 x y z x2 y2 z2):zs.length≠0->Ys (Zb zs)≠0:=λg=>by
 have j:Zb zs≠[]:=λe=>g (by rw [<-Zi,e];rfl);have l:Tr (Zb zs):=by rw [h];unfold rfZ;exact Aq _ _
 have:=Yka l j;intro e;rw [e]at this;exact absurd this O3
theorem rf_fin{ys:List (Int×SL)}(h:Zb ys=Zx (Zb zs))(e:Zb zs=rfZ zd zn ze ov ov2 x y z x2 y2 z2):Zb ys=fmZ zd zn ze ov ov2 x y z x2 y2 z2:=by rw [h,e,rf_eq];unfold fmZ;rfl
def tpI(n k:Nat):Nat:=n/1000000000^k
theorem Ylu(n:Nat):tpI n (dg 1000000000 n).length=0:=by unfold tpI;exact cN ((Xm O3 _ n).1 (aH _))
theorem tpI_s(n k:Nat):tpI n (k+1)*1000000000+(dg 1000000000 n).getD k 0=tpI n k:=by unfold tpI;rw [He O3,bW,<-aU];omega
theorem Yeu(n:Nat):tpI n 0=n:=by unfold tpI;rw [fD,mY]
def tpI_le(n k:Nat):tpI n k<=n:=eH _ _
theorem Yad{g:Int}(e:0<=g)(l:List Int):∀k,k<=l.length->Ny g (l.take k)=(Int.gcd g (Ys (l.take k)):Int)
 | 0,_=>by rw [dS];show g=((Int.gcd g 0:Nat):Int);rw [nT];omega
 | k+1,h=>by rw [Bs g O,Lb O,Yad e l k O,Int.gcd_assoc]
def gcR(o:Int)(X Y Z:List Int):Nat->Int
 | 0=>o
 | i+1=>(Int.gcd (gcR o X Y Z i) (Ys (Zp i X Y Z)):Int)
theorem Zw3{o:Int}(e:0<o)(X Y Z:List Int):∀i,i<=3->gcR o X Y Z i=Ny o (Me i X Y Z)/\0<=gcR o X Y Z i
 | 0,_=>⟨rfl,eA e⟩
 | i+1,hi=>by obtain⟨g,h⟩:=Zw3 e X Y Z i O;refine⟨?_,nS _⟩;show((Int.gcd (gcR o X Y Z i) (Ys (Zp i X Y Z)):Nat):Int)=_;rw [Fs X Y Z O,Iz,<-g];have:=Yad h (Zp i X Y Z) (Zp i X Y Z).length (aH _);rw [bL]at this;exact this.symm
def gcR_A{X:List Int}(h:Mdh o X Y Z):gcR o X Y Z 3=Km o X Y Z:=(Zw3 h.o X Y Z 3 (aH _)).1
theorem Zgn{X:List Int}(h:Mdh o X Y Z)(hi:i<=3):bl (gcR o X Y Z i).natAbs<=1000:=by rw [(Zw3 h.o X Y Z i hi).1];have:=h.fc i 0;rw [dS]at this;exact this
structure Row3 (ws:List TzT) (X Y Z:List Int):Prop where
 l:ws.length=3
 e:∀i,i<3->Zb (ws.getD i T0).2=Zp i X Y Z
theorem Zs0{g:List TzT}{t:Nat}{j:TzT}(n:g.length=i)(h:∀t,t<i->Zb (g.getD t T0).2=f t)(s:Zb j.2=f i)(r:t<i+1):Zb ((g ++ [j]).getD t T0).2=f t:=by
 rcases bM.1 r with l|l
 .have e:(g ++ [j]).getD t T0=g.getD t T0:=by rw [aI,aI,cW O]
  rw [e];exact h t l
 .subst l;have e:(g ++ [j]).getD t T0=j:=by rw [aI,dK O,n,gX];rfl
  rw [e];exact s
theorem Zy2{e:List TzT}{a b:Int}(g:e.length=3)(h:∀t,t<3->Zb (e.getD t T0).2=Pb (Zp t x y z) a b d):Row3 e (Pb x a b d) (Pb y a b d) (Pb z a b d):=⟨g,λi hi=>by
 rw [h i hi]
 match i,hi with
 | 0,_=>rfl
 | 1,_=>rfl
 | 2,_=>rfl⟩
theorem Yjb(h:AxC c ov)(l:Zb zs=tzl c):5-max 0 ((zs.length:Int)-1)=((6-c.length:Nat):Int):=by
 have n:=h.l;have e:zs.length=(tzl c).length:=by rw [<-Zi,l]
 rcases Yk3 h with g|g
 .rw [e,g];omega
 .subst g;have j:(tzl [(0:Int)]).length=0:=O3;rw [e,j];decide
theorem Zjy(h:∀a∈c,Nx a)(j:c.length<=6)(g:Zb zs=tzl c):zs.length<=30/\Xo (Zb zs)+zs.length*(30+1)+1+zs.length+1+30<=900000:=by have e:zs.length<=6:=i_le g (aB (Mo c) j);have m:=Qp (p:=Zb zs) (n:=64) (by rw [g];exact(ab_in h).sz O3);have:=aK 31 e;exact⟨O,O⟩
def Zsv(fr e:Int)(g:Zt)(r:SL×SL×SL):Zt:=((cA fr g,cB e g,cO g/cG fr e g),(r.1,Hi (cX fr e g g.2.1.2) (cG fr e g)),(r.2.1,Hi (cX fr e g g.2.2.1.2) (cG fr e g)),(r.2.2,Hi (cX fr e g g.2.2.2.2) (cG fr e g)))
theorem cut_un{fr j:Int}{g:Zt}(r:SL×SL×SL)(h:Zgy fr j g=true):unS (Zsv fr j g r)=Zu3 fr j g:=by have e:cO g/cG fr j g<=4294967296:=cC h;unfold Zu3 unS Zsv mdO;rw [aG e,Zgg e,Zgg e,Zgg e]
theorem cutI_y{fr e:Int}{ps zs:List Zt}{x j:Zt}(h:Zq9 fr e ps k zs)(g:(ps.filter (Kw fr e))[k]? = some x)(r:Zgy fr e x=true)(s:unS j=Zu3 fr e x):Zq9 fr e ps (k+1) (zs ++ [j]):=by
 obtain⟨l,n⟩:=h;refine⟨?_,?_⟩
 .rw [dV,l,Zhg g,dV,cJ,fS,cJ,fS,s]
 .rw [Zhg g,mL,n];simp [r]
theorem Zyu{g:Zt}(h:seB g=true)(i:Nat):AxC (Zp i g.2.1.2 g.2.2.1.2 g.2.2.2.2) g.1.2.2:=by obtain⟨e,j,n⟩:=Zv4 h;exact Cf (p:=λl=>AxC l g.1.2.2) e j n
theorem Ybb{fr e:Int}{g:Zt}(j:SgG g)(h:Kw fr e g=true):g.1.1<=cA fr g/\cA fr g<cB e g/\cB e g<=g.1.2.1:=by have:=cC h;exact⟨Int.le_max_right _ _,this,Int.min_le_right _ _⟩
theorem fl_le(ps:List Zt)(p:Zt->Bool)(i:Nat):((ps.take i).filter p).length<=i:=by have:=iX p (ps.take i);have e:=List.length_take_le i ps;omega
theorem cut_t{fr e:Int}{ps:List Zt}(h:Zu4 fr e ps=0):Ol fr e ps=true:=by
 cases hb:Ol fr e ps with
 | true=>rfl
 | false=>rw [Zxl hb]at h;exact absurd h O3
open Go.Proofs.Tryz
open Go.Proofs
set_option synthInstance.maxHeartbeats 0
set_option synthInstance.maxSize 100000
set_option maxRecDepth 20000
set_option maxHeartbeats 1000000
set_option linter.unusedSimpArgs false
theorem Zze(x:Int)(v:Value)(w:x.natAbs<=9223372036854775807):Xs prog 279 #[.agg #[.bool (decide (x<0)),v]] [Ow v x.natAbs] (.int .i64 x):=by
 refine Zh func279 ntmps279 λH B u j=>?_;refine Pv (Le (i:=1) J Zq) λl=>go 2 ?_;refine Yg (Yh 2) λs _=>?_;refine go 19 ⟨O,?_⟩;refine lp (G:=Nat) [1] [0,1,2] (λk=>[(4,.int .i64 ((k:Int)-1)),(3,.int .i64 (tpI x.natAbs k:Int))]) (λk=>[]) (λk=>k<=(dg 1000000000 x.natAbs).length) (λk=>k) (dg 1000000000 x.natAbs).length (aH _) ⟨J,(by rw [Ylu];rfl),aA⟩ aA ?_;rintro k t;have n:=tpI_le x.natAbs (k-1);have e:=tpI_s x.natAbs (k-1);refine go 7 ?_;refine Zd J (λg=>?_) (λg=>?_)
 .refine go 10 ⟨⟨O,by rw [show k-1+1=k by omega]at e;omega⟩,?_⟩;refine dt (Zv (ii:=1) (i:=(k-1)) J J J J Zq Pr Ij)<|go 11 ⟨O,⟨O,by rw [show k-1+1=k by omega]at e;omega⟩,O,?_⟩;exact Yp (k-1) O1 O1 ⟨(aF (λq:Int=>some (Value.int .i64 q)) (show(k:Int)-1-1=((k-1:Nat):Int)-1 by omega)),(aF (λq:Int=>some (Value.int .i64 q)) (show(tpI x.natAbs k:Int)*1000000000+(((dg 1000000000 x.natAbs).getD (k-1) 0:Nat):Int)=((tpI x.natAbs (k-1):Nat):Int) by rw [show k-1+1=k by omega]at e;omega)),aA⟩ aA
 .obtain rfl:k=0:=O;have r:=Yeu x.natAbs;refine go 12 ?_;refine Zd J (λh=>?_) (λh=>?_)
  .refine go 3 ?_;refine dt (Yjw J J)<|go 5 ?_;exact Xd j () results279 (by rw [Yeu];congr 1;omega) aA Za
  .refine go 9 ?_;exact Xd j () results279 (by rw [Yeu];congr 1;omega) aA Za
theorem Zn6(v:Value)(ps:List Zt)(h:1<=ps.length):Xs prog 54 #[v] [Qh 6 Qw qG v ps] (.int .i64 (spF ps)):=by refine Zh func54 ntmps54 λn l j e=>?_;refine Pv (Le (i:=1) J Zc) (λg=>?_);refine go 9 ⟨O,?_⟩;refine dt (Kd (ii:=1) J J J Zc Bw J Ij J)<|dt (Kc (ii:=1) G0 J J J Zc iA3 J)<|go 4 ?_;exact Xd e () results54 J aA Za
theorem Zzf(v:Value)(ps:List Zt)(h:1<=ps.length):Xs prog 53 #[v] [Qh 6 Qw qG v ps] (.int .i64 (spL ps)):=by refine Zh func53 ntmps53 λn l j e=>?_;refine Pv (Le (i:=1) J Zc) (λg=>?_);refine go 11 ⟨O,?_⟩;refine dt (Zv (ii:=1) (i:=(ps.length-1)) J J J J Zc Kp Hh)<|dt (Kd (ii:=1) J J J Zc Bw J Ij J)<|dt (Kc (ii:=1) G0 J J J Zc iA3 J)<|go 4 ?_;exact Xd e () results53 J aA Za
theorem Ykj(j:Tr xs)(e:xs≠[])(hs:Sz 320 xs)(r:xs.length<=11):Ak 13 xs/\Sz 335 (sqf 13 xs)/\(sqf 13 xs).length<=11:=by obtain⟨g,h,l,n⟩:=chG 13 j e hs O O O;exact⟨g,h,O⟩
theorem Znt(j:Vp xs)(l:xs≠[])(hs:Sz 320 xs)(Q:xs.length<=11) :
  Vp (Yz xs)/\Vp (Yx (Yz xs))/\eok 13 (Yz xs) (Yx (Yz xs))/\Lm (Zx (eu 13 (Yz xs) (Yx (Yz xs))))=Na 13 (Yz xs) (Yx (Yz xs))/\
  Vp (Na 13 (Yz xs) (Yx (Yz xs)))/\Na 13 (Yz xs) (Yx (Yz xs))≠[]/\pdv (Yz xs) (Na 13 (Yz xs) (Yx (Yz xs)))/\
  Xo (Yz xs)<=320/\Xo (Na 13 (Yz xs) (Yx (Yz xs)))<=335/\(Yz xs).length<=11/\Vp (sqf 13 xs)/\sqf 13 xs≠[]/\Yz (sqf 13 xs)=sqf 13 xs/\(Na 13 (Yz xs) (Yx (Yz xs))).length<=11:=by
 have v:=Zo5 hs;have V:=Pn j.tr;have r:Tr (Yz xs):=Oy (Yv j.tr);have w:=Gp v O;have S:=Of (Yz xs);have e:Tr (Yx (Yz xs)):=Ni r;have m1:=Qp v;have m2:=Qp w;have l0:=aE.2 l;obtain⟨I,hq,W⟩:=Ykj j.tr l hs Q;have h:eok 13 (gA (Yz xs) (Yx (Yz xs))) (gB (Yz xs) (Yx (Yz xs))):=I.1.2.2.1;have g:eok 13 (Yz xs) (Yx (Yz xs)):=
  (Yaq (n:=325) (s:=5) (K:=331) O r e (v.mono O) w O O (Yhr O O O) (aB (aQ (show(Yz xs).length+1<=12 by omega) (show 325+1<=400 by omega)) O3) O).1
 obtain⟨f1,f2,f3,f4,f5,f6⟩:=Ou (F:=13) j.tr l h;have N:=Zdn (F:=13) r e;have H:=Zhw j.tr l;have P:fcs 0 13<=2^15*2^15:=O6;have B:=Fj (L:=13) (R:=24) N f2 v H r O O3 P (by rw [Dj];exact f4);have u:=Zvt j;have t:Vp (Yx (Yz xs)):=⟨w.mono O,e,O⟩;have G:=Ov f2 N f3 f5;rw [<-f4]at G;have lq:=aE.2 f3;exact⟨u,t,g,Ynw r e g h,Zyc u t h,f5,f1,m1,Qp B,O,Zj9 j l I.1,f3,f6,O⟩
structure RI (xs q:List Int):Prop where
 v:Vp q
 ne:q≠[]
 s:Sz 220 q
 l:q.length<=11
 d:Dp xs (Yz q)
def RI.start(h:Cvd xs)(e:xs≠[]):RI xs xs:=⟨h.v,e,h.s.mono O,h.l,Dp.start h.v.tr e⟩
theorem Ye2{n:Nat}{e:Int}(g:e=1\/e=-1)(h:Sz n q):Sz n (Zs q e):=λi=>by
 rw [Yj];have:=h i;rcases g with rfl|rfl
 .rw [fL];exact this
 .rw [Int.mul_neg_one,dU];exact this
theorem RI.step(h:Cvd xs)(w:xs≠[])(j:RI xs q) :
  Tr (sqf 13 q)/\Xo (sqf 13 q)<=235/\(sqf 13 q).length<=11/\0<(sqf 13 q).length/\Ys q≠0/\Sz 220 (Zs (Zx q) 1)/\Tr (Zs (Zx q) 1)/\(Zs (Zx q) 1).length=q.length/\pdv (Zs (Zx q) 1) (sqf 13 q)/\
  Vp (Oz 13 q)/\Oz 13 q≠[]/\Sz 220 (Oz 13 q)/\(Oz 13 q).length<=11/\Ys (Oz 13 q)≠0/\Zx (Oz 13 q)=Oz 13 q/\
  Tr (sqf 13 (Oz 13 q))/\Xo (sqf 13 (Oz 13 q))<=235/\(sqf 13 (Oz 13 q)).length<=11/\0<(sqf 13 (Oz 13 q)).length/\pdv (sqf 13 q) (sqf 13 (Oz 13 q))/\Sz 600 (Lq (sqf 13 q) (sqf 13 (Oz 13 q)))/\(Lq (sqf 13 q) (sqf 13 (Oz 13 q))).length<=11/\
  pdv (Oz 13 q) (sqf 13 (Oz 13 q))/\RI xs (Ac 13 q)/\((sqf 13 q).length≠1->(Ac 13 q).length<q.length):=by
 have hl:=h.l;have B:=j.d;have l:=(B.ok h.v.tr w h.s O O (show xs.length<=13+1 by omega)).2;have v:Em 13 q:=by unfold Em at l ⊢;rwa [B.2.2.1]at l
 have n:=B.next l;have a1:Og 13 (Yz q)=Og 13 q:=Zju B.2.2.1;have a5:sqf 13 (Yz q)=sqf 13 q:=Dt B.2.2.1;rw [a1]at n;have g:=(n.ok h.v.tr w h.s O O (show xs.length<=13+1 by omega)).2;have P:=n.next g;obtain⟨⟨e,he,r1,r2,r3,r4,r5,r6⟩,r7,r8,r9,Q,a7,a8⟩:=Zkz j.v.tr j.ne v g;obtain⟨-,-,-,-,-,-,-,-,-,-,-,r,s,S,-,t,-,-⟩:=Zdu h w B;obtain⟨-,-,-,-,-,-,-,-,-,-,-,u,V,W,-,G,a9,-⟩:=Zdu h w n;rw [a5]at r s S t;have a4:sqf 13 (Oz 13 q)=sqf 13 (Og 13 q):=Dt (by rw [r7,n.2.2.1]);obtain⟨g1,g2⟩:=Zgu h w n;obtain⟨g3,g4⟩:=Zgu h w P;have e0:e≠0:=by rcases he with rfl|rfl<;>decide
 have H:Sz 220 (Oz 13 q):=by rw [r3];exact Ye2 he g1
 have a0:(Oz 13 q).length<=11:=by rw [r3];have:=Pu (Og 13 q) e;omega
 have I:Vp (Oz 13 q):=⟨H.mono O,r9,O⟩;have N:Sz 220 (Ac 13 q):=by rw [r6];exact Ye2 he g3
 have b0:(Ac 13 q).length<=(Og 13 (Og 13 q)).length:=by rw [r6];exact Pu _ e
 obtain⟨o1,o2,o3,o4⟩:=Cj j.v.tr j.ne v g;have hK:fcs 0 13<=2^15*2^15:=O6;have a3:=Fj (L:=13) (R:=24) o3 u.tr s t r.tr O O3 hK o2;have a2:=Ov o3 u.tr o4 G;rw [<-o2]at a2;have lb:=aE.2 G;have la:=aE.2 t;have lo:=aE.2 o4;have hm:Zs (Zx q) 1=Zx q:=by refine(Qd _ _).ext (Yv j.v.tr) λi=>?_;rw [Yj,fL]
 have hx:=Pm j.v.tr j.ne v;have a6:=Pm n.1 n.2.1 g;rw [a4];refine⟨r.tr,Qp s,O,la,j.v.ne j.ne,by rw [hm];exact Hl j.s,Qd _ _,by rw [hm,Zw],by rw [r1];exact r2,I,Q,H,a0,I.ne Q,r4,u.tr,Qp V,W,lb,o1,a3.mono O,?_,r5,⟨⟨N.mono O,a7,O⟩,a8,N,O,by rw [r8];exact P⟩,λb1=>?_⟩
 .show(Cv 13 q).length<=11;omega
 .have h1:=hx.2.2.2.2;have h2:=a6.2.2.2.2;omega
theorem rodd_1{f:Nat}(h:(sqf F p).length=1):Zcs F f p=sqf F p:=by
 cases f with
 | zero=>rfl
 | succ f=>unfold Zcs;rw [aG h]
theorem rodd_s{f:Nat}(h:(sqf F p).length≠1):Zcs F (f+1) p=Qn (Lq (sqf F p) (sqf F (Oz F p))) (Zcs F f (Ac F p)):=by
 conv=>lhs;unfold Zcs
 rw [aD h]
theorem Yg7{n:Nat}(N:Tr p)(B:p≠[])(hs:Sz n p)(I:n<=220)(H:p.length<=11)(G:p.length<=F+1):∀(f:Nat) (q:List Int),Dp p q->q.length<=f->∃a:List Int,Tr a/\q=Qn a (Cr F f q):=by
 intro f
 induction f with
 | zero=>intro q e t;have:=aE.2 e.2.1;omega
 | succ f ih=>
  intro q e t;have g:=(e.ok N B hs I H G).2;have j:=e.next g;have h:=(j.ok N B hs I H G).2;have s:=j.next h;unfold Cr;by_cases r:(sqf F q).length=1
  .rw [aG r];obtain⟨s1,s2,s3⟩:=Zfq e.1 e.2.1 g r;refine⟨[1],.inr (show cf [1] 0≠0 by decide),e.1.ext (Qi _ _) λi=>Nj (λx=>?_) i⟩;rw [Ym,s1,Yna e.1 e.2.2.1 s2,Pw];push_cast;grind
  .rw [aD r];have lq:2<=q.length:=by obtain⟨f1,f2,f3,f4,f5,f6⟩:=Ou (F:=F) e.1 e.2.1 g;obtain⟨P,u,v,l,Q⟩:=Pm e.1 e.2.1 g;have l1:=aE.2 f3;have l2:=aE.2 u;omega
   have a0:=Zl1 e.1 e.2.1 g lq;obtain⟨P,u,v,l,Q⟩:=Pm e.1 e.2.1 g;obtain⟨b1,b2,b3,w,b5⟩:=Pm j.1 j.2.1 h;obtain⟨-,t2,t3,-,-,-⟩:=Ou (F:=F) j.1 j.2.1 h;have lb:=aE.2 t3;obtain⟨A,hA,hB⟩:=ih _ s O;obtain⟨-,o2,o3,o4⟩:=Cj e.1 e.2.1 g h;rw [e.2.2.1]at l;rw [v]at w;refine⟨Qn (Qn (sqf F (Og F q)) (sqf F (Og F q))) A,Qi _ _,e.1.ext (Qi _ _) λi=>Nj (λx=>?_) i⟩;have R:Zf q x=Zf (sqf F q) x*Zf (Og F q) x:=by rw [<-Ym,<-l]
   have V:Zf (sqf F q) x=Zf (Cv F q) x*Zf (sqf F (Og F q)) x:=by rw [<-Ym,<-o2]
   have W:Zf (Og F q) x=Zf (sqf F (Og F q)) x*Zf (Og F (Og F q)) x:=by rw [<-Ym,<-w]
   have e4:Zf (Og F (Og F q)) x=Zf A x*Zf (Cr F f (Og F (Og F q))) x:=by rw [<-Ym,<-hB]
   rw [Ym,Ym,Ym,Ym,R,V,W,e4];show _=_*(Zf (Cv F q) x*_);generalize Zf (sqf F (Og F q)) x=S;grind
theorem RI.size(h:Cvd xs)(n:xs≠[])(j:RI xs q){f:Nat}(Q:q.length<=f):Tr (Zcs 13 f q)/\Sz 460 (Zcs 13 f q)/\(Zcs 13 f q).length<=11:=by
 have S:=h.l;have g:=j.d;have e:Zcs 13 f q=Cr 13 f (Yz q):=by rw [Zy3 h.v.tr n h.s O O O f q j.v.tr j.ne g];exact Zlb g.2.2.1.symm f
 have I:=Pn j.v.tr;have H:=j.l;obtain⟨A,w,r⟩:=Yg7 h.v.tr n h.s O O (show xs.length<=13+1 by omega) f (Yz q) g O;obtain⟨B,P⟩:=Zgu h n g;have l:=(g.ok h.v.tr n h.s O O (show xs.length<=13+1 by omega)).2;have u:=Zjo (F:=13) (p:=xs) (f:=f) g.1 g.2.1 l;rw [e];have G:fcs 0 13<=2^15*2^15:=O6;have N:Cr 13 f (Yz q)≠[]:=λs=>g.2.1 (by rw [r,s,Zbw]);have v:A≠[]:=λs=>g.2.1 (by rw [r,s,Fg]);have t:=Ov w u v N;rw [<-r]at t;have:=aE.2 v;exact⟨u,(Fj (L:=13) (R:=24) u w B g.2.1 g.1 O O3 G (by rw [Dj];exact r)).mono O,O⟩
theorem Yc0(h:Cvd xs)(e:xs≠[]):Zcs 13 xs.length xs=Lt xs:=by have g:=h.l;exact(Yhn h.v.tr e h.s O O (show xs.length<=13+1 by omega)).symm
end Go.Sky

