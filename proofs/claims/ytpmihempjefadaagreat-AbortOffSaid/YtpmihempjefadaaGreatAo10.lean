/- Rules, arithmetic and contracts: part 11. No conditions but those that each theorem names. -/
import Derived.Test.YtpmihempjefadaaGreatAo09
set_option linter.all false
namespace Go.Sky
variable{i k:Nat}{qs a b us:List Ze}{x:Int}{ts:List Int}
theorem getD_some{α:Type}{l:List α}{x d:α}(h:l[i]? = some x):l.getD i d=x:=by rw [aE,h];rfl
theorem Fz{ps:List Ze}(hi:∀g∈ps,Gin g)(o:Xn ps=true):Chn ps/\(∀g∈ps,seB g=true)/\∀(i:Nat) (g h:Ze),ps[i]? = some g->ps[i+1]? = some h->meG g h=true:=by
 obtain⟨n,p,q⟩:=Oi o;have j:∀g∈ps,seB g=true:=λg c=>by obtain⟨i,d,e⟩:=eD.1 c;have:=Cv (n i d);rw [aE,aM d,fC,e]at this;exact this
 have f:∀(i:Nat) (g h:Ze),ps[i]? = some g->ps[i+1]? = some h->meG g h=true:=λi g h c l=>by have m:=(cI.1 l).1;have:=n (i+1) m;rw [Zki (Cv this) O,fN,getD_some c,getD_some l]at this;exact this
 refine⟨⟨λg c=>(Ig (hi g c) (j g c)).t2,λi g h c l=>?_⟩,j,f⟩;have:=f i g h c l;unfold meG Zkv at this;rw [aQ,eW]at this;exact this.1
structure Pat (fr to:Int) (ps qs:List Ze):Prop where
 gin:∀q∈qs,Gin q
 pb:Xn qs=true
 len:qs.length=(ps.filter (Lj fr to)).length
 prt:∀(j:Nat) (q:Ze),qs[j]? = some q->∃f:Ze,(ps.filter (Lj fr to))[j]? = some f/\f∈ps/\Prt q f (cG fr to f)
 nxt:∀(j:Nat) (q r:Ze),qs[j]? = some q->qs[j+1]? = some r->∃(i:Nat) (f h:Ze),ps[i]? = some f/\ps[i+1]? = some h/\Prt q f (cG fr to f)/\Prt r h (cG fr to h)/\q.1.2.1=f.1.2.1/\r.1.1=h.1.1
theorem Yh0{fr d:Int}{ps:List Ze}(hi:∀g∈ps,Gin g)(M:Xn ps=true)(v:Pq fr d ps=true)(Q:qs.map Ds=(ps.filter (Lj fr d)).map (Zwe fr d))(H:ps.filter (Lj fr d)≠[]):Pat fr d ps qs:=by
 obtain⟨N,s,G⟩:=Fz hi M;have hl:qs.length=(ps.filter (Lj fr d)).length:=by have:=aL List.length Q;rwa [aW,aW]at this
 have z:∀(j:Nat) (q:Ze),qs[j]? = some q->∃f:Ze,(ps.filter (Lj fr d))[j]? = some f/\f∈ps/\Lj fr d f=true/\Ds q=Zwe fr d f/\Gin q/\seB q=true/\Prt q f (cG fr d f):=λj q m=>by have a0:=(cI.1 m).1;have w:(ps.filter (Lj fr d))[j]? = some ((ps.filter (Lj fr d))[j]' O):=aM O;generalize (ps.filter (Lj fr d))[j]' O=f at w;obtain⟨t,B⟩:=fL.1 (dU w);have e:=aL (λl:List Zht=>l[j]?) Q;simp only [eY,m,w,Option.map_some,jX]at e;have hk:Zgk fr d f=true:=bF.1 v f (dU w);obtain⟨a,b,c⟩:=Zzt (hi f t) (s f t) B hk e;exact⟨f,w,t,B,e,a,b,c⟩
 have P:∀(j:Nat) (q r:Ze),qs[j]? = some q->qs[j+1]? = some r->∃(i:Nat) (f h:Ze),ps[i]? = some f/\ps[i+1]? = some h/\Prt q f (cG fr d f)/\Prt r h (cG fr d h)/\q.1.2.1=f.1.2.1/\r.1.1=h.1.1:=λj q r m hr=>by
  obtain⟨f,f1,f2,f3,f4,-,-,f7⟩:=z j q m;obtain⟨h,F,Y,Z,h4,-,-,h7⟩:=z (j+1) r hr;obtain⟨i,R,S⟩:=Zi2 N j f h f1 F;have e1:=N.eq i f h R S;have c1:=cD f3;have c2:=cD Z;have q1:q.1=(cA fr f,cB d f,mdO (cO f) (cG fr d f)):=aL Prod.fst f4;have r1:r.1=(cA fr h,cB d h,mdO (cO h) (cG fr d h)):=aL Prod.fst h4;refine⟨i,f,h,R,S,f7,h7,?_,?_⟩
  .rw [q1];show cB d f=_;unfold cA cB at *;omega
  .rw [r1];show cA fr h=_;unfold cA cB at *;omega
 have y:∀q∈qs,Gin q:=λq I=>by obtain⟨j,m⟩:=fI.1 I;obtain⟨f,-,-,-,-,h,-⟩:=z j q m;exact h
 have u:qs.length<=256:=by have F:=gR (Lj fr d) ps;have Y:=(Oi M).2.2;omega
 have F:1<=qs.length:=by have:=aH.2 H;omega
 refine⟨y,?_,hl,λj q m=>?_,P⟩
 .rw [Zov (λi n=>?_),aJ ⟨F,u⟩];have m:qs[i]? = some (qs[i]'(n)):=aM n;generalize qs[i]'(n)=q at m;obtain⟨f,-,-,-,-,-,hs,-⟩:=z i q m;rcases aV i with D|D
  .exact Zvg (by rw [getD_some m];exact hs) D
  .rw [Zki (by rw [getD_some m];exact hs) D,getD_some m];have o:qs[i-1]? = some (qs[i-1]' O):=aM O;generalize qs[i-1]' O=p at o;rw [getD_some o];obtain⟨k,f,h,V,W,k3,k4,k5,k6⟩:=P (i-1) p q o (by rw [nQ D];exact m);have t:=dU V;have B:=dU W;exact me_prt (Ig (hi f t) (s f t)) (Ig (hi h B) (s h B)) k3 k4 k5 k6 (G k f h V W)
 .obtain⟨f,f1,f2,-,-,-,-,f7⟩:=z j q m;exact⟨f,f1,f2,f7⟩
theorem Zwd{fr d:Int} : ∀{ps:List Ze},Chn ps->ps≠[]->spF ps<=fr->fr<d->d<=spL ps->ps.filter (Lj fr d)≠[]
 | [],_,h,_,_,_=>absurd rfl h
 | g::r,hc,_,l,h2,c=>by
  have n:=hc.lt g O8;have l:g.1.1<=fr:=l;by_cases f:Lj fr d g=true
  .rw [eR f];exact List.cons_ne_nil _ _
  .have j:¬cA fr g<cB d g:=λh=>f (aJ h);have e:g.1.2.1<=fr:=by unfold cA cB at j;omega
   rw [gF f]
   match r,hc,c with
   | [],_,c=>
    have c:d<=g.1.2.1:=c;omega
   | h::r,hc,c=>
    have m:=hc.eq 0 g h rfl rfl;refine Zwd hc.tail (List.cons_ne_nil _ _) (by show h.1.1<=fr;omega) h2 ?_;have:spL (g::h::r)=spL (h::r):=by unfold spL;simp
    rw [<-this];exact c
def jqP(fr g f:Int)(x y z:List Int)(c e d:Int)(h j l:List Int)(i:Nat):Prop:=qr (bgS (Ye i h j l)) (Ar [d,e-c])=qr (enS (Ye i x y z)) (Ar [f,g-fr])
def refS(o:Nat)(x y z:List Int):Nat->List Int
 | 0=>[]
 | i+1=>Zcl (refS o x y z i) (Qr (dN o (tzl (Ye i x y z))) (dN o (tzl (Ye i x y z))))
def refC(o:Nat)(m c T:Int):Int:=m^2*c^2*T^(2*o)
def refF(o:Nat)(m c T:Int)(x y z:List Int):List Int:=Zbo (tzl [refC o m c T]) (Yk (refS o x y z 3) (1000^(2*o)))
def frB(ps:List Ze)(d c:Int)(i:Nat):Int:=
 if 0<i/\joG (ps.getD (i-1) G0) (ps.getD i G0)=false then 1 else if Zd6 (Ygr 1 d (ps.getD i G0))=true then 2 else if Zd6 (Ygr 2 c (ps.getD i G0))=true then 3 else 0
def fiB(ps:List Ze)(d c:Int):Option (Nat×Int):=((List.range ps.length).find? λi=>decide (frB ps d c i≠0)).map λi=>(i,frB ps d c i)
theorem tf(b:Bool):b=false\/b=true:=by cases b<;>simp
def fiI(o:Option (Nat×Int)):Int:=match o with
 | none=>0
 | some g=>g.1
def fiC(o:Option (Nat×Int)):Int:=match o with
 | none=>0
 | some g=>g.2
abbrev firV (o:Option (Nat×Int)):Value:= .tuple #[.agg #[.int .i64 (fiI o),.int .i64 (fiC o)],.bool o.isSome,.int .i64 0]
def spd(o:Nat)(x y z:List Int)(u:Rat):Rat:=Zb (refS o x y z 3) u
def lstB(o:Nat)(ps:List Ze):Nat:=Ykf (λn=>Yf0 o ps (n:Int)) 14 0 10000
def lsV(o:Nat)(ps:List Ze):Nat:=if Yf0 o ps 10000 then lstB o ps else 0
theorem Yaq(a b:Bool):a=false\/(a=true/\b=false)\/(a=true/\b=true):=by cases a<;>cases b<;>simp
def dR(o:Nat)(c:List Int)(u:Rat):Rat:=Zb (dN o (tzl c)) u
theorem Prt.num{q g:Ze}{G:Int}(h:Prt q g G):∃v s:Rat,0<=v/\0<s/\v+s<=1/\s*((g.1.2.1-g.1.1:Int):Rat)=((q.1.2.1-q.1.1:Int):Rat)/\v*((g.1.2.1-g.1.1:Int):Rat)=((q.1.1-g.1.1:Int):Rat)/\(0:Rat)<((g.1.2.1-g.1.1:Int):Rat)/\
  ∀i (u:Rat),Zb (Ye i q.2.1.2 q.2.2.1.2 q.2.2.2.2) u*(G:Rat)=((g.1.2.1-g.1.1:Int):Rat)^5*Zb (Ye i g.2.1.2 g.2.2.1.2 g.2.2.2.2) (v+s*u):=by
 have l:=h.a0;have m:=h.b0;have n:=h.ab;have t:=h.x;generalize g.1.2.1-g.1.1=d at *;generalize q.1.2.1-q.1.1=b at *;generalize q.1.1-g.1.1=a at *;have f:(0:Rat)<(d:Rat):=by exact_mod_cast (show 0<d by omega)
 have o:(0:Rat)<=(a:Rat):=by exact_mod_cast l
 have r:(0:Rat)<(b:Rat):=by exact_mod_cast m
 have p:(a:Rat)+(b:Rat)<=(d:Rat):=by exact_mod_cast n
 have hi:0<(d:Rat)⁻¹:=gD.2 f;have c:(a:Rat)/d*d=a:=nR O4;have e:(b:Rat)/d*d=b:=nR O4;refine⟨(a:Rat)/d,(b:Rat)/d,?_,?_,?_,e,c,f,λi u=>t i _ u (by
  have j:(b:Rat)/d*u*d=((b:Rat)/d*d)*u:=by rw [kJ,kE u,<-kJ]
  rw [Rat.add_mul,c,j,e])⟩
 .rw [jF];exact aN o (dG hi)
 .rw [jF];exact bB r hi
 .have:((a:Rat)/d+b/d)*d<=1*d:=by rw [Rat.add_mul,c,e];grind
  exact Rat.le_of_mul_le_mul_right this f
theorem lh_pat{fr d:Int}{ps:List Ze}(hi:∀g∈ps,Gin g)(f:Xn ps=true)(h:spF ps<=fr/\fr<d/\d<=spL ps)(c:Pq fr d ps=true)(j:qs.map Ds=Bc fr d ps):Pat fr d ps qs:=
 Yh0 hi f c (j.trans (aF c)) (Zwd (Fz hi f).1 (λe=>by have:=(Oi f).2.1;rw [e]at this;simp at this) h.1 h.2.1 h.2.2)
def Zwf{fr c:Int}{ps:List Ze}(h:Pq fr c ps=true):Zc4 fr c ps=0:=aF h
theorem Yh4{fr c:Int}{ps:List Ze}(h:Pq fr c ps=false):Zc4 fr c ps=7:=aD (by rw [h];exact bD)
def Ylw{fr d:Int}{ps:List Ze}(hi:∀g∈ps,Gin g)(e:Xn ps=true):∀g∈ps,Lj fr d g=true->MdG fr d g:=λg c f=>Yfo (hi g c) ((Fz hi e).2.1 g c) f
def inn(fr c:Int)(ps:List Ze):List Int:=(ps.filter λg=>decide (fr<g.1.1) && decide (g.1.1<c)).map λg=>g.1.1
theorem inn_t{fr c:Int}{ps:List Ze}(f:k<ps.length)(d:fr<(ps.getD k G0).1.1)(e:(ps.getD k G0).1.1<c):inn fr c (ps.take (k+1))=inn fr c (ps.take k) ++ [(ps.getD k G0).1.1]:=by unfold inn;rw [Zn7 (x:=ps.getD k G0) (by rw [aE,aM f];rfl),fO,eE];rw [show List.filter (λg:Ze=>decide (fr<g.1.1) && decide (g.1.1<c)) [ps.getD k G0]=[ps.getD k G0]from eR (by rw [aJ d,aJ e];rfl)];rfl
theorem inn_f{fr c:Int}{ps:List Ze}(e:k<ps.length)(h:¬(fr<(ps.getD k G0).1.1/\(ps.getD k G0).1.1<c)):inn fr c (ps.take (k+1))=inn fr c (ps.take k):=by
 unfold inn;rw [Zn7 (x:=ps.getD k G0) (by rw [aE,aM e];rfl),fO,eE];rw [show List.filter (λg:Ze=>decide (fr<g.1.1) && decide (g.1.1<c)) [ps.getD k G0]=[] by rw [gF (λd=>by rw [aQ]at d;exact h ⟨cD d.1,cD d.2⟩)];rfl]
 simp
theorem Zpf(fr c:Int)(ps:List Ze):(inn fr c ps).length<=ps.length:=by unfold inn;rw [aW];exact gR _ _
theorem Zyn{fr f:Int}{ps:List Ze} : x∈inn fr f ps↔∃g∈ps,g.1.1=x/\fr<x/\x<f:=by
 unfold inn;rw [eV];constructor
 .rintro⟨g,e,rfl⟩;obtain⟨d,c⟩:=fL.1 e;simp only [aQ,cT]at c;exact⟨g,d,rfl,c.1,c.2⟩
 .rintro⟨g,e,rfl,d,c⟩;exact⟨g,fL.2 ⟨e,by simp [d,c]⟩,rfl⟩
def cmF(a b:List Ze):Int:=max (spF a) (spF b)
def cmL(a b:List Ze):Int:=min (spL a) (spL b)
def Zej(a b:List Ze)(i:Nat):List Int:=cmF a b::cmL a b::((if 1<=i then inn (cmF a b) (cmL a b) a else []) ++ (if 2<=i then inn (cmF a b) (cmL a b) b else []))
def Lp(a b:List Ze):List Int:=Zrf (Zej a b 2)
def Es{α:Type _}(i:Nat)(a b:α):α:=if i=0 then a else b
theorem tms_s(h:i<2):Zej a b (i+1)=Zej a b i ++ inn (cmF a b) (cmL a b) (Es i a b):=by
 match i,h with
 | 0,_=>simp [Zej,Es]
 | 1,_=>simp [Zej,Es]
theorem Ziy : x∈Lp a b↔x=cmF a b\/x=cmL a b\/(cmF a b<x/\x<cmL a b/\((∃g∈a,g.1.1=x)\/∃g∈b,g.1.1=x)):=by
 unfold Lp;rw [Zkt];show x∈cmF a b::cmL a b::(inn _ _ a ++ inn _ _ b)↔_;rw [aZ,aZ,cY,Zyn,Zyn];constructor
 .rintro(h|h|⟨g,c,d,e,f⟩|⟨g,c,d,e,f⟩)
  .exact .inl h
  .exact .inr (.inl h)
  .exact .inr (.inr ⟨e,f,.inl ⟨g,c,d⟩⟩)
  .exact .inr (.inr ⟨e,f,.inr ⟨g,c,d⟩⟩)
 .rintro(h|h|⟨e,f,⟨g,c,d⟩|⟨g,c,d⟩⟩)
  .exact .inl h
  .exact .inr (.inl h)
  .exact .inr (.inr (.inl ⟨g,c,d,e,f⟩))
  .exact .inr (.inr (.inr ⟨g,c,d,e,f⟩))
def Ynv(a b:List Ze):Sst (Lp a b) (Lp a b).length:=Zxf (Zk5 _)
theorem Zst(x:Int):∀l:List Int,(Zk3 x l).length<=l.length+1
 | []=>aI _
 | y::l=>by
  have:=Zst x l;unfold Zk3;split
  .exact aI _
  .split
   .exact Nat.le_succ _
   .simp only [dM];omega
theorem Zsr:∀l:List Int,(Zrf l).length<=l.length
 | []=>aI _
 | x::l=>by have:=Zsr l;have:=Zst x (Zrf l);show(Zk3 x (Zrf l)).length<=_;simp only [dM];omega
theorem Zpe(a b:List Ze)(i:Nat):(Zej a b i).length<=2+a.length+b.length:=by have c:=Zpf (cmF a b) (cmL a b) a;have d:=Zpf (cmF a b) (cmL a b) b;unfold Zej;split<;>split<;>simp<;>omega
def Zyw(a b:List Ze):(Lp a b).length<=2+a.length+b.length:=aB (Zsr _) (Zpe a b 2)
structure Bks (a b:List Ze):Prop where
 two:2<=(Lp a b).length
 hd:(Lp a b).getD 0 0=cmF a b
 ls:(Lp a b).getD ((Lp a b).length-1) 0=cmL a b
 lt:∀k,k+1<(Lp a b).length->cmF a b<=(Lp a b).getD k 0/\(Lp a b).getD k 0<(Lp a b).getD (k+1) 0/\(Lp a b).getD (k+1) 0<=cmL a b
 no:∀k,k+1<(Lp a b).length->∀g,g∈a\/g∈b->¬((Lp a b).getD k 0<g.1.1/\g.1.1<(Lp a b).getD (k+1) 0)
theorem bks (a:List Ze)(b:List Ze)(h:cmF a b<cmL a b):Bks a b:=by
 have hs:=Ynv a b;have t:cmF a b∈Lp a b:=Ziy.2 (.inl rfl);have u:cmL a b∈Lp a b:=Ziy.2 (.inr (.inl rfl));have f:∀x∈Lp a b,cmF a b<=x/\x<=cmL a b:=λx z=>by rcases Ziy.1 z with l|l|⟨l,o,_⟩<;>omega
 obtain⟨i,hi,r⟩:=Eb.1 t;obtain⟨j,G,s⟩:=Eb.1 u;have p:2<=(Lp a b).length:=by
  by_cases e:i=j
  .subst e;omega
  .omega
 have v:(Lp a b).getD 0 0=cmF a b:=by
  by_cases e:i=0
  .subst e;exact r
  .have l:=hs 0 i O hi;have o:=(f _ (Zi (zs:=Lp a b) (i:=0) (d:=0))).1;omega
 have B:(Lp a b).getD ((Lp a b).length-1) 0=cmL a b:=by
  by_cases e:j=(Lp a b).length-1
  .rw [<-e];exact s
  .have l:=hs j ((Lp a b).length-1) O O;have o:=(f _ (Zi (zs:=Lp a b) (i:=(Lp a b).length-1) (d:=0))).2;omega
 refine⟨p,v,B,λk n=>⟨(f _ Zi).1,hs k (k+1) O n,(f _ (Zi n)).2⟩,λk n g m F=>?_⟩;have l:=(f _ (Zi (zs:=Lp a b) (i:=k) (d:=0))).1;have o:=(f _ (Zi (zs:=Lp a b) (i:=k+1) (d:=0) n)).2;have w:g.1.1∈Lp a b:=Ziy.2 (.inr (.inr ⟨O,O,by
  rcases m with m|m
  .exact .inl ⟨g,m,rfl⟩
  .exact .inr ⟨g,m,rfl⟩⟩))
 obtain⟨q,y,D⟩:=Eb.1 w;rcases oF q k with c|c|c
 .have:=hs q k c O;omega
 .subst c;omega
 .rcases oF q (k+1)with d|d|d
  .omega
  .subst d;omega
  .have:=hs (k+1) q d y;omega
theorem Zzv{fr c:Int}{g:Ze}(h:Lj fr c g=true):fr<g.1.2.1/\g.1.1<c:=by unfold Lj cA cB at h;have:=cD h;exact⟨O,O⟩
theorem Zzu{fr c:Int}{ps:List Ze}(e:Chn ps)(h:ps≠[])(o:spF ps<=fr)(p:fr<c)(q:c<=spL ps)(j:∀g∈ps,¬(fr<g.1.1/\g.1.1<c)):(ps.filter (Lj fr c)).length=1:=by
 have r:=Zwd e h o p q;have l:0<(ps.filter (Lj fr c)).length:=aH.2 r;rcases aX 1 (ps.filter (Lj fr c)).length with d|d
 .exfalso;have m:=aM l;have n:=aM d;obtain⟨i,f1,f2⟩:=Zi2 e 0 _ _ m n;have s:=(fL.1 (fX l)).2;have t:=(fL.1 (fX d)).2;have f:=(fL.1 (fX d)).1;have w:=e.eq i _ _ f1 f2;have u:=Zzv s;have v:=Zzv t;exact j _ f ⟨O,O⟩
 .omega
def Ze4(ts:List Int)(ps:List Ze):Nat->List Zht
 | 0=>[]
 | n+1=>Ze4 ts ps n ++ Bc (ts.getD n 0) (ts.getD (n+1) 0) ps
def Ek(ts:List Int)(a b:List Ze):Nat->Bool
 | 0=>true
 | n+1=>Ek ts a b n && (Pq (ts.getD n 0) (ts.getD (n+1) 0) a && Pq (ts.getD n 0) (ts.getD (n+1) 0) b)
def Zt4(a b:List Ze):Bool:=Ek (Lp a b) a b ((Lp a b).length-1)
def Bv(a b:List Ze):Int:=if cmF a b>=cmL a b then 9 else if Zt4 a b then 0 else 7
def Iu(a b ps:List Ze):List Zht:=if Bv a b=0 then Ze4 (Lp a b) ps ((Lp a b).length-1)else []
theorem Zt3{ts:List Int}{a b:List Ze} : ∀{n m:Nat},n<=m->Ek ts a b m=true->Ek ts a b n=true
 | n,0,h,c=>by obtain rfl:n=0:=O;rfl
 | n,m+1,h,c=>by
  rcases aX m n with d|d
  .obtain rfl:n=m+1:=O;exact c
  .refine Zt3 d ?_;have:Ek ts a b (m+1)=(Ek ts a b m && (Pq (ts.getD m 0) (ts.getD (m+1) 0) a && Pq (ts.getD m 0) (ts.getD (m+1) 0) b)):=rfl;rw [this,aQ]at c;exact c.1
def tik(a b:List Ze)(i k:Nat):List Int:=Zej a b i ++ inn (cmF a b) (cmL a b) ((Es i a b).take k)
theorem tik_0(a b:List Ze)(i:Nat):tik a b i 0=Zej a b i:=by unfold tik;rw [eX];exact iT _
theorem tik_t(e:k<(Es i a b).length)(c:cmF a b<((Es i a b).getD k G0).1.1)(d:((Es i a b).getD k G0).1.1<cmL a b):tik a b i (k+1)=tik a b i k ++ [((Es i a b).getD k G0).1.1]:=by unfold tik;rw [inn_t e c d,dW]
theorem tik_f(c:k<(Es i a b).length)(h:¬(cmF a b<((Es i a b).getD k G0).1.1/\((Es i a b).getD k G0).1.1<cmL a b)):tik a b i (k+1)=tik a b i k:=by unfold tik;rw [inn_f c h]
theorem tik_e(hi:i<2):tik a b i (Es i a b).length=Zej a b (i+1):=by unfold tik;rw [bT,tms_s hi]
theorem Zss(a b:List Ze)(i:Nat):(Es i a b).length<=a.length+b.length:=by unfold Es;split<;>omega
theorem Yly(a b:List Ze)(i k:Nat):(tik a b i k).length<=2+2*(a.length+b.length):=by have c:=Zpe a b i;have d:=Zpf (cmF a b) (cmL a b) ((Es i a b).take k);have e:=Zss a b i;have f:((Es i a b).take k).length<=(Es i a b).length:=List.length_take_le' _ _;unfold tik;rw [bE];omega
def tms_ne(a b:List Ze)(i:Nat):Zej a b i≠[]:=λh=>nomatch h
theorem tms_2(a b:List Ze)(i:Nat):2<=(Zej a b i).length:=by unfold Zej;simp
section
variable {P:Program} {N:Nat} {sc:Nat->Prop} {env:Qi} {H:Hp}
theorem Ykx{e f sd:SL}(i j k n:Nat)(g:lk H j=some (Qj 6 Of qG (Xp e) a))(l:lk H k=some (Qj 6 Of qG (Xp f) b))(c:Nat.beq j 0=false)(d:Nat.beq k 0=false)(hi:i<2) :
  ∀a' w,Sat N sc env H a' w->Sat N sc env ((n,Qj 6 Of qG (Xp ([e,f].getD i sd)) (Es i a b))::H) a' w:=by
 match i,hi with
 | 0,_=>exact Zcf j n g c rfl (λ_ h=>h) (λ_ h=>h) rfl
 | 1,_=>exact Zcf k n l d rfl (λ_ h=>h) (λ_ h=>h) rfl
end
theorem Yh6(h:cmF a b>=cmL a b)(ps:List Ze):Bv a b=9/\Iu a b ps=[]:=by have e:Bv a b=9:=aF h;exact⟨e,by unfold Iu;rw [e];rfl⟩
theorem Zno(h:¬cmF a b>=cmL a b){n:Nat}(g:n+1<(Lp a b).length)(f:(Pq ((Lp a b).getD n 0) ((Lp a b).getD (n+1) 0) a && Pq ((Lp a b).getD n 0) ((Lp a b).getD (n+1) 0) b)=false)(ps:List Ze):Bv a b=7/\Iu a b ps=[]:=by
 have k:Zt4 a b=false:=by
  cases hk:Zt4 a b with
  | false=>rfl
  | true=>
   have c:=Zt3 (n:=n+1) O hk;have d:Ek (Lp a b) a b (n+1)=(Ek (Lp a b) a b n && (Pq ((Lp a b).getD n 0) ((Lp a b).getD (n+1) 0) a && Pq ((Lp a b).getD n 0) ((Lp a b).getD (n+1) 0) b)):=rfl;rw [d,f,dH]at c;exact c.symm
 have e:Bv a b=7:=by unfold Bv;rw [aD h,k];rfl
 exact⟨e,by unfold Iu;rw [e];rfl⟩
theorem Yh7(h:¬cmF a b>=cmL a b){n:Nat}(d:n+1=(Lp a b).length)(c:Ek (Lp a b) a b n=true):Bv a b=0/\∀ps,Iu a b ps=Ze4 (Lp a b) ps n:=by
 have k:Zt4 a b=true:=by unfold Zt4;rw [show(Lp a b).length-1=n by omega];exact c
 have e:Bv a b=0:=by unfold Bv;rw [aD h,k];rfl
 exact⟨e,λps=>by unfold Iu;rw [e,aF rfl,show(Lp a b).length-1=n by omega]⟩
theorem com_k{n:Nat}(h:Ek (Lp a b) a b n=true)(c:Pq ((Lp a b).getD n 0) ((Lp a b).getD (n+1) 0) a=true)(d:Pq ((Lp a b).getD n 0) ((Lp a b).getD (n+1) 0) b=true):Ek (Lp a b) a b (n+1)=true:=by show(Ek (Lp a b) a b n && (_ && _))=true;rw [h,c,d];rfl
theorem com_z{ps zs:List Ze}{n:Nat}(h:zs.map Ds=Ze4 ts ps n)(c:us.map Ds=Bc (ts.getD n 0) (ts.getD (n+1) 0) ps):(zs ++ us).map Ds=Ze4 ts ps (n+1):=by rw [eE,h,c];rfl
theorem com_u{ps:List Ze}{fr c:Int}(hi:∀g∈ps,Gin g)(h:Xn ps=true)(l:spF ps<=fr)(m:fr<c)(n:c<=spL ps)(d:∀g∈ps,¬(fr<g.1.1/\g.1.1<c))(p:Pq fr c ps=true)(q:us.map Ds=Bc fr c ps):us.length=1:=by have j:=(Oi h).2.1;have o:=Zzu (Fz hi h).1 (λe=>by rw [e]at j;simp at j) l m n d;have f:=aL List.length q;rw [aW]at f;rw [f];unfold Bc;rw [aF p,aW,o]
theorem com_ua{n:Nat}(hi:∀g∈a,Gin g)(h:Xn a=true)(B:Bks a b)(c:n+1<(Lp a b).length)(j:Pq ((Lp a b).getD n 0) ((Lp a b).getD (n+1) 0) a=true)(m:us.map Ds=Bc ((Lp a b).getD n 0) ((Lp a b).getD (n+1) 0) a):us.length=1:=by obtain⟨d,e,f⟩:=B.lt n c;unfold cmF at d;unfold cmL at f;exact com_u hi h O e O (λg l=>B.no n c g (.inl l)) j m
theorem com_ub{n:Nat}(hi:∀g∈b,Gin g)(h:Xn b=true)(B:Bks a b)(c:n+1<(Lp a b).length)(j:Pq ((Lp a b).getD n 0) ((Lp a b).getD (n+1) 0) b=true)(m:us.map Ds=Bc ((Lp a b).getD n 0) ((Lp a b).getD (n+1) 0) b):us.length=1:=by obtain⟨d,e,f⟩:=B.lt n c;unfold cmF at d;unfold cmL at f;exact com_u hi h O e O (λg l=>B.no n c g (.inr l)) j m
theorem Zwz{a b:Bool}(h:a=false):(a && b)=false:=by rw [h];rfl
theorem Zwy{a b:Bool}(h:b=false):(a && b)=false:=by rw [h];exact dH _
end Go.Sky
namespace Go.Sky
variable{c p q ns:List Int}{x M:Nat}{f:Nat->List Int}
section
variable {P:Program} {N:Nat} {sc:Nat->Prop} {env:Qi} {H:Hp}
end
def KA:Nat:=360287970189639680
theorem AxC.ka{a:Int}(h:AxC c a)(b:1<=a)(d:a<=4294967296):Ab KA (tzl c):=λk=>by have:=h.cg k;rw [Ik];unfold KA;omega
def BG:Nat:=2^250*2^250
theorem bl_two{a b:Nat}(h:x<2^a*2^b):bl x<=a+b:=(Qt (a+b) x).2 (by rw [bN];exact h)
def Yad(h:x<BG):bl x<=500:=bl_two (a:=250) (b:=250) h
def Ab.sg(h:Ab M p)(a:M<BG):Sz 500 p:=λi=>Yad (bC (h i) a)
def Zb1(h:Ab M p)(a:M<BG)(d:Tr p)(b:p.length<=25):Vp p:=⟨(h.sg a).mono O3,d,b⟩
theorem Zrs{c:Int}(h:Ab M p)(b:M*c.natAbs<BG)(i:Nat):bl (cf p i*c).natAbs<=65536:=by have a:=Aa h c i;rw [Qo]at a;exact aB (Yad (bC a b)) O3
theorem ad_ab{K:Nat}(h:Ab M p)(e:Ab K q)(d:M+K<BG)(i:Nat):bl (cf p i+cf q i).natAbs<=65536/\bl (cf p i-cf q i).natAbs<=65536:=by have a:=h i;have b:=e i;exact⟨aB (Yad (bC (by omega:_<=M+K) d)) O3,aB (Yad (bC (by omega:_<=M+K) d)) O3⟩
theorem mf_ab(h:Ab M p)(b:M<BG)(d:p.length<=11):¬Av p p:=λa=>by have m:=Pz (h.sg b);rcases a.2.2 with w|w<;>omega
def dfP(p q:List Int)(a b:Int):List Int:=Zbo (Yk (tzl p) b) (Yk (tzl q) a)
def dfK(p q:List Int)(a b k:Int):List Int:=Yk (dfP p q a b) k
def sqK(p q:List Int)(a b k:Int):List Int:=Qr (dfK p q a b k) (dfK p q a b k)
def sqP(p q:List Int)(a b:Int):List Int:=Qr (dfP p q a b) (dfP p q a b)
def KD:Nat:=KA*4294967296+KA*4294967296
structure FmX (p q:List Int) (a b k:Int):Prop where
 v1:Vp (tzl p)
 v2:Vp (tzl q)
 b1:bl b.natAbs<=65536
 a1:bl a.natAbs<=65536
 k1:bl k.natAbs<=65536
 s1:∀i,bl (cf (tzl p) i*b).natAbs<=65536
 s2:∀i,bl (cf (tzl q) i*a).natAbs<=65536
 v3:Vp (Yk (tzl p) b)
 v4:Vp (Yk (tzl q) a)
 s3:∀i,bl (cf (Yk (tzl p) b) i-cf (Yk (tzl q) a) i).natAbs<=65536
 v5:Vp (dfP p q a b)
 s4:∀i,bl (cf (dfP p q a b) i*k).natAbs<=65536
 v6:Vp (dfK p q a b k)
 m6:¬Av (dfK p q a b k) (dfK p q a b k)
 v7:Vp (sqK p q a b k)
 ab:Ab (6*((KD*100)*(KD*100))) (sqK p q a b k)
 l:(sqK p q a b k).length<=11
 m5:¬Av (dfP p q a b) (dfP p q a b)
 v8:Vp (sqP p q a b)
 ab8:Ab (6*((KD*100)*(KD*100))) (sqP p q a b)
 l8:(sqP p q a b).length<=11
theorem fmX{a b k:Int}(l:Ab KA (tzl p))(m:Ab KA (tzl q))(lp:p.length<=6)(I:q.length<=6)(w:1<=a/\a<=4294967296)(y:1<=b/\b<=4294967296)(Q:1<=k/\k<=100):FmX p q a b k:=by
 have o:(tzl p).length<=6:=aB (Hj p) lp;have r:(tzl q).length<=6:=aB (Hj q) I;have s:Ab (KA*4294967296) (Yk (tzl p) b):=(Aa l b).mono (bH _ O);have t:Ab (KA*4294967296) (Yk (tzl q) a):=(Aa m a).mono (bH _ O);have d:Ab KD (dfP p q a b):=ab_sub s t;have e:Ab (KD*100) (dfK p q a b k):=(Aa d k).mono (bH _ O);have j:Ab (KD*100) (dfP p q a b):=d.mono O7;have l3:(Yk (tzl p) b).length<=6:=aB Kb o;have G:(Yk (tzl q) a).length<=6:=aB Kb r;have g:(dfP p q a b).length<=6:=Yl2 l3 G;have n:(dfK p q a b k).length<=6:=aB Kb g;have t5:Tr (dfP p q a b):=Qq _;have t6:Tr (dfK p q a b k):=Qq _;have u:=Yjb e e n;have v:=Yjb j j g;have z:=Zyx t6 t6 n n;have B:=Zyx t5 t5 g g;have h:∀c:Int,1<=c/\c<=4294967296->bl c.natAbs<=65536:=λc F=>aB ((Qt 40 _).2 O) O7;have D:∀c:Int,1<=c/\c<=4294967296->KA*c.natAbs<BG:=λc F=>bC (bH KA (by omega:c.natAbs<=4294967296)) O7;exact⟨Zb1 l O7 (Qq _) O,Zb1 m O7 (Qq _) O,h b y,h a w,h k O,Zrs l (D b y),Zrs m (D a w),
  Zb1 s O7 (Qq _) O,Zb1 t O7 (Qq _) O,λi=>(ad_ab s t O7 i).2,Zb1 d O7 t5 O,
  Zrs d (bC (bH KD (by omega:k.natAbs<=100)) O7),Zb1 e O7 t6 O,mf_ab e O7 O,Zb1 u O7 Qp (by have:(sqK p q a b k).length<=_:=z;omega),u,z,
  mf_ab j O7 O,Zb1 v O7 Qp (by have:(sqP p q a b).length<=_:=B;omega),v,B⟩
def ngC(ns:List Int):Nat->List Int
 | 0=>[-1]
 | i+1=>Yk (Yk (ngC ns i) (ns.getD i 0)) (ns.getD i 0)
def sqN(ns:List Int):Nat->Nat
 | 0=>1
 | i+1=>sqN ns i*(ns.getD i 0).natAbs*(ns.getD i 0).natAbs
theorem Zo3(ns:List Int):∀i,Ab (sqN ns i) (ngC ns i)/\(ngC ns i).length<=1/\Tr (ngC ns i)
 | 0=>⟨λi=>by
   match i with
   | 0=>show(cf [-1] 0).natAbs<=1;decide
   | i+1=>show(cf [-1] (i+1)).natAbs<=1;rw [Yo O8];decide,aI _,show Tr [-1]from .inr O3⟩
 | i+1=>by obtain⟨a,b,d⟩:=Zo3 ns i;exact⟨Aa (Aa a _) _,aB Kb (aB Kb b),Qq _⟩
theorem Ydm{ns:List Int}{B:Nat}(h:∀i,(ns.getD i 0).natAbs<=B):∀i,sqN ns i<=(B*B)^i
 | 0=>aI _
 | i+1=>by rw [cJ,<-dB];exact aY (aY (Ydm h i) (h i)) (h i)
structure NgX (ns:List Int) (i:Nat):Prop where
 b:bl (ns.getD i 0).natAbs<=65536
 inn:Mw (ns.getD i 0)
 v:Vp (ngC ns i)
 s:∀k,bl (cf (ngC ns i) k*ns.getD i 0).natAbs<=65536
 v2:Vp (Yk (ngC ns i) (ns.getD i 0))
 s2:∀k,bl (cf (Yk (ngC ns i) (ns.getD i 0)) k*ns.getD i 0).natAbs<=65536
theorem ngX(h:∀i,(ns.getD i 0).natAbs<=4294967296){i:Nat}(hi:i<=4):NgX ns i:=by obtain⟨j,n,k⟩:=Zo3 ns i;have e:=Ydm h i;have g:(4294967296*4294967296)^i<=(4294967296*4294967296)^4:=dK O7 hi;have a:Ab ((4294967296*4294967296)^4) (ngC ns i):=j.mono (aB e g);have b:=h i;have d:Ab ((4294967296*4294967296)^4*4294967296) (Yk (ngC ns i) (ns.getD i 0)):=(Aa a _).mono (bH _ b);have l:(4294967296*4294967296)^4*(ns.getD i 0).natAbs<BG:=bC (bH _ b) O7;have m:(4294967296*4294967296)^4*4294967296*(ns.getD i 0).natAbs<BG:=bC (bH _ b) O7;exact⟨aB ((Qt 40 _).2 O) O7,⟨O,O⟩,Zb1 a O7 k O,Zrs a l,Zb1 d O7 (Qq _) (aB Kb O),Zrs d m⟩
def smP(c:List Int)(f:Nat->List Int):Nat->List Int
 | 0=>c
 | i+1=>Zcl (smP c f i) (f i)
theorem Ydv{c:List Int}{f:Nat->List Int}{C F:Nat}(a:Ab C c)(d:c.length<=11)(g:Tr c)(b:∀i,Ab F (f i))(e:∀i,(f i).length<=11):∀i,Ab (C+i*F) (smP c f i)/\(smP c f i).length<=11/\Tr (smP c f i)
 | 0=>⟨by rw [iO];exact a,d,g⟩
 | i+1=>by obtain⟨h,j,k⟩:=Ydv a d g b e i;exact⟨by rw [eN,<-fY];exact ab_add h (b i),Yl3 j (e i),Qq _⟩
structure SmX (c:List Int) (f:Nat->List Int):Prop where
 v:∀i,i<=3->Vp (smP c f i)
 s:∀i,i<3->∀k,bl (cf (smP c f i) k+cf (f i) k).natAbs<=65536
 d:Cvd (Yi (smP c f 3))
theorem smX(m:Ab (2^190) c)(r:c.length<=1)(o:Tr c)(l:∀i,Ab (6*((KD*100)*(KD*100))) (f i))(n:∀i,(f i).length<=11):SmX c f:=by
 have b:=Ydv m O o l n;have g:∀i,i<=3->2^190+i*(6*((KD*100)*(KD*100)))<2^205:=λi hi=>bC (Nat.add_le_add_left (aP _ hi) _) O7;have a:(2:Nat)^205<BG:=O7;refine⟨λi hi=>?_,λi hi k=>?_,?_⟩
 .obtain⟨d,j,h⟩:=b i;exact Zb1 d (jM (g i hi) a) h O
 .obtain⟨d,j,h⟩:=b i;refine(ad_ab d (l i) ?_ k).1;have:=g (i+1) hi;rw [eN]at this;have e:=jM this a;omega
 .obtain⟨d,j,h⟩:=b 3;have hs:=d.sz (g 3 (aI _));exact⟨Im (Zb1 d (jM (g 3 (aI _)) a) h O),Cb hs,by rw [Zy];exact j⟩
end Go.Sky
namespace Go.Sky
variable{m ov D d:Int}{x y z:List Int}{a b xs:List Ze}
theorem fillG{g h j c e f:Value}:Instr.fill (λi=>some (i*3,3)) ((List.range (1*3)).map ((Value.agg #[g,h,j]).cells[· % (Value.agg #[g,h,j]).cells.size]!)).toArray [(0,.agg #[c,e,f])]=some #[c,e,f]:=by
 simp [Instr.fill,Value.cells,List.range,List.range.loop]
 try rfl
def Zmc(m:Int)(l:List Int):Bool:=l.all λx=>decide (-m<=x) && decide (x<=m)
theorem insB_t{l:List Int}(h:∀i,i<l.length->-m<=l.getD i 0/\l.getD i 0<=m):Zmc m l=true:=bF.2 λx g=>by obtain⟨k,f,rfl⟩:=Eb.1 g;obtain⟨c,e⟩:=h k f;rw [aJ c,aJ e];rfl
theorem Yf3 (i:Nat){l:List Int}(hi:i<l.length)(h:¬(-m<=l.getD i 0/\l.getD i 0<=m)):Zmc m l=false:=by
 cases hb:Zmc m l with
 | false=>rfl
 | true=>
  have:=bF.1 hb _ (Zi (d:=0) hi);rw [aQ]at this;exact absurd ⟨cD this.1,cD this.2⟩ h
def ptB(x y z:Int):Bool:=Zmc 1048576 [x,y,z]
theorem Zan{x y z:Int}(h:ptB x y z=true):(-1048576<=x/\x<=1048576)/\(-1048576<=y/\y<=1048576)/\(-1048576<=z/\z<=1048576):=by unfold ptB Zmc at h;simp only [nK,List.all_nil,Bool.and_true,aQ,cT]at h;exact h
def znB(D n d:Int):Bool:=decide (1<=D/\D<=4194304/\1<=n/\n<=d/\d<=100)
def ptsB(e f g h c i D n d:Int):Bool:=decide (D*d*(D*d)<=(e-h)*d*((e-h)*d)+(f-c)*d*((f-c)*d)+(g-i)*n*((g-i)*n))
def fqZ(n d ov c:Int)(x y z e f g:List Int)(i:Nat):List Int:=sqK (Ye i x y z) (Ye i e f g) ov c (Ye i d d n)
def cnZ(D d ov c:Int):List Int:=ngC [D,d,ov,c] 4
def smZ(D n d ov c:Int)(x y z e f g:List Int)(i:Nat):List Int:=smP (cnZ D d ov c) (fqZ n d ov c x y z e f g) i
def fmZ(D n d ov c:Int)(x y z e f g:List Int):List Int:=Yi (smZ D n d ov c x y z e f g 3)
structure FzX (D n d ov ov2:Int) (x y z x2 y2 z2:List Int):Prop where
 X:∀i,FmX (Ye i x y z) (Ye i x2 y2 z2) ov ov2 (Ye i d d n)
 K:∀i,Mw (Ye i d d n)
 N:∀i,i<=4->NgX [D,d,ov,ov2] i
 Q:SmX (cnZ D d ov ov2) (fqZ n d ov ov2 x y z x2 y2 z2)
theorem Zoe{fr k:Int}(h:Zal fr k ov x y z=true)(i:Nat):Ab KA (tzl (Ye i x y z)):=by unfold Zal Zut at h;simp only [aQ,cT]at h;obtain⟨⟨⟨⟨⟨⟨⟨⟨n,o⟩,q⟩,c⟩,e⟩,f⟩,g⟩,j⟩,-⟩:=h;exact Bm (p:=λl=>Ab KA (tzl l)) ((AxC.of f).ka c e) ((AxC.of g).ka c e) ((AxC.of j).ka c e)
def tzlm1:(if 25<(tzl [(-1:Int)]).length then []else tzl [-1])=[-1]:=O3
abbrev GpT:=(Int×Int)×(SL×List Int)
abbrev Zcz (g:GpT):Value:= .agg #[.int .i64 g.1.1,.int .i64 g.1.2,Xp g.2.1]
abbrev qGp (g:GpT):Pc:=Yt 2 wv (Xp g.2.1) g.2.2
abbrev Gp0:GpT:=((0,0),((none,0,0),[]))
abbrev GpU:=Int×Int×List Int
def unP(g:GpT):GpU:=(g.1.1,g.1.2,g.2.2)
def gpZ(D n d:Int)(g h:Zht):GpU:=(g.1.1,g.1.2.1,fmZ D n d g.1.2.2 h.1.2.2 g.2.1 g.2.2.1 g.2.2.2 h.2.1 h.2.2.1 h.2.2.2)
def Gm(D n d:Int)(a b:List Ze):List GpU:=List.zipWith (gpZ D n d) (Iu a b a) (Iu a b b)
def Eg(a b:List Ze):Int:=if Bv a b=9 then 0 else Bv a b
def Zwh(h:Bv a b≠0)(ps:List Ze):Iu a b ps=[]:=aD h
theorem gapZ_0{n:Int}(h:Bv a b≠0):Gm D n d a b=[]:=by unfold Gm;rw [Zwh h];rfl
theorem Zk2 (a:List Ze)(b:List Ze)(ps:List Ze){ts:List Int}(c:∀k,Pq (ts.getD k 0) (ts.getD (k+1) 0) a=true->Pq (ts.getD k 0) (ts.getD (k+1) 0) b=true->k+1<ts.length->(Bc (ts.getD k 0) (ts.getD (k+1) 0) ps).length=1):∀n,n+1<=ts.length->Ek ts a b n=true->(Ze4 ts ps n).length=n
 | 0,_,_=>rfl
 | n+1,g,e=>by have f:Ek ts a b (n+1)=(Ek ts a b n && (Pq (ts.getD n 0) (ts.getD (n+1) 0) a && Pq (ts.getD n 0) (ts.getD (n+1) 0) b)):=rfl;rw [f,aQ,aQ]at e;show(Ze4 ts ps n ++ Bc _ _ ps).length=_;rw [bE,Zk2 _ _ _ c n O e.1,c n e.2.1 e.2.2 O]
theorem Yh3{ps:List Ze}{fr c:Int}(hi:∀g∈ps,Gin g)(h:Xn ps=true)(j:spF ps<=fr)(k:fr<c)(l:c<=spL ps)(f:∀g∈ps,¬(fr<g.1.1/\g.1.1<c))(n:Pq fr c ps=true):(Bc fr c ps).length=1:=by have i:=(Oi h).2.1;unfold Bc;rw [aF n,aW,Zzu (Fz hi h).1 (λe=>by rw [e]at i;simp at i) j k l f]
theorem comE_0(h:Bv a b=0):¬cmF a b>=cmL a b/\Zt4 a b=true:=by
 unfold Bv at h;by_cases c:cmF a b>=cmL a b
 .rw [aF c]at h;exact absurd h O3
 .rw [aD c]at h;cases hk:Zt4 a b with
  | true=>exact⟨c,rfl⟩
  | false=>rw [hk]at h;exact absurd h O3
theorem Yna(p:∀g∈a,Gin g)(q:∀g∈b,Gin g)(l:Xn a=true)(n:Xn b=true):(Iu a b a).length=(Iu a b b).length/\(Iu a b a).length<=2+a.length+b.length:=by
 by_cases h:Bv a b=0
 .obtain⟨F,r⟩:=comE_0 h;have B:=bks a b O;have w:=B.two;have e:∀ps,Iu a b ps=Ze4 (Lp a b) ps ((Lp a b).length-1):=λps=>aF h;have u:=Zk2 a b a (ts:=Lp a b) (λk s t c=>by obtain⟨f,i,j⟩:=B.lt k c;unfold cmF at f;unfold cmL at j;exact Yh3 p l O i O (λg o=>B.no k c g (.inl o)) s) ((Lp a b).length-1) O r
  have v:=Zk2 a b b (ts:=Lp a b) (λk s t c=>by obtain⟨f,i,j⟩:=B.lt k c;unfold cmF at f;unfold cmL at j;exact Yh3 q n O i O (λg o=>B.no k c g (.inr o)) t) ((Lp a b).length-1) O r
  have G:=Zyw a b;rw [e,e,u,v];exact⟨rfl,O⟩
 .rw [Zwh h,Zwh h];exact⟨rfl,bI _⟩
theorem Zp8{ps zs:List Ze}(hi:∀g∈ps,Gin g)(r:Xn ps=true)(v:zs.map Ds=Iu a b ps):∀q∈zs,Gin q/\seB q=true:=by
 have k:∀n,∀u∈Ze4 (Lp a b) ps n,∃(fr f:Int) (g:Ze),g∈ps/\Lj fr f g=true/\Zgk fr f g=true/\u=Zwe fr f g:=λn=>by
  induction n with
  | zero=>intro u j;cases j
  | succ n w=>
   intro u j;rcases cY.1 (show u∈Ze4 (Lp a b) ps n ++ _ from j)with h|h
   .exact w u h
   .unfold Bc at h;split at h
    .rename_i s;obtain⟨g,l,rfl⟩:=eV.1 h;obtain⟨c,i⟩:=fL.1 l;exact⟨_,_,g,c,i,bF.1 s g l,rfl⟩
    .cases h
 intro q t;have e:Ds q∈Iu a b ps:=by rw [<-v];exact eV.2 ⟨q,t,rfl⟩
 unfold Iu at e;split at e
 .obtain⟨fr,f,g,c,i,o,p⟩:=k _ _ e;have:=Zzt (hi g c) ((Fz hi r).2.1 g c) i o p;exact⟨this.1,this.2.1⟩
 .cases e
theorem zip_s{α β γ:Type}{f:α->β->γ} : ∀{l:List α} {m:List β} {k:Nat} {x:α} {y:β},l[k]? = some x->m[k]? = some y->(List.zipWith f l m).take (k+1)=(List.zipWith f l m).take k ++ [f x y]
 | [],_,_,_,_,h,_=>by simp at h
 | _::_,[],_,_,_,_,h=>by simp at h
 | a::l,b::m,0,x,y,h,h2=>by simp at h h2;subst h;subst h2;simp
 | a::l,b::m,k+1,x,y,h,h2=>by have:=zip_s (f:=f) (l:=l) (m:=m) (k:=k) (by simpa using h) (by simpa using h2);simp only [List.zipWith_cons_cons,kW,this,iF]
def gpY(q:Ze)(g:SL×List Int):GpT:=((q.1.1,q.1.2.1),g)
theorem Ymd{n:Int}{ys:List Ze}{zs:List GpT}{k:Nat}{g:SL×List Int}(l:xs.map Ds=Iu a b a)(o:ys.map Ds=Iu a b b)(h:zs.map unP=(Gm D n d a b).take k)(e:k<xs.length)(c:k<ys.length)(j:g.2=fmZ D n d (xs.getD k G0).1.2.2 (ys.getD k G0).1.2.2 (xs.getD k G0).2.1.2 (xs.getD k G0).2.2.1.2 (xs.getD k G0).2.2.2.2 (ys.getD k G0).2.1.2 (ys.getD k G0).2.2.1.2 (ys.getD k G0).2.2.2.2) :
  (zs ++ [gpY (xs.getD k G0) g]).map unP=(Gm D n d a b).take (k+1):=by
 have f:(Iu a b a)[k]? = some (Ds (xs.getD k G0)):=by rw [<-l,eY,aM e,aE,aM e];rfl
 have i:(Iu a b b)[k]? = some (Ds (ys.getD k G0)):=by rw [<-o,eY,aM c,aE,aM c];rfl
 unfold Gm at h ⊢;rw [zip_s f i,eE,h,cQ,iQ];simp only [gpY,unP,gpZ,Ds];rw [j]
theorem gp_all{n:Int}{zs:List GpT}(c:xs.map Ds=Iu a b a)(f:(Iu a b a).length=(Iu a b b).length)(h:zs.map unP=(Gm D n d a b).take xs.length):zs.map unP=Gm D n d a b:=by rw [h,cC];have e:=aL List.length c;rw [aW]at e;unfold Gm;rw [nF];omega
def gapE_9(h:Bv a b=9):Eg a b=0:=aF h
def gapE_n(h:¬Bv a b=9):Eg a b=Bv a b:=aD h
theorem Zna{fr c:Int}(h:Sgo fr c ov x y z):Mw ov:=⟨by have:=h.o1;omega,by have:=h.o2;omega⟩
def Ymm(l:List GpU):Option GpU:=l.find? λg=>Zd6 g.2.2
def Zig(l:List GpU):Int×Int×Bool:=match Ymm l with
 | some g=>(g.1,g.2.1,true)
 | none=>(0,0,false)
theorem fst_n{l:List GpU}(h:∀i,i<l.length->Zd6 (l.getD i (0,0,[])).2.2=false):Zig l=(0,0,false):=by
 have:Ymm l=none:=nS.2 λg c=>by obtain⟨i,hi,rfl⟩:=eD.1 c;have:=h i hi;rw [aE,aM hi]at this;rw [show Zd6 (l[i]).2.2=false from this];exact bD
 unfold Zig;rw [this]
theorem Ycz(zs:List GpT)(k:Nat):(zs.map unP).getD k (0,0,[])=unP (zs.getD k Gp0):=by rw [aE,eY,aE];cases zs[k]?<;>rfl
def mkS(u:Zht):Ze:=(u.1,((none,0,0),u.2.1),((none,0,0),u.2.2.1),((none,0,0),u.2.2.2))
theorem un_mk(l:List Zht):(l.map mkS).map Ds=l:=by rw [iC];exact List.map_id' _
theorem fst_no{l:List GpU}{zs:List GpT}(h:zs.map unP=l)(c:∀i,i<zs.length->Zd6 (zs.getD i Gp0).2.2=false):Zig l=(0,0,false):=by subst h;exact fst_n λi hi=>by rw [Ycz];exact c i (by rw [aW]at hi;exact hi)
def apZ(D n d:Int)(a b:List Ze):Bool:=decide (Eg a b=0) && !(Zig (Gm D n d a b)).2.2
theorem ap_f{n:Int}(h:¬Eg a b=0):apZ D n d a b=false:=by unfold apZ;rw [aK h];rfl
def tmL(a b k:Int):List Int:=if b-a=0\/k=2 then [a]else if k=1 then [a,b-a]else [a,0,0,10*(b-a),-15*(b-a),6*(b-a)]
def lineG(k:Int)(s:SL×SL×SL):Ze:=((0,1000,1),(s.1,tmL 0 300 k),(s.2.1,tmL 0 400 k),(s.2.2,tmL 0 0 k))
def stayG(s:SL×SL×SL):Ze:=((1000,2000,1),(s.1,tmL 0 0 2),(s.2.1,tmL 0 0 2),(s.2.2,tmL 0 0 2))
theorem Zhf{l:List Int}(h:l.all (λa=>decide (-9223372036854775808<=a/\a<=9223372036854775807))=true):∀a∈l,Mw a:=λa c=>by have:=bF.1 h a c;simp only [cT]at this;exact this
def litb(l:List Int):Bool:=(l.all λx=>decide (-1000000<=x) && decide (x<=1000000)) && (decide (tzl l=l) && decide (l.length<=25))
instance eokDec:∀f a b,Decidable (eok f a b)
 | 0,_,b=>inferInstanceAs (Decidable (b=[]))
 | f+1,a,b=>@instDecidableOr _ _ _ (@instDecidableAnd _ _ _ (eokDec f b (Yi (Qk a b))))
def legZ(e f g h c i k:Int)(s:SL×SL×SL):Ze:=((0,1000,1),(s.1,tmL e h k),(s.2.1,tmL f c k),(s.2.2,tmL g i k))
abbrev TzT:=SL×List (Int×SL)
def sqF(ov c:Int)(x y z e f g:List Int)(i:Nat):List Int:=sqP (Ye i x y z) (Ye i e f g) ov c
def sqR(ov c:Int)(x y z e f g:List Int):Nat->List (List Int)
 | 0=>[]
 | i+1=>sqR ov c x y z e f g i ++ [sqF ov c x y z e f g i]
def ovW(ov c:Int):Int:=ov*c*(ov*c)
def rfL(i h ov c:Int)(x y z e f g:List Int):List Int:=Zcl (Yk (Zcl (sqF ov c x y z e f g 0) (sqF ov c x y z e f g 1)) (h*h)) (Yk (sqF ov c x y z e f g 2) (i*i))
def rfW(e f ov c:Int):Int:=e*e*(f*f)*ovW ov c
def rfZ(i j e ov c:Int)(x y z f g h:List Int):List Int:=Zbo (rfL j e ov c x y z f g h) (tzl [rfW i e ov c])
structure RfX (zd zn ze ov ov2:Int) (x y z x2 y2 z2:List Int):Prop where
 v0:∀i,Vp (sqF ov ov2 x y z x2 y2 z2 i)
 v1:Vp (Zcl (sqF ov ov2 x y z x2 y2 z2 0) (sqF ov ov2 x y z x2 y2 z2 1))
 v2:Vp (Yk (Zcl (sqF ov ov2 x y z x2 y2 z2 0) (sqF ov ov2 x y z x2 y2 z2 1)) (ze*ze))
 v3:Vp (Yk (sqF ov ov2 x y z x2 y2 z2 2) (zn*zn))
 v4:Vp (rfL zn ze ov ov2 x y z x2 y2 z2)
 v5:Vp (tzl [rfW zd ze ov ov2])
 v6:Vp (rfZ zd zn ze ov ov2 x y z x2 y2 z2)
 wb:bl (rfW zd ze ov ov2).natAbs<=1000000
 ob:bl (ov*ov2).natAbs<=1000
 oW:bl (ovW ov ov2).natAbs<=1000
 eb:bl (ze*ze).natAbs<=1000
 nb:bl (zn*zn).natAbs<=1000
 db:bl (zd*zd).natAbs<=1000
 xb:bl (zd*zd*(ze*ze)).natAbs<=1000
def tpI(n k:Nat):Nat:=n/1000000000^k
def gcR(o:Int)(X Y Z:List Int):Nat->Int
 | 0=>o
 | i+1=>(Int.gcd (gcR o X Y Z i) (Xl (Ye i X Y Z)):Int)
structure Row3 (ws:List TzT) (X Y Z:List Int):Prop where
 l:ws.length=3
 e:∀i,i<3->ints (ws.getD i T0).2=Ye i X Y Z
def segY(fr c:Int)(g:Ze)(r:SL×SL×SL):Ze:=((cA fr g,cB c g,cO g/cG fr c g),(r.1,Ci (cX fr c g g.2.1.2) (cG fr c g)),(r.2.1,Ci (cX fr c g g.2.2.1.2) (cG fr c g)),(r.2.2,Ci (cX fr c g g.2.2.2.2) (cG fr c g)))
def nxF(t c:Int)(ps:List Ze):Nat->Int
 | 0=>c
 | i+1=>if t<(ps.getD i G0).1.1 then min (nxF t c ps i) (ps.getD i G0).1.1 else nxF t c ps i
def bdI:List GpU->Int
 | []=>-1
 | g::l=>if Zd6 g.2.2 then 0 else if bdI l<0 then -1 else bdI l+1
end Go.Sky

