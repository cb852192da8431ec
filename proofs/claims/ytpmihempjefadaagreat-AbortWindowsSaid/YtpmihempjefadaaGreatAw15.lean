/- Rules, arithmetic and contracts: part 16. No conditions but those that each theorem names. -/
import Derived.Test.YtpmihempjefadaaGreatAw14
set_option linter.all false
set_option maxHeartbeats 4000000
namespace Go.Sky
variable{M x0 x1 x2 x3 G a' x:Int}{c ts:List Int}{q:Ze}{a r qs b us:List Ze}{i k:Nat}
def cgb0(e:0<=M)(d:-(M*1)<=(x0*1)/\(x0*1)<=M*1):(-(80*M)<=x0/\x0<=80*M):=O
theorem cgb1(f:0<=M)(d:-(M*1)<=(x0*1)/\(x0*1)<=M*1)(e:-(M*1)<=(x0*1+x1*1)/\(x0*1+x1*1)<=M*1):(-(80*M)<=x0/\x0<=80*M)/\(-(80*M)<=x1/\x1<=80*M):=by refine⟨⟨?_,?_⟩,⟨?_,?_⟩⟩<;>omega
theorem cgb2(g:0<=M)(d:-(M*1)<=(x0*1)/\(x0*1)<=M*1)(e:-(M*2)<=(x0*2+x1*1)/\(x0*2+x1*1)<=M*2)(f:-(M*1)<=(x0*1+x1*1+x2*1)/\(x0*1+x1*1+x2*1)<=M*1):(-(80*M)<=x0/\x0<=80*M)/\(-(80*M)<=x1/\x1<=80*M)/\(-(80*M)<=x2/\x2<=80*M):=by refine⟨⟨?_,?_⟩,⟨?_,?_⟩,⟨?_,?_⟩⟩<;>omega
theorem cgb3(h:0<=M)(d:-(M*1)<=(x0*1)/\(x0*1)<=M*1)(e:-(M*3)<=(x0*3+x1*1)/\(x0*3+x1*1)<=M*3)(f:-(M*3)<=(x0*3+x1*2+x2*1)/\(x0*3+x1*2+x2*1)<=M*3)(g:-(M*1)<=(x0*1+x1*1+x2*1+x3*1)/\(x0*1+x1*1+x2*1+x3*1)<=M*1):(-(80*M)<=x0/\x0<=80*M)/\(-(80*M)<=x1/\x1<=80*M)/\(-(80*M)<=x2/\x2<=80*M)/\(-(80*M)<=x3/\x3<=80*M):=by refine⟨⟨?_,?_⟩,⟨?_,?_⟩,⟨?_,?_⟩,⟨?_,?_⟩⟩<;>omega
theorem cgb4{d:Int}(l:0<=M)(e:-(M*1)<=(x0*1)/\(x0*1)<=M*1)(f:-(M*4)<=(x0*4+x1*1)/\(x0*4+x1*1)<=M*4)(g:-(M*6)<=(x0*6+x1*3+x2*1)/\(x0*6+x1*3+x2*1)<=M*6)(h:-(M*4)<=(x0*4+x1*3+x2*2+x3*1)/\(x0*4+x1*3+x2*2+x3*1)<=M*4)(j:-(M*1)<=(x0*1+x1*1+x2*1+x3*1+d*1)/\(x0*1+x1*1+x2*1+x3*1+d*1)<=M*1):(-(80*M)<=x0/\x0<=80*M)/\(-(80*M)<=x1/\x1<=80*M)/\(-(80*M)<=x2/\x2<=80*M)/\(-(80*M)<=x3/\x3<=80*M)/\(-(80*M)<=d/\d<=80*M):=by refine⟨⟨?_,?_⟩,⟨?_,?_⟩,⟨?_,?_⟩,⟨?_,?_⟩,⟨?_,?_⟩⟩<;>omega
theorem cgb5{d e:Int}(n:0<=M)(f:-(M*1)<=(x0*1)/\(x0*1)<=M*1)(g:-(M*5)<=(x0*5+x1*1)/\(x0*5+x1*1)<=M*5)(h:-(M*10)<=(x0*10+x1*4+x2*1)/\(x0*10+x1*4+x2*1)<=M*10)(j:-(M*10)<=(x0*10+x1*6+x2*3+x3*1)/\(x0*10+x1*6+x2*3+x3*1)<=M*10)(l:-(M*5)<=(x0*5+x1*4+x2*3+x3*2+d*1)/\(x0*5+x1*4+x2*3+x3*2+d*1)<=M*5)(m:-(M*1)<=(x0*1+x1*1+x2*1+x3*1+d*1+e*1)/\(x0*1+x1*1+x2*1+x3*1+d*1+e*1)<=M*1):(-(80*M)<=x0/\x0<=80*M)/\(-(80*M)<=x1/\x1<=80*M)/\(-(80*M)<=x2/\x2<=80*M)/\(-(80*M)<=x3/\x3<=80*M)/\(-(80*M)<=d/\d<=80*M)/\(-(80*M)<=e/\e<=80*M):=by refine⟨⟨?_,?_⟩,⟨?_,?_⟩,⟨?_,?_⟩,⟨?_,?_⟩,⟨?_,?_⟩,⟨?_,?_⟩⟩<;>omega
theorem cg_brS{n:Nat}(s:n<6)(u:c.length<=n+1)(h:∀j,j<n+1->((Iu n c j).natAbs:Int)<=M*(Px n j:Int))(k:Nat):((cf c k).natAbs:Int)<=80*M:=by
 have m:0<=M:=by have e:=h 0 O;rw [Zlu]at e;omega
 by_cases t:k<n+1
 .rw [Xr]
  match n,s with
  | 0,_=>
   have e:=Xr.1 (h 0 O3);rw [bre00,show(Px 0 0:Int)=1 from rfl]at e;have d:=cgb0 m e;obtain rfl:k=0:=O;exact d
  | 1,_=>
   have e:=Xr.1 (h 0 O3);rw [bre10,show(Px 1 0:Int)=1 from rfl]at e;have f:=Xr.1 (h 1 O3);rw [bre11,show(Px 1 1:Int)=1 from rfl]at f;have d:=cgb1 m e f;rcases(show k=0\/k=1 by omega)with rfl|rfl
   .exact d.1
   .exact d.2
  | 2,_=>
   have e:=Xr.1 (h 0 O3);rw [bre20,show(Px 2 0:Int)=1 from rfl]at e;have f:=Xr.1 (h 1 O3);rw [bre21,show(Px 2 1:Int)=2 from rfl]at f;have g:=Xr.1 (h 2 O3);rw [bre22,show(Px 2 2:Int)=1 from rfl]at g;have d:=cgb2 m e f g;rcases(show k=0\/k=1\/k=2 by omega)with rfl|rfl|rfl
   .exact d.1
   .exact d.2.1
   .exact d.2.2
  | 3,_=>
   have e:=Xr.1 (h 0 O3);rw [bre30,show(Px 3 0:Int)=1 from rfl]at e;have f:=Xr.1 (h 1 O3);rw [bre31,show(Px 3 1:Int)=3 from rfl]at f;have g:=Xr.1 (h 2 O3);rw [bre32,show(Px 3 2:Int)=3 from rfl]at g;have l:=Xr.1 (h 3 O3);rw [bre33,show(Px 3 3:Int)=1 from rfl]at l;have d:=cgb3 m e f g l;rcases(show k=0\/k=1\/k=2\/k=3 by omega)with rfl|rfl|rfl|rfl
   .exact d.1
   .exact d.2.1
   .exact d.2.2.1
   .exact d.2.2.2
  | 4,_=>
   have e:=Xr.1 (h 0 O3);rw [bre40,show(Px 4 0:Int)=1 from rfl]at e;have f:=Xr.1 (h 1 O3);rw [bre41,show(Px 4 1:Int)=4 from rfl]at f;have g:=Xr.1 (h 2 O3);rw [bre42,show(Px 4 2:Int)=6 from rfl]at g;have l:=Xr.1 (h 3 O3);rw [bre43,show(Px 4 3:Int)=4 from rfl]at l;have o:=Xr.1 (h 4 O3);rw [bre44,show(Px 4 4:Int)=1 from rfl]at o;have d:=cgb4 m e f g l o;rcases(show k=0\/k=1\/k=2\/k=3\/k=4 by omega)with rfl|rfl|rfl|rfl|rfl
   .exact d.1
   .exact d.2.1
   .exact d.2.2.1
   .exact d.2.2.2.1
   .exact d.2.2.2.2
  | 5,_=>
   have e:=Xr.1 (h 0 O3);rw [bre50,show(Px 5 0:Int)=1 from rfl]at e;have f:=Xr.1 (h 1 O3);rw [bre51,show(Px 5 1:Int)=5 from rfl]at f;have g:=Xr.1 (h 2 O3);rw [bre52,show(Px 5 2:Int)=10 from rfl]at g;have l:=Xr.1 (h 3 O3);rw [bre53,show(Px 5 3:Int)=10 from rfl]at l;have o:=Xr.1 (h 4 O3);rw [bre54,show(Px 5 4:Int)=5 from rfl]at o;have p:=Xr.1 (h 5 O3);rw [bre55,show(Px 5 5:Int)=1 from rfl]at p;have d:=cgb5 m e f g l o p;rcases(show k=0\/k=1\/k=2\/k=3\/k=4\/k=5 by omega)with rfl|rfl|rfl|rfl|rfl|rfl
   .exact d.1
   .exact d.2.1
   .exact d.2.2.1
   .exact d.2.2.2.1
   .exact d.2.2.2.2.1
   .exact d.2.2.2.2.2
 .rw [Yn O];simp;omega
theorem AxC.cg{d:Int}(h:AxC c d)(k:Nat):((cf c k).natAbs:Int)<=83886080*d:=by have f:=h.l;have:=cg_brS (n:=c.length-1) O (c:=c) O (M:=1048576*d) (λj e=>h.b j O) k;omega
theorem Zxx(c:List Int)(a:Int):∀k,plS c a 1 k=Yb (λk=>cf c k*a^k) k
 | 0=>rfl
 | k+1=>by show plS c a 1 k+plT c a 1 k=_;rw [Yk,Zxx c a k];congr 1;show c.getD k 0*(a^k*1^_)=cf c k*a^k;rw [oN,iC];rfl
theorem Zm0(f:Nat->Int):∀n,((Yb f n:Int):Rat)=Hr (λi=>(f i:Rat)) n
 | 0=>rfl
 | n+1=>by rw [Yk,Nq,<-Zm0 f n];push_cast;rfl
theorem Yek(c:List Int)(a:Int):((pl c a 1:Int):Rat)=Zb c (a:Rat):=by
 unfold pl;rw [Zxx,Zm0]
 conv=>rhs;rw [<-Ziy c]
 rw [Ziu];exact Mo _ λi hi=>by rw [<-Zc6];push_cast;rfl
theorem Yl8{p f g d D:Int}(u:0<G)(t:0<D)(o:d*G=g*D)(s:f*G=p*D):((Int.gcd d f:Nat):Int)*G=((Int.gcd g p:Nat):Int)*D:=by have h:=oG d G f;have j:=oG g D p;rw [o,s,j]at h;have l:((G.natAbs:Nat):Int)=G:=O;have m:((D.natAbs:Nat):Int)=D:=O;have e:=aN (λn:Nat=>(n:Int)) h;push_cast at e;rw [l,m]at e;exact e.symm
theorem Zzd{p f g d D:Int}(v:0<G)(o:0<D)(s:0<g)(j:f*G=p*D)(h:d*G=g*D)(u:g∣p):f/d=p/g:=by
 obtain⟨t,rfl⟩:=u;have l:f*G=(d*t)*G:=by rw [j,lO g t D,<-h,lO]
 have m:f=d*t:=lJ O l;have n:d≠0:=λe=>by rw [e,dC]at h;have:=gK s o;omega
 rw [m,fK _ n,fK _ O]
theorem Zpi(o a:Int)(x y z:List Int):∀i j,j<=i->gS o a 1 x y z i∣gS o a 1 x y z j/\∀k,k<j->gS o a 1 x y z i∣pl (Ye k x y z) a 1
 | 0,j,h=>by obtain rfl:j=0:=O;exact⟨mJ _,λk d=>O⟩
 | i+1,j,h=>by
  have e:gS o a 1 x y z (i+1)∣gS o a 1 x y z i:=iJ ..;have l:gS o a 1 x y z (i+1)∣pl (Ye i x y z) a 1:=gD ..;by_cases m:j=i+1
  .subst m;obtain⟨g,f⟩:=Zpi o a x y z i i (aJ _);exact⟨mJ _,λk d=>by
    rcases aC.1 d with q|q
    .exact fQ e (f k q)
    .subst q;exact l⟩
  .obtain⟨g,f⟩:=Zpi o a x y z i j O;exact⟨fQ e g,λk d=>fQ e (f k d)⟩
theorem Prt.pl{g:Ze}(h:Prt q g G){a:Int}(f:a*(g.1.2.1-g.1.1)=(q.1.1-g.1.1)+(q.1.2.1-q.1.1)*a')(i:Nat) :
  Sky.pl (Ye i q.2.1.2 q.2.2.1.2 q.2.2.2.2) a' 1*G=Sky.pl (Ye i g.2.1.2 g.2.2.1.2 g.2.2.2.2) a 1*(g.1.2.1-g.1.1)^5:=by
 have d:=h.x i (a:Rat) (a':Rat) (by exact_mod_cast f);rw [<-Yek,<-Yek,<-Zc6]at d;have e:((Sky.pl (Ye i q.2.1.2 q.2.2.1.2 q.2.2.2.2) a' 1*G:Int):Rat)=((Sky.pl (Ye i g.2.1.2 g.2.2.1.2 g.2.2.2.2) a 1*(g.1.2.1-g.1.1)^5:Int):Rat):=by rw [Rat.intCast_mul,Rat.intCast_mul,d,kF]
 exact_mod_cast e
theorem Zyh{g:Ze}(h:Prt q g G)(p:SgG g){a:Int}(n:0<=a/\a<=1)(s:a*(g.1.2.1-g.1.1)=(q.1.1-g.1.1)+(q.1.2.1-q.1.1)*a') :
  (∀i,i<3->pl (Ye i q.2.1.2 q.2.2.1.2 q.2.2.2.2) a' 1/gS q.1.2.2 a' 1 q.2.1.2 q.2.2.1.2 q.2.2.2.2 3=pl (Ye i g.2.1.2 g.2.2.1.2 g.2.2.2.2) a 1/gS g.1.2.2 a 1 g.2.1.2 g.2.2.1.2 g.2.2.2.2 3)/\
  q.1.2.2*1^5/gS q.1.2.2 a' 1 q.2.1.2 q.2.2.1.2 q.2.2.2.2 3=g.1.2.2*1^5/gS g.1.2.2 a 1 g.2.1.2 g.2.2.1.2 g.2.2.2.2 3:=by
 have o:0<g.1.2.1-g.1.1:=by have:=h.a0;have:=h.b0;have:=h.ab;omega
 have j:0<(g.1.2.1-g.1.1)^5:=jU o;have e:=(Zyu p (a:=a) (d:=1) ⟨n.1,O⟩ ⟨O3,O3⟩ 3).1;have f:=λi=>h.pl s i;have hs:∀i,gS q.1.2.2 a' 1 q.2.1.2 q.2.2.1.2 q.2.2.2.2 i*G=gS g.1.2.2 a 1 g.2.1.2 g.2.2.1.2 g.2.2.2.2 i*(g.1.2.1-g.1.1)^5:=by
  intro i
  induction i with
  | zero=>
   show q.1.2.2*1^5*G=g.1.2.2*1^5*_;rw [oN,iC,iC];exact h.o
  | succ i t=>
   show((Int.gcd (gS q.1.2.2 a' 1 q.2.1.2 q.2.2.1.2 q.2.2.2.2 i) (pl (Ye i q.2.1.2 q.2.2.1.2 q.2.2.2.2) a' 1):Nat):Int)*G=((Int.gcd (gS g.1.2.2 a 1 g.2.1.2 g.2.2.1.2 g.2.2.2.2 i) (pl (Ye i g.2.1.2 g.2.2.1.2 g.2.2.2.2) a 1):Nat):Int)*_;exact Yl8 h.g0 j t (f i)
 obtain⟨u,l⟩:=Zpi g.1.2.2 a g.2.1.2 g.2.2.1.2 g.2.2.2.2 3 3 (aJ _);obtain⟨m,-⟩:=Zpi g.1.2.2 a g.2.1.2 g.2.2.1.2 g.2.2.2.2 3 0 O3;refine⟨λi hi=>Zzd h.g0 j e (f i) (hs 3) (l i hi),Zzd h.g0 j e ?_ (hs 3) m⟩;rw [oN,iC,iC];exact h.o
theorem me_prt{g h r:Ze}{K:Int}(p:SgG g)(s:SgG h)(u:Prt q g G)(v:Prt r h K)(f:q.1.2.1=g.1.2.1)(e:r.1.1=h.1.1)(t:meG g h=true):meG q r=true:=by
 obtain⟨d,w⟩:=Zyh u p (a:=1) (a':=1) ⟨O3,O3⟩ (by rw [f];omega);obtain⟨r1,r2⟩:=Zyh v s (a:=0) (a':=0) ⟨O3,O3⟩ (by rw [e];omega);unfold meG Zkv sameP at *;rw [aQ,eW,eW]at *;obtain⟨j,l,m,n,o⟩:=t;refine⟨by rw [f,e];exact j,?_,?_,?_,?_⟩
 .exact(d 0 O3).trans (l.trans (r1 0 O3).symm)
 .exact(d 1 O3).trans (m.trans (r1 1 O3).symm)
 .exact(d 2 O3).trans (n.trans (r1 2 O3).symm)
 .exact w.trans (o.trans r2.symm)
structure Chn (ps:List Ze):Prop where
 lt:∀g∈ps,g.1.1<g.1.2.1
 eq:∀(i:Nat) (g h:Ze),ps[i]? = some g->ps[i+1]? = some h->g.1.2.1=h.1.1
def Chn.tail{g:Ze}(h:Chn (g::r)):Chn r:=⟨λx d=>h.lt x (bM _ d),λi x y d e=>h.eq (i+1) x y d e⟩
theorem Chn.ge:∀{r:List Ze} {g:Ze},Chn (g::r)->∀x∈r,g.1.2.1<=x.1.1
 | [],_,_,_,d=>nomatch d
 | h::r,g,hc,x,d=>by
  have e:=hc.eq 0 g h rfl rfl;rcases aZ.1 d with rfl|d
  .omega
  .have:=Chn.ge hc.tail x d;have:=hc.lt h O8;omega
theorem Zi3{fr m:Int} : ∀{ps:List Ze},Chn ps->∀(j:Nat) (f e:Ze),(ps.filter (Li fr m))[j]? = some f->(ps.filter (Li fr m))[j+1]? = some e->∃i:Nat,ps[i]? = some f/\ps[i+1]? = some e
 | [],_,j,f,e,h,_=>by simp at h
 | g::r,hc,j,f,e,h1,d=>by
  cases hp:Li fr m g with
  | false=>
   rw [gE (by rw [hp];exact bD)]at h1 d;obtain⟨i,a,b⟩:=Zi3 hc.tail j f e h1 d;exact⟨i+1,a,b⟩
  | true=>
   rw [eR hp]at h1 d
   match j with
   | j+1=>
    obtain⟨i,a,b⟩:=Zi3 hc.tail j f e h1 d;exact⟨i+1,a,b⟩
   | 0=>
    obtain rfl:g=f:=by simpa using h1
    have d:(r.filter (Li fr m))[0]? = some e:=d;have s:e∈r.filter (Li fr m):=dU d;obtain⟨l,n⟩:=fM.1 s
    match r,hc,d,l with
    | h::r,hc,d,l=>
     have u:=hc.eq 0 g h rfl rfl;have v:=hc.lt h O8;have t:=cD hp;have o:=cD n;have p:Li fr m h=true:=by
      refine aI ?_;unfold cA cB at *;rcases aZ.1 l with rfl|q
      .exact o
      .have:=Chn.ge hc.tail e q;omega
     rw [eR p]at d;obtain rfl:h=e:=by simpa using d
     exact⟨0,rfl,rfl⟩
theorem getD_some{α:Type}{l:List α}{x d:α}(h:l[i]? = some x):l.getD i d=x:=by rw [aE,h];rfl
theorem Cb{ps:List Ze}(hi:∀g∈ps,Gin g)(p:Xt ps=true):Chn ps/\(∀g∈ps,seB g=true)/\∀(i:Nat) (g h:Ze),ps[i]? = some g->ps[i+1]? = some h->meG g h=true:=by
 obtain⟨o,s,t⟩:=Oh p;have l:∀g∈ps,seB g=true:=λg d=>by obtain⟨i,f,e⟩:=eD.1 d;have:=Cr (o i f);rw [aE,aL f,fC,e]at this;exact this
 have j:∀(i:Nat) (g h:Ze),ps[i]? = some g->ps[i+1]? = some h->meG g h=true:=λi g h d m=>by have n:=(cI.1 m).1;have:=o (i+1) n;rw [Zki (Cr this) O,fN,getD_some d,getD_some m]at this;exact this
 refine⟨⟨λg d=>(Iz (hi g d) (l g d)).t2,λi g h d m=>?_⟩,l,j⟩;have:=j i g h d m;unfold meG Zkv at this;rw [aQ,eW]at this;exact this.1
structure Pat (fr to:Int) (ps qs:List Ze):Prop where
 gin:∀q∈qs,Gin q
 pb:Xt qs=true
 len:qs.length=(ps.filter (Li fr to)).length
 prt:∀(j:Nat) (q:Ze),qs[j]? = some q->∃f:Ze,(ps.filter (Li fr to))[j]? = some f/\f∈ps/\Prt q f (cG fr to f)
 nxt:∀(j:Nat) (q r:Ze),qs[j]? = some q->qs[j+1]? = some r->∃(i:Nat) (f h:Ze),ps[i]? = some f/\ps[i+1]? = some h/\Prt q f (cG fr to f)/\Prt r h (cG fr to h)/\q.1.2.1=f.1.2.1/\r.1.1=h.1.1
theorem Yhp{fr d:Int}{ps:List Ze}(hi:∀g∈ps,Gin g)(P:Xt ps=true)(v:Pp fr d ps=true)(S:qs.map Dn=(ps.filter (Li fr d)).map (Zv9 fr d))(I:ps.filter (Li fr d)≠[]):Pat fr d ps qs:=by
 obtain⟨Q,s,H⟩:=Cb hi P;have hl:qs.length=(ps.filter (Li fr d)).length:=by have:=aN List.length S;rwa [aW,aW]at this
 have z:∀(j:Nat) (q:Ze),qs[j]? = some q->∃f:Ze,(ps.filter (Li fr d))[j]? = some f/\f∈ps/\Li fr d f=true/\Dn q=Zv9 fr d f/\Gin q/\seB q=true/\Prt q f (cG fr d f):=λj q m=>by have a0:=(cI.1 m).1;have w:(ps.filter (Li fr d))[j]? = some ((ps.filter (Li fr d))[j]' O):=aL O;generalize (ps.filter (Li fr d))[j]' O=f at w;obtain⟨t,B⟩:=fM.1 (dU w);have e:=aN (λl:List Zhs=>l[j]?) S;simp only [eY,m,w,Option.map_some,jY]at e;have hk:Zgj fr d f=true:=bF.1 v f (dU w);obtain⟨a,b,c⟩:=Zzj (hi f t) (s f t) B hk e;exact⟨f,w,t,B,e,a,b,c⟩
 have R:∀(j:Nat) (q r:Ze),qs[j]? = some q->qs[j+1]? = some r->∃(i:Nat) (f h:Ze),ps[i]? = some f/\ps[i+1]? = some h/\Prt q f (cG fr d f)/\Prt r h (cG fr d h)/\q.1.2.1=f.1.2.1/\r.1.1=h.1.1:=λj q r m hr=>by
  obtain⟨f,f1,f2,f3,f4,-,-,f7⟩:=z j q m;obtain⟨h,F,h2,h3,h4,-,-,h7⟩:=z (j+1) r hr;obtain⟨i,V,W⟩:=Zi3 Q j f h f1 F;have e1:=Q.eq i f h V W;have c1:=cD f3;have c2:=cD h3;have q1:q.1=(cA fr f,cB d f,mdO (cO f) (cG fr d f)):=aN Prod.fst f4;have r1:r.1=(cA fr h,cB d h,mdO (cO h) (cG fr d h)):=aN Prod.fst h4;refine⟨i,f,h,V,W,f7,h7,?_,?_⟩
  .rw [q1];show cB d f=_;unfold cA cB at *;omega
  .rw [r1];show cA fr h=_;unfold cA cB at *;omega
 have y:∀q∈qs,Gin q:=λq N=>by obtain⟨j,m⟩:=fI.1 N;obtain⟨f,-,-,-,-,h,-⟩:=z j q m;exact h
 have u:qs.length<=256:=by have F:=gQ (Li fr d) ps;have h2:=(Oh P).2.2;omega
 have F:1<=qs.length:=by have:=aH.2 I;omega
 refine⟨y,?_,hl,λj q m=>?_,R⟩
 .rw [Zot (λi n=>?_),aI ⟨F,u⟩];have m:qs[i]? = some (qs[i]'(n)):=aL n;generalize qs[i]'(n)=q at m;obtain⟨f,-,-,-,-,-,hs,-⟩:=z i q m;rcases aV i with D|D
  .exact Zvd (by rw [getD_some m];exact hs) D
  .rw [Zki (by rw [getD_some m];exact hs) D,getD_some m];have o:qs[i-1]? = some (qs[i-1]' O):=aL O;generalize qs[i-1]' O=p at o;rw [getD_some o];obtain⟨k,f,h,Y,Z,k3,k4,k5,k6⟩:=R (i-1) p q o (by rw [nR D];exact m);have t:=dU Y;have B:=dU Z;exact me_prt (Iz (hi f t) (s f t)) (Iz (hi h B) (s h B)) k3 k4 k5 k6 (H k f h Y Z)
 .obtain⟨f,f1,f2,-,-,-,-,f7⟩:=z j q m;exact⟨f,f1,f2,f7⟩
theorem Zv8{fr f:Int} : ∀{ps:List Ze},Chn ps->ps≠[]->spF ps<=fr->fr<f->f<=spL ps->ps.filter (Li fr f)≠[]
 | [],_,h,_,_,_=>absurd rfl h
 | g::r,hc,_,m,h2,d=>by
  have o:=hc.lt g O8;have m:g.1.1<=fr:=m;by_cases j:Li fr f g=true
  .rw [eR j];exact List.cons_ne_nil _ _
  .have l:¬cA fr g<cB f g:=λh=>j (aI h);have e:g.1.2.1<=fr:=by unfold cA cB at l;omega
   rw [gE j]
   match r,hc,d with
   | [],_,d=>
    have d:f<=g.1.2.1:=d;omega
   | h::r,hc,d=>
    have n:=hc.eq 0 g h rfl rfl;refine Zv8 hc.tail (List.cons_ne_nil _ _) (by show h.1.1<=fr;omega) h2 ?_;have:spL (g::h::r)=spL (h::r):=by unfold spL;simp
    rw [<-this];exact d
def jqP(fr h g:Int)(x y z:List Int)(d f e:Int)(x2 j l:List Int)(i:Nat):Prop:=qr (bgS (Ye i x2 j l)) (Ap [e,f-d])=qr (enS (Ye i x y z)) (Ap [g,h-fr])
def refS(o:Nat)(x y z:List Int):Nat->List Int
 | 0=>[]
 | i+1=>Zcj (refS o x y z i) (Qr (dN o (tzl (Ye i x y z))) (dN o (tzl (Ye i x y z))))
def refC(o:Nat)(m d T:Int):Int:=m^2*d^2*T^(2*o)
def refF(o:Nat)(m d T:Int)(x y z:List Int):List Int:=Zbl (tzl [refC o m d T]) (Yi (refS o x y z 3) (1000^(2*o)))
def frB(ps:List Ze)(e d:Int)(i:Nat):Int:=
 if 0<i/\joG (ps.getD (i-1) G0) (ps.getD i G0)=false then 1 else if Zd4 (Ygf 1 e (ps.getD i G0))=true then 2 else if Zd4 (Ygf 2 d (ps.getD i G0))=true then 3 else 0
def fiB(ps:List Ze)(e d:Int):Option (Nat×Int):=((List.range ps.length).find? λi=>decide (frB ps e d i≠0)).map λi=>(i,frB ps e d i)
theorem tf(b:Bool):b=false\/b=true:=by cases b<;>simp
def fiI(o:Option (Nat×Int)):Int:=match o with
 | none=>0
 | some g=>g.1
def fiC(o:Option (Nat×Int)):Int:=match o with
 | none=>0
 | some g=>g.2
abbrev firV (o:Option (Nat×Int)):Value:= .tuple #[.agg #[.int .i64 (fiI o),.int .i64 (fiC o)],.bool o.isSome,.int .i64 0]
def spd(o:Nat)(x y z:List Int)(u:Rat):Rat:=Zb (refS o x y z 3) u
def lstB(o:Nat)(ps:List Ze):Nat:=Yj3 (λn=>Yfp o ps (n:Int)) 14 0 10000
def lsV(o:Nat)(ps:List Ze):Nat:=if Yfp o ps 10000 then lstB o ps else 0
theorem Yag(a b:Bool):a=false\/(a=true/\b=false)\/(a=true/\b=true):=by cases a<;>cases b<;>simp
def dR(o:Nat)(c:List Int)(u:Rat):Rat:=Zb (dN o (tzl c)) u
theorem Prt.num{g:Ze}(h:Prt q g G):∃v s:Rat,0<=v/\0<s/\v+s<=1/\s*((g.1.2.1-g.1.1:Int):Rat)=((q.1.2.1-q.1.1:Int):Rat)/\v*((g.1.2.1-g.1.1:Int):Rat)=((q.1.1-g.1.1:Int):Rat)/\(0:Rat)<((g.1.2.1-g.1.1:Int):Rat)/\
  ∀i (u:Rat),Zb (Ye i q.2.1.2 q.2.2.1.2 q.2.2.2.2) u*(G:Rat)=((g.1.2.1-g.1.1:Int):Rat)^5*Zb (Ye i g.2.1.2 g.2.2.1.2 g.2.2.2.2) (v+s*u):=by
 have m:=h.a0;have n:=h.b0;have o:=h.ab;have y:=h.x;generalize g.1.2.1-g.1.1=d at *;generalize q.1.2.1-q.1.1=b at *;generalize q.1.1-g.1.1=a at *;have j:(0:Rat)<(d:Rat):=by exact_mod_cast (show 0<d by omega)
 have p:(0:Rat)<=(a:Rat):=by exact_mod_cast m
 have w:(0:Rat)<(b:Rat):=by exact_mod_cast n
 have t:(a:Rat)+(b:Rat)<=(d:Rat):=by exact_mod_cast o
 have hi:0<(d:Rat)⁻¹:=gC.2 j;have e:(a:Rat)/d*d=a:=nS O4;have f:(b:Rat)/d*d=b:=nS O4;refine⟨(a:Rat)/d,(b:Rat)/d,?_,?_,?_,f,e,j,λi u=>y i _ u (by
  have l:(b:Rat)/d*u*d=((b:Rat)/d*d)*u:=by rw [kK,kF u,<-kK]
  rw [Rat.add_mul,e,l,f])⟩
 .rw [jG];exact aM p (dG hi)
 .rw [jG];exact bB w hi
 .have:((a:Rat)/d+b/d)*d<=1*d:=by rw [Rat.add_mul,e,f];grind
  exact Rat.le_of_mul_le_mul_right this j
theorem lh_pat{fr f:Int}{ps:List Ze}(hi:∀g∈ps,Gin g)(h:Xt ps=true)(j:spF ps<=fr/\fr<f/\f<=spL ps)(d:Pp fr f ps=true)(l:qs.map Dn=Cz fr f ps):Pat fr f ps qs:=
 Yhp hi h d (l.trans (aF d)) (Zv8 (Cb hi h).1 (λe=>by have:=(Oh h).2.1;rw [e]at this;simp at this) j.1 j.2.1 j.2.2)
def Zwa{fr d:Int}{ps:List Ze}(h:Pp fr d ps=true):Zd5 fr d ps=0:=aF h
theorem Yht{fr d:Int}{ps:List Ze}(h:Pp fr d ps=false):Zd5 fr d ps=7:=aD (by rw [h];exact bD)
def lh_M{fr e:Int}{ps:List Ze}(hi:∀g∈ps,Gin g)(f:Xt ps=true):∀g∈ps,Li fr e g=true->MdG fr e g:=λg d h=>Yfb (hi g d) ((Cb hi f).2.1 g d) h
def inn(fr d:Int)(ps:List Ze):List Int:=(ps.filter λg=>decide (fr<g.1.1) && decide (g.1.1<d)).map λg=>g.1.1
theorem inn_t{fr d:Int}{ps:List Ze}(h:k<ps.length)(e:fr<(ps.getD k G0).1.1)(f:(ps.getD k G0).1.1<d):inn fr d (ps.take (k+1))=inn fr d (ps.take k) ++ [(ps.getD k G0).1.1]:=by unfold inn;rw [Zn6 (x:=ps.getD k G0) (by rw [aE,aL h];rfl),fO,eE];rw [show List.filter (λg:Ze=>decide (fr<g.1.1) && decide (g.1.1<d)) [ps.getD k G0]=[ps.getD k G0]from eR (by rw [aI e,aI f];rfl)];rfl
theorem inn_f{fr d:Int}{ps:List Ze}(f:k<ps.length)(h:¬(fr<(ps.getD k G0).1.1/\(ps.getD k G0).1.1<d)):inn fr d (ps.take (k+1))=inn fr d (ps.take k):=by
 unfold inn;rw [Zn6 (x:=ps.getD k G0) (by rw [aE,aL f];rfl),fO,eE];rw [show List.filter (λg:Ze=>decide (fr<g.1.1) && decide (g.1.1<d)) [ps.getD k G0]=[] by rw [gE (λe=>by rw [aQ]at e;exact h ⟨cD e.1,cD e.2⟩)];rfl]
 simp
theorem Zpd(fr d:Int)(ps:List Ze):(inn fr d ps).length<=ps.length:=by unfold inn;rw [aW];exact gQ _ _
theorem Zye{fr h:Int}{ps:List Ze} : x∈inn fr h ps↔∃g∈ps,g.1.1=x/\fr<x/\x<h:=by
 unfold inn;rw [eV];constructor
 .rintro⟨g,f,rfl⟩;obtain⟨e,d⟩:=fM.1 f;simp only [aQ,cZ]at d;exact⟨g,e,rfl,d.1,d.2⟩
 .rintro⟨g,f,rfl,e,d⟩;exact⟨g,fM.2 ⟨f,by simp [e,d]⟩,rfl⟩
def cmF(a b:List Ze):Int:=max (spF a) (spF b)
def cmL(a b:List Ze):Int:=min (spL a) (spL b)
def Zeh(a b:List Ze)(i:Nat):List Int:=cmF a b::cmL a b::((if 1<=i then inn (cmF a b) (cmL a b) a else []) ++ (if 2<=i then inn (cmF a b) (cmL a b) b else []))
def Ln(a b:List Ze):List Int:=Zrd (Zeh a b 2)
def Ep{α:Type _}(i:Nat)(a b:α):α:=if i=0 then a else b
theorem tms_s(h:i<2):Zeh a b (i+1)=Zeh a b i ++ inn (cmF a b) (cmL a b) (Ep i a b):=by
 match i,h with
 | 0,_=>simp [Zeh,Ep]
 | 1,_=>simp [Zeh,Ep]
theorem Ziz : x∈Ln a b↔x=cmF a b\/x=cmL a b\/(cmF a b<x/\x<cmL a b/\((∃g∈a,g.1.1=x)\/∃g∈b,g.1.1=x)):=by
 unfold Ln;rw [Zkt];show x∈cmF a b::cmL a b::(inn _ _ a ++ inn _ _ b)↔_;rw [aZ,aZ,cW,Zye,Zye];constructor
 .rintro(h|h|⟨g,d,e,f,j⟩|⟨g,d,e,f,j⟩)
  .exact .inl h
  .exact .inr (.inl h)
  .exact .inr (.inr ⟨f,j,.inl ⟨g,d,e⟩⟩)
  .exact .inr (.inr ⟨f,j,.inr ⟨g,d,e⟩⟩)
 .rintro(h|h|⟨f,j,⟨g,d,e⟩|⟨g,d,e⟩⟩)
  .exact .inl h
  .exact .inr (.inl h)
  .exact .inr (.inr (.inl ⟨g,d,e,f,j⟩))
  .exact .inr (.inr (.inr ⟨g,d,e,f,j⟩))
def Ynl(a b:List Ze):Sst (Ln a b) (Ln a b).length:=Zw9 (Zk6 _)
theorem Zsq(x:Int):∀l:List Int,(Zk4 x l).length<=l.length+1
 | []=>aJ _
 | y::l=>by
  have:=Zsq x l;unfold Zk4;split
  .exact aJ _
  .split
   .exact Nat.le_succ _
   .simp only [dM];omega
theorem Zso:∀l:List Int,(Zrd l).length<=l.length
 | []=>aJ _
 | x::l=>by have:=Zso l;have:=Zsq x (Zrd l);show(Zk4 x (Zrd l)).length<=_;simp only [dM];omega
theorem Zpc(a b:List Ze)(i:Nat):(Zeh a b i).length<=2+a.length+b.length:=by have d:=Zpd (cmF a b) (cmL a b) a;have e:=Zpd (cmF a b) (cmL a b) b;unfold Zeh;split<;>split<;>simp<;>omega
def Zyn(a b:List Ze):(Ln a b).length<=2+a.length+b.length:=aB (Zso _) (Zpc a b 2)
structure Bks (a b:List Ze):Prop where
 two:2<=(Ln a b).length
 hd:(Ln a b).getD 0 0=cmF a b
 ls:(Ln a b).getD ((Ln a b).length-1) 0=cmL a b
 lt:∀k,k+1<(Ln a b).length->cmF a b<=(Ln a b).getD k 0/\(Ln a b).getD k 0<(Ln a b).getD (k+1) 0/\(Ln a b).getD (k+1) 0<=cmL a b
 no:∀k,k+1<(Ln a b).length->∀g,g∈a\/g∈b->¬((Ln a b).getD k 0<g.1.1/\g.1.1<(Ln a b).getD (k+1) 0)
theorem bks (a:List Ze)(b:List Ze)(h:cmF a b<cmL a b):Bks a b:=by
 have hs:=Ynl a b;have u:cmF a b∈Ln a b:=Ziz.2 (.inl rfl);have v:cmL a b∈Ln a b:=Ziz.2 (.inr (.inl rfl));have f:∀x∈Ln a b,cmF a b<=x/\x<=cmL a b:=λx B=>by rcases Ziz.1 B with l|l|⟨l,o,_⟩<;>omega
 obtain⟨i,hi,s⟩:=Fz.1 u;obtain⟨j,I,t⟩:=Fz.1 v;have p:2<=(Ln a b).length:=by
  by_cases e:i=j
  .subst e;omega
  .omega
 have w:(Ln a b).getD 0 0=cmF a b:=by
  by_cases e:i=0
  .subst e;exact s
  .have l:=hs 0 i O hi;have o:=(f _ (Zi (zs:=Ln a b) (i:=0) (d:=0))).1;omega
 have D:(Ln a b).getD ((Ln a b).length-1) 0=cmL a b:=by
  by_cases e:j=(Ln a b).length-1
  .rw [<-e];exact t
  .have l:=hs j ((Ln a b).length-1) O O;have o:=(f _ (Zi (zs:=Ln a b) (i:=(Ln a b).length-1) (d:=0))).2;omega
 refine⟨p,w,D,λk n=>⟨(f _ Zi).1,hs k (k+1) O n,(f _ (Zi n)).2⟩,λk n g m H=>?_⟩;have l:=(f _ (Zi (zs:=Ln a b) (i:=k) (d:=0))).1;have o:=(f _ (Zi (zs:=Ln a b) (i:=k+1) (d:=0) n)).2;have y:g.1.1∈Ln a b:=Ziz.2 (.inr (.inr ⟨O,O,by
  rcases m with m|m
  .exact .inl ⟨g,m,rfl⟩
  .exact .inr ⟨g,m,rfl⟩⟩))
 obtain⟨q,z,F⟩:=Fz.1 y;rcases oH q k with c|c|c
 .have:=hs q k c O;omega
 .subst c;omega
 .rcases oH q (k+1)with d|d|d
  .omega
  .subst d;omega
  .have:=hs (k+1) q d z;omega
theorem Zzl{fr d:Int}{g:Ze}(h:Li fr d g=true):fr<g.1.2.1/\g.1.1<d:=by unfold Li cA cB at h;have:=cD h;exact⟨O,O⟩
theorem Zzk{fr d:Int}{ps:List Ze}(f:Chn ps)(j:ps≠[])(p:spF ps<=fr)(s:fr<d)(t:d<=spL ps)(l:∀g∈ps,¬(fr<g.1.1/\g.1.1<d)):(ps.filter (Li fr d)).length=1:=by
 have u:=Zv8 f j p s t;have m:0<(ps.filter (Li fr d)).length:=aH.2 u;rcases aX 1 (ps.filter (Li fr d)).length with e|e
 .exfalso;have n:=aL m;have o:=aL e;obtain⟨i,f1,f2⟩:=Zi3 f 0 _ _ n o;have v:=(fM.1 (fW m)).2;have w:=(fM.1 (fW e)).2;have h:=(fM.1 (fW e)).1;have B:=f.eq i _ _ f1 f2;have y:=Zzl v;have z:=Zzl w;exact l _ h ⟨O,O⟩
 .omega
def Ze3(ts:List Int)(ps:List Ze):Nat->List Zhs
 | 0=>[]
 | n+1=>Ze3 ts ps n ++ Cz (ts.getD n 0) (ts.getD (n+1) 0) ps
def Ei(ts:List Int)(a b:List Ze):Nat->Bool
 | 0=>true
 | n+1=>Ei ts a b n && (Pp (ts.getD n 0) (ts.getD (n+1) 0) a && Pp (ts.getD n 0) (ts.getD (n+1) 0) b)
def Zt0(a b:List Ze):Bool:=Ei (Ln a b) a b ((Ln a b).length-1)
def Bs(a b:List Ze):Int:=if cmF a b>=cmL a b then 9 else if Zt0 a b then 0 else 7
def It(a b ps:List Ze):List Zhs:=if Bs a b=0 then Ze3 (Ln a b) ps ((Ln a b).length-1)else []
theorem Ztz{ts:List Int}{a b:List Ze} : ∀{n m:Nat},n<=m->Ei ts a b m=true->Ei ts a b n=true
 | n,0,h,d=>by obtain rfl:n=0:=O;rfl
 | n,m+1,h,d=>by
  rcases aX m n with e|e
  .obtain rfl:n=m+1:=O;exact d
  .refine Ztz e ?_;have:Ei ts a b (m+1)=(Ei ts a b m && (Pp (ts.getD m 0) (ts.getD (m+1) 0) a && Pp (ts.getD m 0) (ts.getD (m+1) 0) b)):=rfl;rw [this,aQ]at d;exact d.1
def tik(a b:List Ze)(i k:Nat):List Int:=Zeh a b i ++ inn (cmF a b) (cmL a b) ((Ep i a b).take k)
theorem tik_0(a b:List Ze)(i:Nat):tik a b i 0=Zeh a b i:=by unfold tik;rw [eX];exact iT _
theorem tik_t(f:k<(Ep i a b).length)(d:cmF a b<((Ep i a b).getD k G0).1.1)(e:((Ep i a b).getD k G0).1.1<cmL a b):tik a b i (k+1)=tik a b i k ++ [((Ep i a b).getD k G0).1.1]:=by unfold tik;rw [inn_t f d e,dW]
theorem tik_f(d:k<(Ep i a b).length)(h:¬(cmF a b<((Ep i a b).getD k G0).1.1/\((Ep i a b).getD k G0).1.1<cmL a b)):tik a b i (k+1)=tik a b i k:=by unfold tik;rw [inn_f d h]
theorem tik_e(hi:i<2):tik a b i (Ep i a b).length=Zeh a b (i+1):=by unfold tik;rw [bT,tms_s hi]
theorem Zsp(a b:List Ze)(i:Nat):(Ep i a b).length<=a.length+b.length:=by unfold Ep;split<;>omega
theorem Yln(a b:List Ze)(i k:Nat):(tik a b i k).length<=2+2*(a.length+b.length):=by have d:=Zpc a b i;have e:=Zpd (cmF a b) (cmL a b) ((Ep i a b).take k);have f:=Zsp a b i;have g:((Ep i a b).take k).length<=(Ep i a b).length:=List.length_take_le' _ _;unfold tik;rw [bE];omega
def tms_ne(a b:List Ze)(i:Nat):Zeh a b i≠[]:=λh=>nomatch h
theorem tms_2(a b:List Ze)(i:Nat):2<=(Zeh a b i).length:=by unfold Zeh;simp
section
variable {P:Program} {N:Nat} {sc:Nat->Prop} {env:Qj} {H:Hp}
theorem Ykl{f g sd:SL}(i j k n:Nat)(l:lk H j=some (Qi 6 Pz qG (Xo f) a))(m:lk H k=some (Qi 6 Pz qG (Xo g) b))(d:Nat.beq j 0=false)(e:Nat.beq k 0=false)(hi:i<2) :
  ∀a' w,Sat N sc env H a' w->Sat N sc env ((n,Qi 6 Pz qG (Xo ([f,g].getD i sd)) (Ep i a b))::H) a' w:=by
 match i,hi with
 | 0,_=>exact Zcd j n l d rfl (λ_ h=>h) (λ_ h=>h) rfl
 | 1,_=>exact Zcd k n m e rfl (λ_ h=>h) (λ_ h=>h) rfl
end
theorem Yhv(h:cmF a b>=cmL a b)(ps:List Ze):Bs a b=9/\It a b ps=[]:=by have e:Bs a b=9:=aF h;exact⟨e,by unfold It;rw [e];rfl⟩
theorem Zno(h:¬cmF a b>=cmL a b){n:Nat}(j:n+1<(Ln a b).length)(g:(Pp ((Ln a b).getD n 0) ((Ln a b).getD (n+1) 0) a && Pp ((Ln a b).getD n 0) ((Ln a b).getD (n+1) 0) b)=false)(ps:List Ze):Bs a b=7/\It a b ps=[]:=by
 have k:Zt0 a b=false:=by
  cases hk:Zt0 a b with
  | false=>rfl
  | true=>
   have d:=Ztz (n:=n+1) O hk;have f:Ei (Ln a b) a b (n+1)=(Ei (Ln a b) a b n && (Pp ((Ln a b).getD n 0) ((Ln a b).getD (n+1) 0) a && Pp ((Ln a b).getD n 0) ((Ln a b).getD (n+1) 0) b)):=rfl;rw [f,g,dH]at d;exact d.symm
 have e:Bs a b=7:=by unfold Bs;rw [aD h,k];rfl
 exact⟨e,by unfold It;rw [e];rfl⟩
theorem Yhw(h:¬cmF a b>=cmL a b){n:Nat}(f:n+1=(Ln a b).length)(d:Ei (Ln a b) a b n=true):Bs a b=0/\∀ps,It a b ps=Ze3 (Ln a b) ps n:=by
 have k:Zt0 a b=true:=by unfold Zt0;rw [show(Ln a b).length-1=n by omega];exact d
 have e:Bs a b=0:=by unfold Bs;rw [aD h,k];rfl
 exact⟨e,λps=>by unfold It;rw [e,aF rfl,show(Ln a b).length-1=n by omega]⟩
theorem com_k{n:Nat}(h:Ei (Ln a b) a b n=true)(d:Pp ((Ln a b).getD n 0) ((Ln a b).getD (n+1) 0) a=true)(e:Pp ((Ln a b).getD n 0) ((Ln a b).getD (n+1) 0) b=true):Ei (Ln a b) a b (n+1)=true:=by show(Ei (Ln a b) a b n && (_ && _))=true;rw [h,d,e];rfl
theorem com_z{ps zs:List Ze}{n:Nat}(h:zs.map Dn=Ze3 ts ps n)(d:us.map Dn=Cz (ts.getD n 0) (ts.getD (n+1) 0) ps):(zs ++ us).map Dn=Ze3 ts ps (n+1):=by rw [eE,h,d];rfl
theorem com_u{ps:List Ze}{fr d:Int}(hi:∀g∈ps,Gin g)(j:Xt ps=true)(m:spF ps<=fr)(n:fr<d)(o:d<=spL ps)(f:∀g∈ps,¬(fr<g.1.1/\g.1.1<d))(s:Pp fr d ps=true)(t:us.map Dn=Cz fr d ps):us.length=1:=by have l:=(Oh j).2.1;have p:=Zzk (Cb hi j).1 (λe=>by rw [e]at l;simp at l) m n o f;have h:=aN List.length t;rw [aW]at h;rw [h];unfold Cz;rw [aF s,aW,p]
theorem com_ua{n:Nat}(hi:∀g∈a,Gin g)(j:Xt a=true)(B:Bks a b)(d:n+1<(Ln a b).length)(l:Pp ((Ln a b).getD n 0) ((Ln a b).getD (n+1) 0) a=true)(o:us.map Dn=Cz ((Ln a b).getD n 0) ((Ln a b).getD (n+1) 0) a):us.length=1:=by obtain⟨e,f,h⟩:=B.lt n d;unfold cmF at e;unfold cmL at h;exact com_u hi j O f O (λg m=>B.no n d g (.inl m)) l o
theorem com_ub{n:Nat}(hi:∀g∈b,Gin g)(j:Xt b=true)(B:Bks a b)(d:n+1<(Ln a b).length)(l:Pp ((Ln a b).getD n 0) ((Ln a b).getD (n+1) 0) b=true)(o:us.map Dn=Cz ((Ln a b).getD n 0) ((Ln a b).getD (n+1) 0) b):us.length=1:=by obtain⟨e,f,h⟩:=B.lt n d;unfold cmF at e;unfold cmL at h;exact com_u hi j O f O (λg m=>B.no n d g (.inr m)) l o
theorem Zwu{a b:Bool}(h:a=false):(a && b)=false:=by rw [h];rfl
theorem Zwt{a b:Bool}(h:b=false):(a && b)=false:=by rw [h];exact dH _
end Go.Sky
namespace Go.Sky
variable{c p q ns:List Int}{x M:Nat}{f:Nat->List Int}
section
variable {P:Program} {N:Nat} {sc:Nat->Prop} {env:Qj} {H:Hp}
end
def KA:Nat:=360287970189639680
theorem AxC.ka{a:Int}(h:AxC c a)(b:1<=a)(d:a<=4294967296):Ab KA (tzl c):=λk=>by have:=h.cg k;rw [Ij];unfold KA;omega
def BG:Nat:=2^250*2^250
theorem bl_two{a b:Nat}(h:x<2^a*2^b):bl x<=a+b:=(Qt (a+b) x).2 (by rw [bN];exact h)
def Zz3(h:x<BG):bl x<=500:=bl_two (a:=250) (b:=250) h
def Ab.sg(h:Ab M p)(a:M<BG):Sz 500 p:=λi=>Zz3 (bC (h i) a)
def Zby(h:Ab M p)(a:M<BG)(d:Tr p)(b:p.length<=25):Vp p:=⟨(h.sg a).mono O3,d,b⟩
theorem Zrp{c:Int}(h:Ab M p)(b:M*c.natAbs<BG)(i:Nat):bl (cf p i*c).natAbs<=65536:=by have a:=Bx h c i;rw [Qo]at a;exact aB (Zz3 (bC a b)) O3
theorem ad_ab{K:Nat}(h:Ab M p)(e:Ab K q)(d:M+K<BG)(i:Nat):bl (cf p i+cf q i).natAbs<=65536/\bl (cf p i-cf q i).natAbs<=65536:=by have a:=h i;have b:=e i;exact⟨aB (Zz3 (bC (by omega:_<=M+K) d)) O3,aB (Zz3 (bC (by omega:_<=M+K) d)) O3⟩
theorem mf_ab(h:Ab M p)(b:M<BG)(d:p.length<=11):¬Ar p p:=λa=>by have m:=Py (h.sg b);rcases a.2.2 with w|w<;>omega
def dfP(p q:List Int)(a b:Int):List Int:=Zbl (Yi (tzl p) b) (Yi (tzl q) a)
def dfK(p q:List Int)(a b k:Int):List Int:=Yi (dfP p q a b) k
def sqK(p q:List Int)(a b k:Int):List Int:=Qr (dfK p q a b k) (dfK p q a b k)
def sqP(p q:List Int)(a b:Int):List Int:=Qr (dfP p q a b) (dfP p q a b)
def KD:Nat:=KA*4294967296+KA*4294967296
structure FmX (p q:List Int) (a b k:Int):Prop where
 v1:Vp (tzl p)
 v2:Vp (tzl q)
 b1:bl b.natAbs<=65536
 a1:bl a.natAbs<=65536
 k1:bl k.natAbs<=65536
 s1:∀i,bl (cf (tzl p) i*b).natAbs<=65536
 s2:∀i,bl (cf (tzl q) i*a).natAbs<=65536
 v3:Vp (Yi (tzl p) b)
 v4:Vp (Yi (tzl q) a)
 s3:∀i,bl (cf (Yi (tzl p) b) i-cf (Yi (tzl q) a) i).natAbs<=65536
 v5:Vp (dfP p q a b)
 s4:∀i,bl (cf (dfP p q a b) i*k).natAbs<=65536
 v6:Vp (dfK p q a b k)
 m6:¬Ar (dfK p q a b k) (dfK p q a b k)
 v7:Vp (sqK p q a b k)
 ab:Ab (6*((KD*100)*(KD*100))) (sqK p q a b k)
 l:(sqK p q a b k).length<=11
 m5:¬Ar (dfP p q a b) (dfP p q a b)
 v8:Vp (sqP p q a b)
 ab8:Ab (6*((KD*100)*(KD*100))) (sqP p q a b)
 l8:(sqP p q a b).length<=11
theorem fmX{a b k:Int}(l:Ab KA (tzl p))(m:Ab KA (tzl q))(lp:p.length<=6)(I:q.length<=6)(w:1<=a/\a<=4294967296)(y:1<=b/\b<=4294967296)(Q:1<=k/\k<=100):FmX p q a b k:=by
 have o:(tzl p).length<=6:=aB (Hj p) lp;have r:(tzl q).length<=6:=aB (Hj q) I;have s:Ab (KA*4294967296) (Yi (tzl p) b):=(Bx l b).mono (bH _ O);have t:Ab (KA*4294967296) (Yi (tzl q) a):=(Bx m a).mono (bH _ O);have d:Ab KD (dfP p q a b):=ab_sub s t;have e:Ab (KD*100) (dfK p q a b k):=(Bx d k).mono (bH _ O);have j:Ab (KD*100) (dfP p q a b):=d.mono O7;have l3:(Yi (tzl p) b).length<=6:=aB Lz o;have G:(Yi (tzl q) a).length<=6:=aB Lz r;have g:(dfP p q a b).length<=6:=Ylr l3 G;have n:(dfK p q a b k).length<=6:=aB Lz g;have t5:Tr (dfP p q a b):=Qq _;have t6:Tr (dfK p q a b k):=Qq _;have u:=Yi0 e e n;have v:=Yi0 j j g;have z:=Zyo t6 t6 n n;have B:=Zyo t5 t5 g g;have h:∀c:Int,1<=c/\c<=4294967296->bl c.natAbs<=65536:=λc F=>aB ((Qt 40 _).2 O) O7;have D:∀c:Int,1<=c/\c<=4294967296->KA*c.natAbs<BG:=λc F=>bC (bH KA (by omega:c.natAbs<=4294967296)) O7;exact⟨Zby l O7 (Qq _) O,Zby m O7 (Qq _) O,h b y,h a w,h k O,Zrp l (D b y),Zrp m (D a w),
  Zby s O7 (Qq _) O,Zby t O7 (Qq _) O,λi=>(ad_ab s t O7 i).2,Zby d O7 t5 O,
  Zrp d (bC (bH KD (by omega:k.natAbs<=100)) O7),Zby e O7 t6 O,mf_ab e O7 O,Zby u O7 Qp (by have:(sqK p q a b k).length<=_:=z;omega),u,z,
  mf_ab j O7 O,Zby v O7 Qp (by have:(sqP p q a b).length<=_:=B;omega),v,B⟩
def ngC(ns:List Int):Nat->List Int
 | 0=>[-1]
 | i+1=>Yi (Yi (ngC ns i) (ns.getD i 0)) (ns.getD i 0)
def sqN(ns:List Int):Nat->Nat
 | 0=>1
 | i+1=>sqN ns i*(ns.getD i 0).natAbs*(ns.getD i 0).natAbs
theorem Zo1(ns:List Int):∀i,Ab (sqN ns i) (ngC ns i)/\(ngC ns i).length<=1/\Tr (ngC ns i)
 | 0=>⟨λi=>by
   match i with
   | 0=>show(cf [-1] 0).natAbs<=1;decide
   | i+1=>show(cf [-1] (i+1)).natAbs<=1;rw [Yn O8];decide,aJ _,show Tr [-1]from .inr O3⟩
 | i+1=>by obtain⟨a,b,d⟩:=Zo1 ns i;exact⟨Bx (Bx a _) _,aB Lz (aB Lz b),Qq _⟩
theorem Ydb{ns:List Int}{B:Nat}(h:∀i,(ns.getD i 0).natAbs<=B):∀i,sqN ns i<=(B*B)^i
 | 0=>aJ _
 | i+1=>by rw [cJ,<-dB];exact aY (aY (Ydb h i) (h i)) (h i)
structure NgX (ns:List Int) (i:Nat):Prop where
 b:bl (ns.getD i 0).natAbs<=65536
 inn:Mr (ns.getD i 0)
 v:Vp (ngC ns i)
 s:∀k,bl (cf (ngC ns i) k*ns.getD i 0).natAbs<=65536
 v2:Vp (Yi (ngC ns i) (ns.getD i 0))
 s2:∀k,bl (cf (Yi (ngC ns i) (ns.getD i 0)) k*ns.getD i 0).natAbs<=65536
theorem ngX(h:∀i,(ns.getD i 0).natAbs<=4294967296){i:Nat}(hi:i<=4):NgX ns i:=by obtain⟨j,n,k⟩:=Zo1 ns i;have e:=Ydb h i;have g:(4294967296*4294967296)^i<=(4294967296*4294967296)^4:=dK O7 hi;have a:Ab ((4294967296*4294967296)^4) (ngC ns i):=j.mono (aB e g);have b:=h i;have d:Ab ((4294967296*4294967296)^4*4294967296) (Yi (ngC ns i) (ns.getD i 0)):=(Bx a _).mono (bH _ b);have l:(4294967296*4294967296)^4*(ns.getD i 0).natAbs<BG:=bC (bH _ b) O7;have m:(4294967296*4294967296)^4*4294967296*(ns.getD i 0).natAbs<BG:=bC (bH _ b) O7;exact⟨aB ((Qt 40 _).2 O) O7,⟨O,O⟩,Zby a O7 k O,Zrp a l,Zby d O7 (Qq _) (aB Lz O),Zrp d m⟩
def smP(c:List Int)(f:Nat->List Int):Nat->List Int
 | 0=>c
 | i+1=>Zcj (smP c f i) (f i)
theorem Ydj{c:List Int}{f:Nat->List Int}{C F:Nat}(a:Ab C c)(d:c.length<=11)(g:Tr c)(b:∀i,Ab F (f i))(e:∀i,(f i).length<=11):∀i,Ab (C+i*F) (smP c f i)/\(smP c f i).length<=11/\Tr (smP c f i)
 | 0=>⟨by rw [iO];exact a,d,g⟩
 | i+1=>by obtain⟨h,j,k⟩:=Ydj a d g b e i;exact⟨by rw [eN,<-fX];exact ab_add h (b i),Yls j (e i),Qq _⟩
structure SmX (c:List Int) (f:Nat->List Int):Prop where
 v:∀i,i<=3->Vp (smP c f i)
 s:∀i,i<3->∀k,bl (cf (smP c f i) k+cf (f i) k).natAbs<=65536
 d:Cvd (Yh (smP c f 3))
theorem smX(m:Ab (2^190) c)(r:c.length<=1)(o:Tr c)(l:∀i,Ab (6*((KD*100)*(KD*100))) (f i))(n:∀i,(f i).length<=11):SmX c f:=by
 have b:=Ydj m O o l n;have g:∀i,i<=3->2^190+i*(6*((KD*100)*(KD*100)))<2^205:=λi hi=>bC (Nat.add_le_add_left (aP _ hi) _) O7;have a:(2:Nat)^205<BG:=O7;refine⟨λi hi=>?_,λi hi k=>?_,?_⟩
 .obtain⟨d,j,h⟩:=b i;exact Zby d (jN (g i hi) a) h O
 .obtain⟨d,j,h⟩:=b i;refine(ad_ab d (l i) ?_ k).1;have:=g (i+1) hi;rw [eN]at this;have e:=jN this a;omega
 .obtain⟨d,j,h⟩:=b 3;have hs:=d.sz (g 3 (aJ _));exact⟨Il (Zby d (jN (g 3 (aJ _)) a) h O),Dy hs,by rw [Zy];exact j⟩
end Go.Sky
namespace Go.Sky
variable{m ov D d:Int}{x y z:List Int}{a b xs:List Ze}
theorem fillG{g h j c e f:Value}:Instr.fill (λi=>some (i*3,3)) ((List.range (1*3)).map ((Value.agg #[g,h,j]).cells[· % (Value.agg #[g,h,j]).cells.size]!)).toArray [(0,.agg #[c,e,f])]=some #[c,e,f]:=by
 simp [Instr.fill,Value.cells,List.range,List.range.loop]
 try rfl
def Zmd(m:Int)(l:List Int):Bool:=l.all λx=>decide (-m<=x) && decide (x<=m)
theorem insB_t{l:List Int}(h:∀i,i<l.length->-m<=l.getD i 0/\l.getD i 0<=m):Zmd m l=true:=bF.2 λx g=>by obtain⟨k,f,rfl⟩:=Fz.1 g;obtain⟨c,e⟩:=h k f;rw [aI c,aI e];rfl
theorem Yfs (i:Nat){l:List Int}(hi:i<l.length)(h:¬(-m<=l.getD i 0/\l.getD i 0<=m)):Zmd m l=false:=by
 cases hb:Zmd m l with
 | false=>rfl
 | true=>
  have:=bF.1 hb _ (Zi (d:=0) hi);rw [aQ]at this;exact absurd ⟨cD this.1,cD this.2⟩ h
def ptB(x y z:Int):Bool:=Zmd 1048576 [x,y,z]
theorem Zam{x y z:Int}(h:ptB x y z=true):(-1048576<=x/\x<=1048576)/\(-1048576<=y/\y<=1048576)/\(-1048576<=z/\z<=1048576):=by unfold ptB Zmd at h;simp only [nL,List.all_nil,Bool.and_true,aQ,cZ]at h;exact h
def znB(D n d:Int):Bool:=decide (1<=D/\D<=4194304/\1<=n/\n<=d/\d<=100)
def ptsB(e f g h c i D n d:Int):Bool:=decide (D*d*(D*d)<=(e-h)*d*((e-h)*d)+(f-c)*d*((f-c)*d)+(g-i)*n*((g-i)*n))
def fqZ(n d ov c:Int)(x y z e f g:List Int)(i:Nat):List Int:=sqK (Ye i x y z) (Ye i e f g) ov c (Ye i d d n)
def cnZ(D d ov c:Int):List Int:=ngC [D,d,ov,c] 4
def smZ(D n d ov c:Int)(x y z e f g:List Int)(i:Nat):List Int:=smP (cnZ D d ov c) (fqZ n d ov c x y z e f g) i
def fmZ(D n d ov c:Int)(x y z e f g:List Int):List Int:=Yh (smZ D n d ov c x y z e f g 3)
structure FzX (D n d ov ov2:Int) (x y z x2 y2 z2:List Int):Prop where
 X:∀i,FmX (Ye i x y z) (Ye i x2 y2 z2) ov ov2 (Ye i d d n)
 K:∀i,Mr (Ye i d d n)
 N:∀i,i<=4->NgX [D,d,ov,ov2] i
 Q:SmX (cnZ D d ov ov2) (fqZ n d ov ov2 x y z x2 y2 z2)
theorem Zoc{fr k:Int}(h:Zak fr k ov x y z=true)(i:Nat):Ab KA (tzl (Ye i x y z)):=by unfold Zak Zur at h;simp only [aQ,cZ]at h;obtain⟨⟨⟨⟨⟨⟨⟨⟨n,o⟩,q⟩,c⟩,e⟩,f⟩,g⟩,j⟩,-⟩:=h;exact Bj (p:=λl=>Ab KA (tzl l)) ((AxC.of f).ka c e) ((AxC.of g).ka c e) ((AxC.of j).ka c e)
def tzlm1:(if 25<(tzl [(-1:Int)]).length then []else tzl [-1])=[-1]:=O3
abbrev GpT:=(Int×Int)×(SL×List Int)
abbrev Zcw (g:GpT):Value:= .agg #[.int .i64 g.1.1,.int .i64 g.1.2,Xo g.2.1]
abbrev qGp (g:GpT):Pc:=Ys 2 wv (Xo g.2.1) g.2.2
abbrev Gp0:GpT:=((0,0),((none,0,0),[]))
abbrev GpU:=Int×Int×List Int
def unP(g:GpT):GpU:=(g.1.1,g.1.2,g.2.2)
def gpZ(D n d:Int)(g h:Zhs):GpU:=(g.1.1,g.1.2.1,fmZ D n d g.1.2.2 h.1.2.2 g.2.1 g.2.2.1 g.2.2.2 h.2.1 h.2.2.1 h.2.2.2)
def Gl(D n d:Int)(a b:List Ze):List GpU:=List.zipWith (gpZ D n d) (It a b a) (It a b b)
def Ec(a b:List Ze):Int:=if Bs a b=9 then 0 else Bs a b
def Zwc(h:Bs a b≠0)(ps:List Ze):It a b ps=[]:=aD h
theorem gapZ_0{n:Int}(h:Bs a b≠0):Gl D n d a b=[]:=by unfold Gl;rw [Zwc h];rfl
theorem Zk2 (a:List Ze)(b:List Ze)(ps:List Ze){ts:List Int}(c:∀k,Pp (ts.getD k 0) (ts.getD (k+1) 0) a=true->Pp (ts.getD k 0) (ts.getD (k+1) 0) b=true->k+1<ts.length->(Cz (ts.getD k 0) (ts.getD (k+1) 0) ps).length=1):∀n,n+1<=ts.length->Ei ts a b n=true->(Ze3 ts ps n).length=n
 | 0,_,_=>rfl
 | n+1,g,e=>by have f:Ei ts a b (n+1)=(Ei ts a b n && (Pp (ts.getD n 0) (ts.getD (n+1) 0) a && Pp (ts.getD n 0) (ts.getD (n+1) 0) b)):=rfl;rw [f,aQ,aQ]at e;show(Ze3 ts ps n ++ Cz _ _ ps).length=_;rw [bE,Zk2 _ _ _ c n O e.1,c n e.2.1 e.2.2 O]
theorem Yhs{ps:List Ze}{fr c:Int}(hi:∀g∈ps,Gin g)(h:Xt ps=true)(j:spF ps<=fr)(k:fr<c)(l:c<=spL ps)(f:∀g∈ps,¬(fr<g.1.1/\g.1.1<c))(n:Pp fr c ps=true):(Cz fr c ps).length=1:=by have i:=(Oh h).2.1;unfold Cz;rw [aF n,aW,Zzk (Cb hi h).1 (λe=>by rw [e]at i;simp at i) j k l f]
theorem comE_0(h:Bs a b=0):¬cmF a b>=cmL a b/\Zt0 a b=true:=by
 unfold Bs at h;by_cases c:cmF a b>=cmL a b
 .rw [aF c]at h;exact absurd h O3
 .rw [aD c]at h;cases hk:Zt0 a b with
  | true=>exact⟨c,rfl⟩
  | false=>rw [hk]at h;exact absurd h O3
theorem Ym0(p:∀g∈a,Gin g)(q:∀g∈b,Gin g)(l:Xt a=true)(n:Xt b=true):(It a b a).length=(It a b b).length/\(It a b a).length<=2+a.length+b.length:=by
 by_cases h:Bs a b=0
 .obtain⟨F,r⟩:=comE_0 h;have B:=bks a b O;have w:=B.two;have e:∀ps,It a b ps=Ze3 (Ln a b) ps ((Ln a b).length-1):=λps=>aF h;have u:=Zk2 a b a (ts:=Ln a b) (λk s t c=>by obtain⟨f,i,j⟩:=B.lt k c;unfold cmF at f;unfold cmL at j;exact Yhs p l O i O (λg o=>B.no k c g (.inl o)) s) ((Ln a b).length-1) O r
  have v:=Zk2 a b b (ts:=Ln a b) (λk s t c=>by obtain⟨f,i,j⟩:=B.lt k c;unfold cmF at f;unfold cmL at j;exact Yhs q n O i O (λg o=>B.no k c g (.inr o)) t) ((Ln a b).length-1) O r
  have G:=Zyn a b;rw [e,e,u,v];exact⟨rfl,O⟩
 .rw [Zwc h,Zwc h];exact⟨rfl,bI _⟩
theorem Zp6{ps zs:List Ze}(hi:∀g∈ps,Gin g)(r:Xt ps=true)(v:zs.map Dn=It a b ps):∀q∈zs,Gin q/\seB q=true:=by
 have k:∀n,∀u∈Ze3 (Ln a b) ps n,∃(fr f:Int) (g:Ze),g∈ps/\Li fr f g=true/\Zgj fr f g=true/\u=Zv9 fr f g:=λn=>by
  induction n with
  | zero=>intro u j;cases j
  | succ n w=>
   intro u j;rcases cW.1 (show u∈Ze3 (Ln a b) ps n ++ _ from j)with h|h
   .exact w u h
   .unfold Cz at h;split at h
    .rename_i s;obtain⟨g,l,rfl⟩:=eV.1 h;obtain⟨c,i⟩:=fM.1 l;exact⟨_,_,g,c,i,bF.1 s g l,rfl⟩
    .cases h
 intro q t;have e:Dn q∈It a b ps:=by rw [<-v];exact eV.2 ⟨q,t,rfl⟩
 unfold It at e;split at e
 .obtain⟨fr,f,g,c,i,o,p⟩:=k _ _ e;have:=Zzj (hi g c) ((Cb hi r).2.1 g c) i o p;exact⟨this.1,this.2.1⟩
 .cases e
theorem zip_s{α β γ:Type}{f:α->β->γ} : ∀{l:List α} {m:List β} {k:Nat} {x:α} {y:β},l[k]? = some x->m[k]? = some y->(List.zipWith f l m).take (k+1)=(List.zipWith f l m).take k ++ [f x y]
 | [],_,_,_,_,h,_=>by simp at h
 | _::_,[],_,_,_,_,h=>by simp at h
 | a::l,b::m,0,x,y,h,h2=>by simp at h h2;subst h;subst h2;simp
 | a::l,b::m,k+1,x,y,h,h2=>by have:=zip_s (f:=f) (l:=l) (m:=m) (k:=k) (by simpa using h) (by simpa using h2);simp only [List.zipWith_cons_cons,kX,this,iF]
def gpY(q:Ze)(g:SL×List Int):GpT:=((q.1.1,q.1.2.1),g)
theorem Yl2{n:Int}{ys:List Ze}{zs:List GpT}{k:Nat}{g:SL×List Int}(l:xs.map Dn=It a b a)(o:ys.map Dn=It a b b)(h:zs.map unP=(Gl D n d a b).take k)(e:k<xs.length)(c:k<ys.length)(j:g.2=fmZ D n d (xs.getD k G0).1.2.2 (ys.getD k G0).1.2.2 (xs.getD k G0).2.1.2 (xs.getD k G0).2.2.1.2 (xs.getD k G0).2.2.2.2 (ys.getD k G0).2.1.2 (ys.getD k G0).2.2.1.2 (ys.getD k G0).2.2.2.2) :
  (zs ++ [gpY (xs.getD k G0) g]).map unP=(Gl D n d a b).take (k+1):=by
 have f:(It a b a)[k]? = some (Dn (xs.getD k G0)):=by rw [<-l,eY,aL e,aE,aL e];rfl
 have i:(It a b b)[k]? = some (Dn (ys.getD k G0)):=by rw [<-o,eY,aL c,aE,aL c];rfl
 unfold Gl at h ⊢;rw [zip_s f i,eE,h,cQ,iQ];simp only [gpY,unP,gpZ,Dn];rw [j]
theorem gp_all{n:Int}{zs:List GpT}(c:xs.map Dn=It a b a)(f:(It a b a).length=(It a b b).length)(h:zs.map unP=(Gl D n d a b).take xs.length):zs.map unP=Gl D n d a b:=by rw [h,cC];have e:=aN List.length c;rw [aW]at e;unfold Gl;rw [nH];omega
def gapE_9(h:Bs a b=9):Ec a b=0:=aF h
def gapE_n(h:¬Bs a b=9):Ec a b=Bs a b:=aD h
theorem Zna{fr c:Int}(h:Sgo fr c ov x y z):Mr ov:=⟨by have:=h.o1;omega,by have:=h.o2;omega⟩
def Ymc(l:List GpU):Option GpU:=l.find? λg=>Zd4 g.2.2
def Zig(l:List GpU):Int×Int×Bool:=match Ymc l with
 | some g=>(g.1,g.2.1,true)
 | none=>(0,0,false)
theorem fst_n{l:List GpU}(h:∀i,i<l.length->Zd4 (l.getD i (0,0,[])).2.2=false):Zig l=(0,0,false):=by
 have:Ymc l=none:=nT.2 λg c=>by obtain⟨i,hi,rfl⟩:=eD.1 c;have:=h i hi;rw [aE,aL hi]at this;rw [show Zd4 (l[i]).2.2=false from this];exact bD
 unfold Zig;rw [this]
theorem Yco(zs:List GpT)(k:Nat):(zs.map unP).getD k (0,0,[])=unP (zs.getD k Gp0):=by rw [aE,eY,aE];cases zs[k]?<;>rfl
def mkS(u:Zhs):Ze:=(u.1,((none,0,0),u.2.1),((none,0,0),u.2.2.1),((none,0,0),u.2.2.2))
theorem un_mk(l:List Zhs):(l.map mkS).map Dn=l:=by rw [iB];exact List.map_id' _
theorem fst_no{l:List GpU}{zs:List GpT}(h:zs.map unP=l)(c:∀i,i<zs.length->Zd4 (zs.getD i Gp0).2.2=false):Zig l=(0,0,false):=by subst h;exact fst_n λi hi=>by rw [Yco];exact c i (by rw [aW]at hi;exact hi)
def apZ(D n d:Int)(a b:List Ze):Bool:=decide (Ec a b=0) && !(Zig (Gl D n d a b)).2.2
theorem ap_f{n:Int}(h:¬Ec a b=0):apZ D n d a b=false:=by unfold apZ;rw [aK h];rfl
open Go.Proofs
def pPa:Enc Tryz.prog 31 1 Xo:=Enc.flat Tryz.sizeOf31 Tryz.isAgg31 (λ_=>rfl)
def pGp:Enc Tryz.prog 284 3 Zcw:=Enc.agg O3 Tryz.sizeOf284 Tryz.isAgg284 (λx=>⟨[.int .i64 x.1.1,.int .i64 x.1.2,Xo x.2.1],rfl,rfl,O10⟩)
@[reducible,instance] def encPaI:EncT Tryz.prog 31 1 Xo:=⟨pPa⟩
@[reducible,instance] def encGpI:EncT Tryz.prog 284 3 Zcw:=⟨pGp⟩
def ti_a3:Tryz.prog.info? 493=some Tryz.t493:=O6
open Go.Proofs.Tryz
set_option synthInstance.maxHeartbeats 0
set_option synthInstance.maxSize 100000
set_option maxRecDepth 20000
set_option linter.unusedSimpArgs false
theorem Yao{va vb:Value}{e f:List Ze}(w:∀g∈e,Gin g)(B:∀g∈f,Gin g)(p:Xt e=true)(s:Xt f=true)(b8:e.length<=5)(b9:f.length<=5):Cal prog 315 #[va,vb] [Qi 6 Pz qG va e,Qi 6 Pz qG vb f] true (G:=(Value×List Ze)×(Value×List Ze)) (λg=>g.1.2.map Dn=It e f e/\g.2.2.map Dn=It e f f) (λg=> .tuple #[g.1.1,g.2.1,.int .i64 (Bs e f)]) (λg=>[Qi 6 Pz qG g.1.1 g.1.2,Qi 6 Pz qG g.2.1 g.2.2]):=by
 refine Zd func315 ntmps315 λw0 sc u F=>?_;refine Ztb (Ml 1 J Yf) (λsa b0=>?_);subst b0;refine Ztb (Ml 2 J Yf) (λsb b1=>?_);subst b1;obtain⟨-,b2,a0⟩:=Oh p;obtain⟨-,b3,a1⟩:=Oh s;have a2:=Zx1 w p;have a3:=Zx1 B s;have b6:=Zyn e f;have b7:([sa,sb]:List SL).length=2:=rfl;refine go 11 ?_;refine cl 2 [1] (Om w) λ_ _=>?_;refine dt (dF (Yz J J) (aN (λb=>Value.bool (!b)) p))<|go 2 ?_;refine Kj 2 [2] (Om B) λ_ _=>?_;refine Fj (dF (Yz J J) (aN (λb=>Value.bool (!b)) s)) J J<|go 7 ?_;refine Pd (λ_=>False) [(0,0),(1,0),(2,0),(3,0),(4,0),(5,0),(6,0),(7,0),(8,0),(9,0),(10,0),(11,0),(12,0),(13,0),(14,0),(15,0),(16,0),(17,0),(18,0),(19,0),(20,0),(21,0),(22,0),(23,0),(24,0),(25,3)]<|go 2 ⟨O,?_⟩;refine Qb J J (Pq (Zgh 1 J J J Yf Zfc J Dx J))<|Qb J J (Pq (Zgg 1 G0 J J J Yf iA3 J))<|go 2 ⟨O,?_⟩;refine Qb J J (Pq (Zgh 2 J J J Yf Zfc J Dx J))<|Qb J J (Pq (Zgg 2 G0 J J J Yf iA3 J))<|Qb J J (Pq (Yv ( .int .i64 (cmF e f)) (Zb1 J J J) J))<|go 4 ⟨O,?_⟩;refine Qb J J (Pq (Ym 1 (e.length-1) J J J J Yf Zfb Zbx))<|Qb J J (Pq (Zgh 1 J J J Yf Zfc J Dx J))<|Qb J J (Pq (Zgg 1 G0 J J J Yf iA3 J))<|go 4 ⟨O,?_⟩;refine Qb J J (Pq (Ym 2 (f.length-1) J J J J Yf Zfb Zbx))<|Qb J J (Pq (Zgh 2 J J J Yf Zfc J Dx J))<|Qb J J (Pq (Zgg 2 G0 J J J Yf iA3 J))<|Qb J J (Pq (Yv ( .int .i64 (cmL e f)) (Znl J J J) J))<|go 12 ?_;refine Zc J (λo=>?_) (λo=>?_)
 .have h:cmF e f>=cmL e f:=o;exact go 9<|Xg (Zfi 72 6 Pz qG)<|xe3 F ((.slice none 0 0,[]),(.slice none 0 0,[])) results315 (by rw [(Yhv h e).1]) ⟨(Yhv h e).2.symm,(Yhv h f).2.symm⟩ (Kd 72 (Kd 72 Za))
 .have h:¬cmF e f>=cmL e f:=o;have hB:=bks e f O;have b5:=hB.two;refine go 6 ?_;refine tt (Oe [(0,_),(1,_)] 60 (enc:=Xf) ([cmF e f,cmL e f]:List Int) J J K4 Le ti3 J J J J J pZ.cells J J u.h) λv _=>go 8 ?_;refine tt (Oe [(0,_),(1,_)] 61 (enc:=Xo) ([sa,sb]:List SL) J J K4 underlying41 ti31 J J J J J pPa.cells J J u.h) λc4 _=>go 5 ?_;refine lp (G:=Nat×Value) [0,1,4,5,7,8,59,60] [0,1,2,61] (λq=>[(61,.int .i64 (q.1:Int)),(9,q.2)]) (λq=>[(60,Ol 1 3 Xf q.2 (Zeh e f q.1))]) (λq=>q.1<=2) (λq=>2-q.1) (0,_) O1 K2 K1 ?_;rintro⟨i,vt⟩ hi;dsimp only at hi;dsimp only;refine go 6<|Zc J (λQ=>?_) (λQ=>?_)
  .refine go 5<|Zr (Ykl (sd:=(none,0,0)) i 1 2 50 J J J J O)<|go 1 ?_;refine dt (Ym 61 i J J J J (Yo pPa) underlying41 sizeOf31 J O9)<|dt (Of 61 (none,0,0) J J J (Yo pPa) pPa O9)<|go 11 ?_;refine lp (G:=Nat×Value) [0,1,4,5,7,8,59,60,61,65,66] [0,1,2,61,50] (λq=>[(67,.int .i64 (q.1:Int)),(9,q.2)]) (λq=>[(60,Ol 1 3 Xf q.2 (tik e f i q.1))]) (λq=>q.1<=(Ep i e f).length) (λq=>(Ep i e f).length-q.1) (0,_) O1 K2 ⟨by rw [tik_0];rfl,aA⟩ ?_;rintro⟨k,vu⟩ hk;dsimp only at hk;dsimp only;have c0:=Yln e f i k;have a4:=Zsp e f i;refine go 6<|Zc J (λR=>?_) (λR=>?_)
   .refine go 5<|Zr (Gm ((Ep i e f).getD k G0) (((Ep i e f).getD k G0).2.1) 50 51 J J Zi O8)<|Zr (Gm ((Ep i e f).getD k G0) (((Ep i e f).getD k G0).2.2.1) 50 52 J J Zi O8)<|Zr (Gm ((Ep i e f).getD k G0) (((Ep i e f).getD k G0).2.2.2) 50 53 J J Zi O8)<|go 2 ⟨O2,?_⟩;refine dt (Of 50 G0 J J J Yf pG O2)<|Zz (Zx 3) λbx _=>go 10 ?_;refine Zj 75 J (λa7=>?_) (λa7=>?_)
    .refine go 7<|Zc J (λS=>?_) (λS=>?_)
     .refine go 4 ?_;refine tt (Oe [(0,_)] 4 (enc:=Xf) ([((Ep i e f).getD k G0).1.1]:List Int) J J K2 Le ti3 J J J J J pZ.cells J J u.h) (λc5 _=>?_);refine tt (Fr 60 4 8 J J J J J J O3 J (Yo pZ) Le ti3 J pZ J J J O9 O3 J u.h) (λc6 _=>?_);refine go 8 ⟨O,?_⟩;exact Yl (k+1,_) O1 O1 K2 ⟨by rw [tik_t O O O];rfl,aA⟩
     .refine go 7 ⟨O,?_⟩;exact Yl (k+1,_) O1 O1 K2 ⟨by rw [tik_f O O];rfl,aA⟩
    .refine go 15 ⟨O,?_⟩;exact Yl (k+1,_) O1 O1 K2 ⟨by rw [tik_f O O];rfl,aA⟩
   .obtain rfl:k=(Ep i e f).length:=O;refine go 10 ⟨O,?_⟩;exact Yl (i+1,_) O1 O1 K2 ⟨by rw [<-tik_e O];rfl,aA⟩
  .obtain rfl:i=2:=O;refine go 6 ?_;refine e_obox 60 J J (tms_ne e f 2) J u.h (λbq cq rq hv c2 a9=>?_);subst hv;have b4:=tms_2 e f 2;have c1:=Zpc e f 2;refine go 2 ?_;refine tt (Qn 4 60 (Yj8 O O) J J J K1 call347 J O3 Zs J u.h aA) (λgs I=>?_);have a4:=I.1.1;rw [<-a4];refine go 5 ?_;refine tt (Qn 4 60 (sl_cmp O O O I.2) J J J K1 call348 J O3 Zs J u.h aA) λgc W=>go 5 ?_;obtain⟨gz,gr⟩:=gc;have c3:gz.length+gr.length=gs.length+rq.length:=W.2;obtain rfl:gz=Ln e f:=Yhy I.1 W.1;refine Zr (Ykk (xs:=Ln e f) (r:=gr) (c:=cq) 60 J J O a9 J u.h)<|go 5<|Zr (Hb 74 6 137 Pz)<|Zr (Hb 75 6 137 Pz)<|Zr (On qG 76)<|Zr (On qG 77) ?_;refine lp (G:=Nat×Value×List Ze×Value×List Ze) [0,1,9] [0,60,1,2] (λq=>[(14,.int .i64 ((q.1+1:Nat):Int)),(4,q.2.1),(5,q.2.2.2.1)]) (λq=>[(74,Ol 6 137 Pz q.2.1 q.2.2.1),(75,Ol 6 137 Pz q.2.2.2.1 q.2.2.2.2),(76,Hf qG q.2.2.1),(77,Hf qG q.2.2.2.2)]) (λq=>(q.1+1<=(Ln e f).length)/\(Ei (Ln e f) e f q.1=true)/\(q.2.2.1.map Dn=Ze3 (Ln e f) e q.1)/\(q.2.2.2.2.map Dn=Ze3 (Ln e f) f q.1)/\(q.2.2.1.length=q.1)/\(q.2.2.2.2.length=q.1)) (λq=>(Ln e f).length-q.1) (0,.slice none 0 0,[],.slice none 0 0,[]) ⟨O,J,J,J,J,J⟩ K3 K4 ?_;rintro⟨n,v4,z4,v5,z5⟩ ⟨hn,t,N,P,Y,Z⟩;dsimp only at hn t N P Y Z;dsimp only;refine go 9<|Zc J (λV=>?_) (λV=>?_)
   .refine go 5<|Pd (λ_=>False) [(0,0),(1,0),(2,0),(3,0),(4,0),(5,0),(6,0),(7,0),(8,0),(9,0),(10,1),(11,0),(12,0),(13,0),(14,0),(15,3)]<|go 4 ⟨O,?_⟩;refine Qb J J (Pq (Ym 60 n J J J J (Yo pZ) Le Dx))<|go 3 ⟨O,?_⟩;refine Qb J J (Pq (Ym 60 (n+1) J J J J (Yo pZ) Le Dx J))<|go 1 ⟨O,?_⟩;refine Qk (Zv 84 [1] (Zuw a2 (lh_M w p) a0)) λg hg=>go 8<|Pd (λ_=>False) [(0,0),(1,0),(2,0),(3,0),(4,0),(5,0),(6,0),(7,0),(8,0),(9,0),(10,1),(11,0),(12,0),(13,0),(14,0),(15,3)]<|go 4 ⟨O,?_⟩;refine Qb J J (Pq (Ym 60 n J J J J (Yo pZ) Le Dx))<|go 3 ⟨O,?_⟩;refine Qb J J (Pq (Ym 60 (n+1) J J J J (Yo pZ) Le Dx J))<|go 1 ⟨O,?_⟩;refine Qk (Zv 86 [2] (Zuw a3 (lh_M B s) a1)) λa8 H=>go 9 ?_;rcases Yag (Pp ((Ln e f).getD n 0) ((Ln e f).getD (n+1) 0) e) (Pp ((Ln e f).getD n 0) ((Ln e f).getD (n+1) 0) f)with j|⟨j,l⟩|⟨j,l⟩
    .exact go 2<|kt (aI (by rw [Yht j];decide))<|go 21<|Xg (Zfi 72 6 Pz qG)<|xe3 F ((.slice none 0 0,[]),(.slice none 0 0,[])) results315 (by rw [(Zno h O (Zwu j) e).1]) ⟨(Zno h O (Zwu j) e).2.symm,(Zno h O (Zwu j) f).2.symm⟩ (Kd 72 (Kd 72 Za))
    .exact go 2<|kf (aK (by rw [Zwa j];decide))<|go 2<|ktg (aI (by rw [Yht l];decide))<|go 18<|Xg (Zfi 72 6 Pz qG)<|xe3 F ((.slice none 0 0,[]),(.slice none 0 0,[])) results315 (by rw [(Zno h O (Zwt l) e).1]) ⟨(Zno h O (Zwt l) e).2.symm,(Zno h O (Zwt l) f).2.symm⟩ (Kd 72 (Kd 72 Za))
    .refine go 2<|kf (aK (by rw [Zwa j];decide))<|go 2<|kfg (aK (by rw [Zwa l];decide))<|go 6 ?_;have a5:=com_ua w p hB O j hg;have a6:=com_ub B s hB O l H;refine go 3 ?_;refine tt (Fr 74 84 96 J J J J J J O3 J Yf Zfb ti137 J pG J J J (by rw [a5];omega) O3 J u.h) λc7 _=>go 2 ?_;refine tt (Fr 75 86 96 J J J J J J O3 J Yf Zfb ti137 J pG J J J (by rw [a6];omega) O3 J u.h) (λc8 _=>?_);refine Nk (Zem 84 85 J J)<|Nk (Zel 76 85 76 J J J J)<|Nk (Zem 86 87 J J)<|Nk (Zel 77 87 77 J J J J)<|go 10 ⟨O,?_⟩;exact Yl (n+1,_,z4 ++ g.2,_,z5 ++ a8.2) ⟨O1,com_k t j l,com_z N hg,com_z P H,by rw [bE,Y,a5],by rw [bE,Z,a6]⟩ O1 K3 K4
   .have M:n+1=(Ln e f).length:=O;exact go 10<|kf (aK O)<|go 15<|Xg (Na 74 J J pG)<|Xg (Dz 74 76 78 J J J J)<|Xg (Na 75 J J pG)<|Xg (Dz 75 77 79 J J J J)<|xe3 F ((v4,z4),(v5,z5)) results315 (by rw [(Yhw h M t).1]) ⟨N.trans ((Yhw h M t).2 e).symm,P.trans ((Yhw h M t).2 f).symm⟩ (Kd 78 (Kd 79 Za))
theorem Ycm{v:Value}(l:List Int)(m:Int)(p:0<=m/\m<=16777216):Xj prog 120 #[.int .i64 m,v] [Ys 1 Xf v l] (.bool (Zmd m l)):=by
 refine Zd func120 ntmps120 λs r q c=>?_;refine Lh (Ev (i:=1) J Zk) λj=>go 14 ?_;refine lp (G:=Nat) [0,7,8] [0,1] (λk=>[(9,.int .i64 (k:Int))]) (λk=>[]) (λk=>(k<=l.length)/\(∀i,i<k->-m<=l.getD i 0/\l.getD i 0<=m)) (λk=>l.length-k) 0 ⟨O1,λi hi=>absurd hi (cK i)⟩ K1 aA ?_;rintro k ⟨o,n⟩;refine go 6<|Zc J (λe=>?_) (λe=>?_)
 .refine go 15 ⟨O2,O2,?_⟩;refine dt (d_negi J J ⟨O,O⟩)<|go 2 ?_;refine Zj 17 J (λh=>?_) (λh=>?_)
  .refine go 18 ?_;exact Yx c () results120 (by rw [Yfs k O O]) aA Za
  .refine go 6<|Zc J (λf=>?_) (λf=>?_)
   .refine go 11 ?_;exact Yx c () results120 (by rw [Yfs k O O]) aA Za
   .refine go 7 ⟨O,?_⟩;exact Yl (k+1) ⟨O1,λi hi=>by rcases aC.1 hi with g|g;exact n i g;subst g;exact⟨O,O⟩⟩ O1 K1 aA
 .refine go 11 ?_;exact Yx c () results120 (by rw [insB_t λi hi=>n i O]) aA Za
theorem Zht(x y z:Int):Xj prog 51 #[.agg #[.int .i64 x,.int .i64 y,.int .i64 z]] [] (.bool (ptB x y z)):=by refine Zd func51 ntmps51 λh g e c=>go 2 ?_;refine Zz (Zu 1) λf _=>go 11 ?_;refine tt (Oe [(0,_),(1,_),(2,_)] 2 (enc:=Xf) ([x,y,z]:List Int) J J K6 Le ti3 J J J J J pZ.cells J J e.h) λv _=>cl 2 [2] (Ycm [x,y,z] 1048576 ⟨O3,O3⟩) λ_ _=>go 4 ?_;exact Yx c () results51 J aA Za
end Go.Sky

