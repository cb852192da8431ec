/- Rules, arithmetic and contracts: part 6. No conditions but those that each theorem names. -/
import Derived.Test.YteikicbnfbgpnaaGreatEf04
set_option linter.all false
namespace Go.Sky
variable{s u v xs a p q b:List Int}{K F B Q:Nat}{r d c k:Int}{t:Rat}{z:R2}
def al:List Int->List Int->List Int
 | [],g=>g
 | a::f,[]=>a::f
 | a::f,b::g=>(a+b)::al f g
def scl(c:Int)(f:List Int):List Int:=f.map (c*·)
def ddl(k:Nat):List Int->List Int
 | []=>[]
 | b::g=>(k:Int)*b::ddl (k+1) g
def dl(f:List Int):List Int:=ddl 1 f.tail
def xl:List Int->List Int
 | []=>[]
 | a::f=>0::a::f
def fc:Nat->Int
 | 0=>1
 | k+1=>((k:Int)+1)*fc k
def Gu:Nat->List Int->List Int->Int
 | k,a::f,b::g=>fc k*(a*b)+Gu (k+1) f g
 | _,_,_=>0
theorem Zsf(k:Nat)(f:List Int):Gu k f []=0:=by cases f<;>rfl
theorem Yn6(f:List Int):al f []=f:=by cases f<;>rfl
theorem Yeg:∀f g:List Int,al f g=al g f
 | [],g=>(Yn6 g).symm
 | a::f,[]=>rfl
 | a::f,b::g=>by show(a+b)::al f g=(b+a)::al g f;rw [Yeg f g,iV]
theorem Zxk:∀f g h:List Int,al (al f g) h=al f (al g h)
 | [],g,h=>rfl
 | a::f,[],h=>rfl
 | a::f,b::g,[]=>rfl
 | a::f,b::g,c::h=>by show(a+b+c)::al _ h=(a+(b+c))::al f _;rw [Zxk f g h,Int.add_assoc]
instance:Std.Commutative al:=⟨Yeg⟩
instance:Std.Associative al:=⟨Zxk⟩
theorem Yis(c:Int):∀f g,scl c (al f g)=al (scl c f) (scl c g)
 | [],g=>rfl
 | a::f,[]=>rfl
 | a::f,b::g=>by show c*(a+b)::scl c _=(c*a+c*b)::al (scl c f) (scl c g);rw [Yis c f g,kZ]
theorem Ya3(c d:Int):∀f,scl (c+d) f=al (scl c f) (scl d f)
 | []=>rfl
 | a::f=>by show(c+d)*a::scl _ f=(c*a+d*a)::al (scl c f) (scl d f);rw [Ya3 c d f,nR]
theorem Zkl:∀f,scl 1 f=f
 | []=>rfl
 | a::f=>by show 1*a::scl 1 f=a::f;rw [Zkl f,gW]
theorem Yms:∀k f g,ddl k (al f g)=al (ddl k f) (ddl k g)
 | k,[],g=>rfl
 | k,a::f,[]=>rfl
 | k,a::f,b::g=>by show(k)*(a+b)::ddl _ _=((k)*a+(k)*b)::al _ _;rw [Yms _ f g,kZ]
theorem Ydb(c:Int):∀k f,ddl k (scl c f)=scl c (ddl k f)
 | k,[]=>rfl
 | k,a::f=>by show(k)*(c*a)::ddl _ (scl c f)=c*((k)*a)::scl c _;rw [Ydb c _ f,Int.mul_left_comm]
theorem Zwy:∀k f,ddl (k+1) f=al f (ddl k f)
 | k,[]=>rfl
 | k,a::f=>by show((k+1))*a::ddl _ f=(a+(k)*a)::al f _;rw [Zwy _ f];grind
def dl_al:∀f g,dl (al f g)=al (dl f) (dl g)
 | [],g=>rfl
 | a::f,[]=>(Yn6 _).symm
 | a::f,b::g=>Yms 1 f g
def dl_scl(c:Int):∀f,dl (scl c f)=scl c (dl f)
 | []=>rfl
 | a::f=>Ydb c 1 f
theorem dl_x:∀f,dl (xl f)=al f (xl (dl f))
 | []=>rfl
 | [a]=>by show(((1))*a::[])=[a];simp
 | a::b::f=>by show((1))*a::ddl _ _=(a+0)::al _ (ddl 1 (b::f));simp [Zwy,gW,eZ]
def xl_al:∀f g,xl (al f g)=al (xl f) (xl g)
 | [],g=>rfl
 | a::f,[]=>rfl
 | a::f,b::g=>rfl
theorem xl_scl(c:Int):∀f,xl (scl c f)=scl c (xl f)
 | []=>rfl
 | a::f=>by show 0::c*a::scl c f=c*0::c*a::scl c f;simp
theorem Zdk:∀k f g,Gu k f g=Gu k g f
 | k,[],g=>(Zsf k g).symm
 | k,a::f,[]=>rfl
 | k,a::f,b::g=>by show fc k*(a*b)+Gu _ f g=fc k*(b*a)+Gu _ g f;rw [Zdk _ f g,eE a b]
theorem Znd:∀k f g h,Gu k (al f g) h=Gu k f h+Gu k g h
 | k,[],g,h=>by show Gu k g h=0+Gu k g h;omega
 | k,a::f,[],h=>(eZ _).symm
 | k,a::f,b::g,[]=>rfl
 | k,a::f,b::g,c::h=>by show fc k*((a+b)*c)+Gu _ _ h=fc k*(a*c)+Gu _ f h+(fc k*(b*c)+Gu _ g h);rw [Znd _ f g h];grind
theorem Znc(k:Nat)(h f g:List Int):Gu k h (al f g)=Gu k h f+Gu k h g:=by grind [Zdk,Znd]
theorem Zhi(c:Int):∀k f g,Gu k (scl c f) g=c*Gu k f g
 | k,[],g=>(eG c).symm
 | k,a::f,[]=>(eG c).symm
 | k,a::f,b::g=>by show fc k*(c*a*b)+Gu _ (scl c f) g=c*(fc k*(a*b)+Gu _ f g);rw [Zhi c _ f g];grind
theorem Zse(c:Int)(k:Nat)(f g:List Int):Gu k f (scl c g)=c*Gu k f g:=by grind [Zdk,Zhi]
theorem Yl2:∀k f g,Gu (k+1) f g=Gu k f (ddl (k+1) g)
 | k,[],g=>rfl
 | k,a::f,[]=>rfl
 | k,a::f,b::g=>by show((k)+1)*fc k*(a*b)+Gu _ f g=fc k*(a*(((k+1))*b))+Gu _ f _;rw [Yl2 _ f g];grind
theorem fip_x:∀f g,Gu 0 (xl f) g=Gu 0 f (dl g)
 | [],g=>rfl
 | a::f,[]=>rfl
 | a::f,b::g=>by show fc 0*(0*b)+Gu 1 _ g=Gu 0 _ (ddl 1 g);simp [cN,eG,kM,Yl2]
theorem Ylz(f g:List Int):Gu 0 f (xl g)=Gu 0 (dl f) g:=by grind [Zdk,fip_x]
def Mq:List Int->Nat->List Int->List Int
 | [],_,_=>[]
 | c::q,0,g=>al (scl c g) (xl (Mq q 0 g))
 | c::q,j+1,g=>al (xl (Mq q (j+1) g)) (Mq q j g)
def Hq:List Int->Nat->List Int->List Int
 | [],_,_=>[]
 | c::p,0,f=>al (scl c f) (Hq p 0 (dl f))
 | c::p,k+1,f=>al (Hq p (k+1) (dl f)) (Hq p k f)
theorem Yc9:∀q j g,dl (Mq q j g)=al (Mq q j (dl g)) (scl ((j:Int)+1) (Mq q (j+1) g))
 | [],j,g=>rfl
 | c::q,0,g=>by
  show dl (al _ _)=al (al _ _) (scl _ (al _ _));rw [dl_al,dl_scl,dl_x,Yc9 q 0 g,xl_al];rw [show((0:Nat):Int)+1=1 from rfl,Zkl,Zkl]
  ac_rfl
 | c::q,j+1,g=>by
  show dl (al _ _)=al (al _ _) (scl _ (al _ _));rw [dl_al,dl_x,Yc9 q _ g,Yc9 q j g,xl_al,xl_scl,Yis];rw [show scl (((j+1:Nat))+1) (Mq q _ g)=al (scl ((j)+1) (Mq q (j+1) g)) (Mq q (j+1) g) by simp [Ya3,Zkl]]
  grind
theorem Zk2:∀q j f g,Gu 0 f (Mq q j g)=Gu 0 (Hq q j f) g
 | [],j,f,g=>Zsf 0 f
 | c::q,0,f,g=>by show Gu 0 f (al _ _)=Gu 0 (al _ _) g;rw [Znc,Znd,Zse,Zhi,Ylz,Zk2 q 0 _ g]
 | c::q,j+1,f,g=>by show Gu 0 f (al _ _)=Gu 0 (al _ _) g;rw [Znc,Znd,Ylz,Zk2 q _ _ g,Zk2 q j f g]
def wfa:Nat->Nat->Int
 | j,0=>1
 | j,k+1=>((j:Int)+1)*wfa (j+1) k
theorem Zp9:∀k j,0<wfa j k
 | 0,j=>by show(0)<1;omega
 | k+1,j=>fU O5 (Zp9 k _)
theorem Znb:∀(p q:List Int) (j:Nat) (f g:List Int) (K:Nat),p.length<=K->Gu 0 (Mq p 0 f) (Mq q j g)=Yj (λk=>wfa j k*Gu 0 (Hq q (j+k) f) (Hq p k g)) K
 | [],q,j,f,g,K,_=>by rw [Gi (λk h=>by show wfa j k*Gu 0 _ []=0;rw [Zsf,eG])];rfl
 | c::p,q,j,f,g,K,hK=>by
  obtain⟨e,rfl⟩:∃e,K=e+1:=⟨K-1,O4⟩;have i:p.length<=e:=O4;have l:=Znb p q j f (dl g) (e+1) O;have o:=Znb p q (j+1) f g e i;show Gu 0 (al _ _) _=_;rw [Znd,Zhi,fip_x,Yc9,Znc,Zse,l,Zk2];rw [Mv,Mv _];have m:Gu 0 (Hq q (j+0) f) (Hq (c::p) 0 g)=c*Gu 0 (Hq q j f) g+Gu 0 (Hq q j f) (Hq p 0 (dl g)):=by show Gu 0 (Hq q j f) (al _ _)=_;rw [Znc,Zse]
  have n:Yj (λk=>wfa j (k+1)*Gu 0 (Hq q (j+(k+1)) f) (Hq (c::p) (k+1) g)) e=Yj (λk=>wfa j (k+1)*Gu 0 (Hq q (j+(k+1)) f) (Hq p (k+1) (dl g))) e+((j)+1)*Yj (λk=>wfa (j+1) k*Gu 0 (Hq q (j+1+k) f) (Hq p k g)) e:=by rw [<-Md,<-Fv];refine Xg λk h=>?_;show _*Gu 0 _ (al _ _)=_;rw [Znc];show((j)+1)*wfa _ k*_=((j)+1)*wfa _ k*_+_;grind
  show _=(1)*_+_;show _*_+((1)*_+_+_)=_;grind
theorem Zqg(a:Int):0<=a*a:=by
 rcases Int.le_total 0 a with h|h
 .exact dZ h h
 .have:=dZ (show 0<=-a by omega) (show 0<=-a by omega);grind
theorem Zi4:∀k,1<=fc k
 | 0=>O3
 | k+1=>by have h:=Zi4 k;show 1<=((k)+1)*fc k;have e:=jW (show(1:Int)<=(k)+1 by omega) h O3 O;omega
theorem Yl3(k:Nat)(f:List Int)(b:Int)(g:List Int):Gu k f (b::g)=fc k*(cf f 0*b)+Gu (k+1) f.tail g:=by
 cases f with
 | nil=>show(0)=fc k*(0*b)+Gu _ [] g;rw [cN,eG];rfl
 | cons a f=>rfl
theorem Ynl(f:List Int)(i:Nat):cf f.tail i=cf f (i+1):=by cases f<;>rfl
theorem Zsh:∀k (f e g:List Int),(∀i,cf f i=cf e i)->Gu k f g=Gu k e g
 | k,f,e,[],h=>by grind [Zsf]
 | k,f,e,b::g,h=>by rw [Yl3,Yl3,h 0,Zsh _ _ e.tail g λi=>by rw [Ynl,Ynl,h]]
theorem Zsg:∀k f,0<=Gu k f f
 | k,[]=>eN _
 | k,a::f=>by show 0<=fc k*(a*a)+Gu _ f f;have e:=Zsg (k+1) f;have g:=dZ (show 0<=fc k by have:=Zi4 k;omega) (Zqg a);omega
theorem Yl1:∀k f i,cf f i*cf f i<=Gu k f f
 | k,[],i=>by exact eN _
 | k,a::f,0=>by show a*a<=fc k*(a*a)+Gu _ f f;have e:=Zsg (k+1) f;have g:=eQ (Zi4 k) (Zqg a);omega
 | k,a::f,i+1=>by show cf f i*cf f i<=fc k*(a*a)+Gu _ f f;have e:=Yl1 (k+1) f i;have g:=dZ (show 0<=fc k by have:=Zi4 k;omega) (Zqg a);omega
def fcs:Nat->Nat->Int
 | k,0=>0
 | k,n+1=>fc k+fcs (k+1) n
theorem Yl7:∀n k,0<=fcs k n
 | 0,k=>eN _
 | n+1,k=>by have h:=Yl7 n (k+1);have:=Zi4 k;show 0<=fc k+fcs _ n;omega
theorem Yl0:∀n k (f:List Int) (A:Int),f.length<=n->(∀x∈f,x*x<=A)->0<=A->Gu k f f<=fcs k n*A
 | n,k,[],A,_,_,e=>dZ (Yl7 n k) e
 | 0,k,a::f,A,h,_,_=>O4
 | n+1,k,a::f,A,h,hx,e=>by have i:=Yl0 n (k+1) f A (by simpa using h) (λx g=>hx x (bE _ g)) e;have j:=fL (hx a (bK ..)) (show 0<=fc k by have:=Zi4 k;omega);show fc k*(a*a)+Gu _ f f<=(fc k+fcs _ n)*A;rw [nR];omega
theorem Yaa:∀p k f,p.length<=k->Hq p k f=[]
 | [],k,f,_=>by all_goals rfl
 | c::p,0,f,h=>O4
 | c::p,k+1,f,h=>by
  show al _ _=[];have e:=by simpa using h
  rw [Yaa p _ _ O,Yaa p k _ e];rfl
theorem Yof:∀p k f,p.length=k+1->Hq p k f=scl (cf p k) f
 | [],k,f,h=>O4
 | [c],0,f,h=>Yn6 _
 | c::d::p,0,f,h=>O4
 | c::p,k+1,f,h=>by
  have e:=by simpa using h
  show al _ _=scl _ f;rw [Yaa p _ _ O,Yof p k f e];rfl
theorem Ynp:∀f g i,cf (al f g) i=cf f i+cf g i
 | [],g,i=>by rw [Yn (p:=[]) O5,kM];rfl
 | a::f,[],i=>by rw [Yn (p:=[]) O5,eZ];rfl
 | a::f,b::g,0=>rfl
 | a::f,b::g,i+1=>Ynp f g i
def Ynn(c:Int)(f:List Int)(i:Nat):cf (scl c f) i=c*cf f i:=Zf5 f _ (eG c) i
theorem cf_xl0(f:List Int):cf (xl f) 0=0:=by cases f<;>rfl
theorem cf_xl(f:List Int)(i:Nat):cf (xl f) (i+1)=cf f i:=by cases f<;>rfl
theorem cf_Mq:∀p f i,cf (Mq p 0 f) i=(ps p*ps f).c i
 | [],f,i=>by rw [PS.mul_c,Gi (λk _=>by simp [Nf,Yn,cN])];rfl
 | c::p,f,0=>by show cf (al _ _) 0=_;rw [Ynp,Ynn,cf_xl0,PS.mul_c,Mv,eZ];exact(eZ _).symm
 | c::p,f,i+1=>by show cf (al _ _) _=_;rw [Ynp,Ynn,cf_xl,cf_Mq p f i,PS.mul_c,PS.mul_c,Mv _ (i+1)];refine aE _ (Xg λk e=>?_);show cf p k*cf f _=cf p k*cf f _;simp
theorem Ygh{n L e:Nat}(hu:Tr u)(w:Tr v)(hs:Sz n s)(H:s≠[])(Z:s.length<=L)(S:fcs 0 L<=2^e*2^e)(h:s=Qt u v):Sz (n+e) u:=by
 have a1:v≠[]:=λe=>H (by grind [Zcg]);obtain⟨m,hm⟩:∃m,v.length=m+1:=⟨v.length-1,by grind [List.length_pos_iff]⟩;have o:cf v m≠0:=by
  rcases w with w|w
  all_goals grind
 have j:∀i,cf (Mq v 0 u) i=cf s i:=λi=>by rw [cf_Mq,h,Cb,Hs]
 have f:=Znb v v 0 u u (m+1) O;rw [Zsh 0 _ s _ j,Zdk,Zsh 0 _ s _ j,Ym,cE,Yof v m u hm,Zhi,Zse]at f;have g:∀t,0<=Yj (λk=>wfa 0 k*Gu 0 (Hq v (0+k) u) (Hq v k u)) t:=λt=>by
  induction t with
  | zero=>exact eN _
  | succ t ih=>
   rw [Ym,cE];have:=dZ (show 0<=wfa 0 t by have:=Zp9 t 0;omega) (Zsg 0 (Hq v t u));omega
 have hr:=g m;have R:1<=cf v m*cf v m:=by have h1:=Zqg (cf v m);grind [Int.mul_eq_zero]
 have V:=Zsg 0 u;have h3:Gu 0 u u<=cf v m*(cf v m*Gu 0 u u):=by have:=eQ R V;grind
 have h4:=by have:=eQ (show 1<=wfa 0 m from Zp9 m 0) (show 0<=cf v m*(cf v m*Gu 0 u u) by omega);omega
 intro i;rw [Qo];have h5:=Yl1 0 u i;have N:∀x∈s,x*x<=(2^n-1)*(2^n-1):=λx hx=>by
  have hb:x.natAbs<2^n:=(Qo n _).1 (hs.mem hx);have P:((2^n:Nat):Int)=2^n:=by rfl
  have p1:x<=2^n-1:=O;have p2:-(2^n-1)<=x:=O;generalize (2:Int)^n-1=y at *;have:=dZ (show 0<=y-x by omega) (show 0<=y+x by omega);grind
 have hp:(1:Int)<=2^n:=by exact_mod_cast bZ (n:=n) (show 0<2 by omega)
 have G:(1:Int)<=2^e:=by exact_mod_cast bZ (n:=e) (show 0<2 by omega)
 have h6:=Yl0 L 0 s _ Z N (dZ O O);have h7:=by have:=eQ S (show(0:Int)<=(2^n-1)*(2^n-1)from dZ O O);omega
 rcases aX (cf u i).natAbs (2^(n+e))with a0|W
 .omega
 .exfalso;have D:(2^n*2^e:Int)<=((cf u i).natAbs:Int):=O4;have M:((cf u i).natAbs:Int)*((cf u i).natAbs:Int)=cf u i*cf u i:=Int.natAbs_mul_self;have l:=jW D D (dZ O O) O5;rw [M]at l;generalize (2:Int)^n=X at *;generalize (2:Int)^e=Y at *;have I:(Y*Y)*((X-1)*(X-1))<(Y*Y)*(X*X):=by have hy:=jW G G O O;refine Int.mul_lt_mul_of_pos_left ?_ O;grind
  grind
def kkR(R:Nat):Nat->Nat
 | 0=>0
 | d+1=>2*(R+1)*kkR R d+1
def Fs (L:Nat)(R:Nat){n e:Nat}(l:Tr u)(m:Tr v)(hs:Sz n s)(f:s≠[])(j:Tr s)(i:s.length<=L)(o:2*L<=R+2)(g:fcs 0 L<=2^e*2^e)(h:s=Qt u v):Sz (n+e) u:=Ygh l m hs f i g h
theorem Yko{e f:Nat}(i:e<=13)(j:f+1=e)(h:K<=600):Zvo e f K:=λl m=>by have g:∀l,l<=12->(l+1)*(600*(27-2*l)+1)<=65536:=O3;refine aB (aY _ (Nat.succ_le_succ (aP h O))) (g l O)
theorem chH{n:Nat}(F:Nat)(w:Tr xs)(x:xs≠[])(hs:Sz n xs)(hn:n<=350)(hl:xs.length<=13)(hb:(xs.length+2)*(xs.length+2)*(n+13)<=65536)(hF:xs.length<=F+1) :
  Zac F xs/\Sz (n+15) (sqf F xs)/\(sqf F xs).length<=xs.length/\∀p∈chn F xs,Xz p<=(n+26)*25/\p.length<=xs.length:=by
 have e:=Zqe hs;have Z:=Pp w;have l:Tr (Xc xs):=Nc (Yu w);have S:=Gx e O;have Y:=Oc (Xc xs);have m:Tr (Xf (Xc xs)):=Np l;have m1:=Qx e;have m2:=Qx S;have l0:=aD.2 x;have D:gA (Xc xs) (Xf (Xc xs))=Zz (Xc xs):=aG O;have G:gB (Xc xs) (Xf (Xc xs))=Zz (Xf (Xc xs)):=aG O;have j:eok F (gA (Xc xs) (Xf (Xc xs))) (gB (Xc xs) (Xf (Xc xs))):=by
  rw [D,G];refine(Yc2 5 (n+11) (n:=n+5) (by rw [Zw,Zw];omega) (Yu l) (Yu m) (Hz (e.mono O)) (Hz S) ?_ O ?_ ?_ ?_).1
  .rw [Zw,Zw];omega
  .rw [Zw,Zw];exact Yko O O O
  .rw [Zw];exact aB (aP (show(Xc xs).length+1<=14 by omega) (show n+5+1<=400 by omega)) O3
  .rw [Zw];omega
 obtain⟨f1,f2,f3,f4,f5,f6⟩:=Ov F w x j;have y:=Zd7 F l m;have g:=Ziu w x;have P:fcs 0 13<=2^15*2^15:=O7;have o:=Fs 13 24 f2 y e g l O O3 P f4;have H:=Fs 13 24 y f2 e g l O O3 P (by rw [Cb];exact f4);have I:=Ow f2 y f3 f5;rw [<-f4]at I;have lg:=aD.2 f5;have lq:=aD.2 f3;have mg:=Qx H;have N:(sqf F xs).length<=xs.length:=O;have M:=Gx o O;have V:=Oc (sqf F xs);have R:=Yse (a:=sqf F xs) (b:=Zz (Xf (sqf F xs))) (n:=n+15+5) (s:=5) (K:=n+26) (f:=F) (by rw [Zw];omega) f2 (Yu (Np f2)) (o.mono O) (Hz M) (by rw [Zw];omega) O (by rw [Zw];exact Yko O O O) (aB (aP (show(sqf F xs).length+1<=14 by omega) (show n+15+5+1<=500 by omega)) O3) (by rw [Zw];omega);refine⟨⟨⟨λi _=>aB (Zzf e O i) O,?_,j,?_,f1⟩,λi _=>aB (Zzf o O i) O,R.1⟩,o,N,λp hp=>?_⟩
 .intro h;have h3:(max (Xc xs).length (Xf (Xc xs)).length+2)*(max (Xc xs).length (Xf (Xc xs)).length+2)*(max (Xz (Xc xs)) (Xz (Xf (Xc xs)))+8)<=(xs.length+2)*(xs.length+2)*(n+13):=aP (aP O O) O;have:=h.2.2;omega
 .unfold Bx;rw [aG O];split
  .rfl
  .have:((Xc xs).length-(Ng F (Xc xs) (Xf (Xc xs))).length+1)*(Xz (Ng F (Xc xs) (Xf (Xc xs)))+1)<=14*500:=aP O O;rw [aG O]
 .obtain⟨W,a2⟩:=R.2 p hp;refine⟨aB W (aY _ ?_),O⟩;rw [Zw];omega
theorem chG{n:Nat}(F:Nat)(h:Tr xs)(e:xs≠[])(hs:Sz n xs)(g:n<=350)(i:xs.length<=11)(f:xs.length<=F+1) :
  Zac F xs/\Sz (n+15) (sqf F xs)/\(sqf F xs).length<=xs.length/\∀p∈chn F xs,Xz p<=(n+26)*25/\p.length<=xs.length:=
 chH F h e hs g O (aB (aP (aP (show _<=13 by omega) (show _<=13 by omega)) (show _<=363 by omega)) O3) f
theorem Dv.ed{g:List Int}(h:Dv g a):Ed g a:=by obtain⟨k,s,e,h⟩:=h;refine⟨k,s,e,λx=>?_⟩;have:=Cj k 0 a s g [] (λt=>by rw [h t];omega) x;push_cast at this;grind
theorem Zno(n:Tr xs)(g:xs≠[])(j:Zac F xs)(s t:Rat) :
  ∃h:Rat,0<h/\∀u v,s<=u->u<=v->v<=t->v-u<=h->vat ((chn F xs).map Zg) u-vat ((chn F xs).map Zg) v=crs (Zg (sqf F xs)) u v:=by
 have f:=j.1.2.2.1;obtain⟨f1,f2,f3,f4,f5,f6⟩:=Ov F n g f;have e:=Np f2;by_cases o:Xf (sqf F xs)=[]
 .refine Zls 1 f2 (Yu e) f3 j.2.2 O3 (λx=>?_) λq m a b=>?_
  .rw [<-Ie,o];show(0:Rat)=1*0;grind
  .exact Zgl n g f m a (b.sim (Ql e))
 .have l:0<Yw (Xf (sqf F xs)):=by have w:=Cz e o;have y:=Nr (Xf (sqf F xs));omega
  refine Zls (Yw (Xf (sqf F xs)):Rat) f2 (Yu e) f3 j.2.2 (by exact_mod_cast l) (λx=>?_) λq m a b=>?_
  .rw [<-Ie,<-Zp];exact Na x _ _ λi=>by rw [Qp,eE,Gm]
  .exact Zgl n g f m a (b.sim (Ql e))
theorem Yrf{g:List Int}(D:∀x:Rat,Zg p x=Zg s x*Zg g x)(hg:Tr g)(g0:g≠[])(N:Ed g (ld p))(n:Irr q)(R:Ed q p):Ed q s:=by
 refine bH λo=>?_;have i:=n.1;have l:=n.2.1;have P:¬Ed q (ld q):=λh=>by have Z:Ed q (Xf q):=h.congr λx=>(Ie q x).symm;have hl:=Oc q;have:=(Z.len i (Np i) (λe=>by rw [e]at hl;simp at hl;omega)).2;omega
 obtain⟨c1,m1,k1,e1⟩:=R;obtain⟨f,m,k2,e2⟩:=N;have V:∀k,Ed (Fo q k) g:=λk=>by
  induction k with
  | zero=>exact⟨1,g,O3,λx=>by rw [show Fo q 0=[1]from rfl,Px];push_cast;grind⟩
  | succ k ih=>
   cases k with
   | zero=>
    have M:Ed q g:=(Zbq s g m1 _ n k1 (λx=>by rw [<-D x];exact e1 x)).resolve_left o;exact M.congr_l λx=>by rw [Es,show Fo q 0=[1]from rfl,Px];push_cast;grind
   | succ k=>
    obtain⟨c,u,kc,eu⟩:=ih;have hd:∀x:Rat,(c:Rat)*Zg (ld g) x=Zg (ld u) x*Zg (Fo q (k+1)) x+Zg u x*(((k:Rat)+1)*(Zg (Fo q k) x*Zg (ld q) x)):=λx=>by have:=Cw (g.map λa=>c*a) (lmul u (Fo q (k+1))) (λy=>by rw [Zp,Yc];exact eu y) x;rwa [Zam,Bq,Zq4]at this
    have hp:∀x:Rat,Zg (ld p) x=Zg (ld s) x*Zg g x+Zg s x*Zg (ld g) x:=λx=>by have:=Cw p (lmul s g) (λy=>by rw [Yc];exact D y) x;rwa [Bq]at this
    have hz:∀x:Rat,Zg (Mp ((lmul (lmul s u) (ld q)).map λa=>(f*((k:Int)+1))*a) ((lmul (Mp ((lmul s (ld u)).map λa=>f*a) ((lmul (Mp m ((ld s).map λa=>(-f)*a)) u).map λa=>(-1)*a)) q))) x=0:=λx=>by
     refine Ew (Fo q k) (λe=>?_) (λx=>?_) x
     .rw [Al (Zbl i l k).1]at e;have:=(Zbl i l k).2;rw [e]at this;simp at this
     .rw [Xp,Zp,Yc,Yc,Yc,Xp,Zp,Yc,Zp,Yc,Xp,Zp];have H:=e2 x;have W:=hp x;have Y:=hd x;have G:=eu x;rw [Es]at Y G;push_cast;have b1:(f:Rat)*Zg s x*(c*Zg (ld g) x)=(Zg m x-f*Zg (ld s) x)*(c*Zg g x):=by
       have:(f:Rat)*Zg s x*(c*Zg (ld g) x)=c*(f*(Zg (ld p) x-Zg (ld s) x*Zg g x)):=by rw [W];grind
       rw [this];have:(c:Rat)*(f*(Zg (ld p) x-Zg (ld s) x*Zg g x))=c*(f*Zg (ld p) x)-c*f*Zg (ld s) x*Zg g x:=O4;rw [this,H];grind
      rw [Y,G]at b1;grind
    have M:=Zbq (lmul s u) (ld q) (Mp ((lmul (Mp m ((ld s).map λa=>(-f)*a)) u)) ((lmul s (ld u)).map λa=>(-f)*a)) (f*((k:Int)+1)) n (bC k2 O) (λx=>by have:=hz x;rw [Xp,Zp,Yc,Yc,Yc,Xp,Zp,Yc,Zp,Yc,Xp,Zp]at this;rw [Yc,Xp,Yc,Xp,Zp,Zp,Yc];push_cast at this ⊢;grind)
    have Z:=Zbq s u [] 1 n O3;have h7:Ed q u:=by obtain⟨j,w,S,I⟩:=M.resolve_right P;exact(Zbq s u w j n S (λx=>by have:=I x;rwa [Yc]at this)).resolve_left o
    obtain⟨j,w,S,I⟩:=h7;refine⟨j*c,w,bC S kc,λx=>?_⟩;have G:=eu x;have a5:=I x;rw [Es q (k+1)];push_cast;have:(j:Rat)*c*Zg g x=j*(c*Zg g x):=O4;rw [this,G];have:(j:Rat)*(Zg u x*Zg (Fo q (k+1)) x)=(j*Zg u x)*Zg (Fo q (k+1)) x:=O4;rw [this,a5];grind
 obtain⟨H,W⟩:=Zbl i l g.length;have:=((V g.length).len H hg g0).2;omega
theorem Yq6(f:d≠0):Irr [-r,d]:=by have e:Tr [-r,d]:= .inr f;refine⟨e,O5,λq h g=>?_⟩;have:=(g.len h e O5).2;simp at this ⊢;omega
theorem Zkp(r d:Int)(x:Rat):Zg [-r,d] x=(d:Rat)*x-r:=by show((-r:Int):Rat)+x*((d:Rat)+x*0)=_;push_cast;grind
theorem Ypz(o:Tr p)(g:d≠0)(h:Zg p ((r:Rat)/d)=0):Ed [-r,d] p:=by
 have j:(d:Rat)≠0:=by exact_mod_cast g
 have m:Tr [-r,d]:= .inr g;obtain⟨k,s,hs⟩:=Cx p (q:=[-r,d]) O5;have f:=Mh (m.mem O5) k;generalize cf [-r,d] ([-r,d].length-1)^k=L at hs f;have i:∀x,(L:Rat)*Zg p x=Zg s x*Zg [-r,d] x+Zg (Qn p [-r,d]) x:=λx=>by have:=Cj L (-1) p s [-r,d] (Qn p [-r,d]) (λt=>by rw [hs t];omega) x;push_cast at this;grind
 have l:=Pe p (q:=[-r,d]) O5;have n:∀x,Zg (Qn p [-r,d]) x=0:=λx=>by
  have e:=i ((r:Rat)/d);rw [h,Zkp]at e
  match hr:Qn p [-r,d],l with
  | [],_=>rfl
  | [c],_=>
   rw [hr,Px]at e;rw [Px];have:(d:Rat)*(r/d)=r:=O4;rw [this]at e;grind
 exact⟨L,s,f,λx=>by rw [i x,n x];grind⟩
theorem Ed.root(f:d≠0)(h:Ed [-r,d] p):Zg p ((r:Rat)/d)=0:=by
 obtain⟨k,s,i,h⟩:=h;have g:(d:Rat)≠0:=by exact_mod_cast f
 have j:(k:Rat)≠0:=by exact_mod_cast i
 have e:=h ((r:Rat)/d);rw [Zkp]at e;have:(d:Rat)*(r/d)=r:=O4;rw [this]at e;grind
theorem Yh1(g:Tr xs)(j:xs≠[])(f:eok F (gA (Xc xs) (Xf (Xc xs))) (gB (Xc xs) (Xf (Xc xs))))(i:d≠0)(h:Zg xs ((r:Rat)/d)=0):Zg (sqf F xs) ((r:Rat)/d)=0:=by
 obtain⟨f1,f2,f3,f4,f5,f6⟩:=Ov F g j f;have hs:Tr (Xc xs):=Nc (Yu g);have e:Tr (Xf (Xc xs)):=Np hs;have l:Ed [-r,d] (Xc xs):=(Ypz g i h).sim ((Ql g).symm.trans (Hm _).symm);have m:∀x:Rat,Zg (Xc xs) x=Zg (sqf F xs) x*Zg (Ng F (Xc xs) (Xf (Xc xs))) x:=λx=>by
  have:Zg (Xc xs) x=Zg (Qt (sqf F xs) (Ng F (Xc xs) (Xf (Xc xs)))) x:=by rw [<-f4]
  rw [this,Yo]
 have n:Ed (Ng F (Xc xs) (Xf (Xc xs))) (ld (Xc xs)):=((Zek hs e f).2.ed).congr λx=>Ie _ x;exact(Yrf m (Zd7 _ hs e) f5 n (Yq6 i) l).root i
def Away(s t:Rat)(f:Rat->Rat):Prop:=∃δ:Rat,0<δ/\∀x,s<=x->x<=t->δ<=f x\/f x<=-δ
theorem Away.mul{s:Rat}{f g h:Rat->Rat}(D:Away s t f)(G:Away s t g)(e:∀x,h x=f x*g x):Away s t h:=by
 obtain⟨a,l,m⟩:=D;obtain⟨b,n,o⟩:=G;refine⟨a*b,aU l n,λx i j=>?_⟩;rw [e x];rcases m x i j with w|w<;>rcases o x i j with y|y
 .left;have:=aH (a:=f x-a) (b:=g x) O4 O4;have:=aH (a:=a) (b:=g x-b) O4 O4;grind
 .right;have:=aH (a:=f x-a) (b:=- g x) O4 O4;have:=aH (a:=a) (b:=- g x-b) O4 O4;grind
 .right;have:=aH (a:=- f x-a) (b:=g x) O4 O4;have:=aH (a:=a) (b:=g x-b) O4 O4;grind
 .left;have:=aH (a:=- f x-a) (b:=- g x) O4 O4;have:=aH (a:=a) (b:=- g x-b) O4 O4;grind
theorem Away.lin{s:Rat}(g:0<d)(h:(r:Rat)<d*s\/(d:Rat)*t<r):Away s t (Zg [-r,d]):=by
 have i:(0:Rat)<(d:Rat):=by exact_mod_cast g
 rcases h with h|h
 .refine⟨d*s-r,O4,λx e f=> .inl ?_⟩;rw [Zkp];have:=aH (a:=(d:Rat)) (b:=x-s) O4 O4;grind
 .refine⟨r-d*t,O4,λx e f=> .inr ?_⟩;rw [Zkp];have:=aH (a:=(d:Rat)) (b:=t-x) O4 O4;grind
theorem Away.sq(s t:Rat):Away s t (Zg [1,0,1]):=⟨1,O3,λx _ _=>by
 left;show(1:Rat)<=((1:Int):Rat)+x*(((0:Int):Rat)+x*(((1:Int):Rat)+x*0));have:0<=x*x:=by
  rcases(show 0<=x\/x<0 by grind)with h|h
  .exact aH h h
  .have:=aH (a:=-x) (b:=-x) O4 O4;grind
 push_cast;grind⟩
theorem Away.one(s t:Rat):Away s t (Zg [1]):=⟨1,O3,λx _ _=>by left;rw [Px];exact jP⟩
def cntP(P:Int->Prop)[DecidablePred P](m:Int):Nat->Int
 | 0=>0
 | n+1=>cntP P m n+(if P (m+n+1)then 1 else 0)
def eB(K C:Nat):Nat->Nat
 | 0=>0
 | n+1=>C+K*eB K C n
def eL(K C:Nat):Nat->Nat
 | 0=>0
 | n+1=>K*eL K C n+eB K C n
def eM(K C:Nat):Nat->Nat
 | 0=>0
 | n+1=>eL K C n+K*eM K C n
theorem Fg{a b:Nat}(h:a<=b):(a:Rat)<=(b:Rat):=by exact_mod_cast h
theorem Yno{C:Nat}(h:c.natAbs<=C):-(C:Rat)<=(c:Rat)/\(c:Rat)<=(C:Rat):=by
 have e:((-(C:Int):Int):Rat)<=(c:Rat):=by exact_mod_cast (show -(C:Int)<=c by omega)
 have f:(c:Rat)<=(((C:Nat):Int):Rat):=by exact_mod_cast (show c<=(C:Int) by omega)
 push_cast at e f;constructor<;>grind
def Zta{C:Nat}(h:∀i,(cf (c::p) i).natAbs<=C):c.natAbs<=C/\∀i,(cf p i).natAbs<=C:=⟨h 0,λi=>h (i+1)⟩
theorem Zqy{K C:Nat} : ∀(n:Nat) (p:List Int),p.length<=n->(∀i,(cf p i).natAbs<=C)->∀x:Rat,-(K:Rat)<=x->x<=(K:Rat)->-(eB K C n:Rat)<=Zg p x/\Zg p x<=(eB K C n:Rat)
 | n,[],_,_,x,_,_=>by have h:(0:Rat)<=(eB K C n:Rat):=Fg (bA _);show -(eB K C n:Rat)<=0/\(0:Rat)<=(eB K C n:Rat);constructor<;>grind
 | 0,c::p,hl,_,_,_,_=>absurd hl O5
 | n+1,c::p,hl,hc,x,h1,h2=>by
  obtain⟨f,g⟩:=Zta hc;obtain⟨j,l⟩:=Zqy n p (by simpa using hl) g x h1 h2;obtain⟨o,w⟩:=Yno f;have m:(0:Rat)<=(K:Rat):=Fg (bA _);obtain⟨f1,f2⟩:=Zcs h1 h2 j l m;have e:((eB K C (n+1):Nat):Rat)=(C:Rat)+(K:Rat)*(eB K C n:Rat):=by show((C+K*eB K C n:Nat):Rat)=_;push_cast;rfl
  rw [e,show Zg (c::p) x=(c:Rat)+x*Zg p x from rfl];constructor<;>grind
theorem Zqx{K C:Nat} : ∀(n:Nat) (p:List Int),p.length<=n->(∀i,(cf p i).natAbs<=C)->Lip (-(K:Rat)) (K:Rat) (eL K C n:Rat) (Zg p)
 | n,[],_,_,x,y,_,j,_=>by have h:(0:Rat)<=(eL K C n:Rat):=Fg (bA _);have:=aH (a:=(eL K C n:Rat)) (b:=y-x) h O4;show(0:Rat)-0<=_/\(0:Rat)-0<=_;constructor<;>grind
 | 0,c::p,hl,_,_,_,_,_,_=>absurd hl O5
 | n+1,c::p,hl,hc,x,y,h1,j,h2=>by
  obtain⟨m,f⟩:=Zta hc;obtain⟨o,w⟩:=Zqx n p (by simpa using hl) f x y h1 j h2;obtain⟨D,G⟩:=Zqy n p (by simpa using hl) f y O4 h2;have l:(0:Rat)<=(K:Rat):=Fg (bA _);obtain⟨f1,f2⟩:=Zcs (q:=x) (g:=Zg p x-Zg p y) (e:=(eL K C n:Rat)*(y-x)) h1 O4 O4 O4 l;have H:=aH (a:=(eB K C n:Rat)-Zg p y) (b:=y-x) O4 O4;have I:=aH (a:=(eB K C n:Rat)+Zg p y) (b:=y-x) O4 O4;have e:((eL K C (n+1):Nat):Rat)=(K:Rat)*(eL K C n:Rat)+(eB K C n:Rat):=by show((K*eL K C n+eB K C n:Nat):Rat)=_;push_cast;rfl
  rw [e,show Zg (c::p) x=(c:Rat)+x*Zg p x from rfl,show Zg (c::p) y=(c:Rat)+y*Zg p y from rfl];constructor<;>grind
theorem Yi4{K C:Nat} : ∀(n:Nat) (p:List Int),p.length<=n->(∀i,(cf p i).natAbs<=C)->Tay (-(K:Rat)) (K:Rat) (eM K C n:Rat) p
 | n,[],_,_,x,y,_,f,_=>by have h:(0:Rat)<=(eM K C n:Rat):=Fg (bA _);have w:=aH (a:=y-x) (b:=y-x) O4 O4;have:=aH h w;show -((eM K C n:Rat)*(y-x)*(y-x))<=(0:Rat)-0-(y-x)*0/\(0:Rat)-0-(y-x)*0<=(eM K C n:Rat)*(y-x)*(y-x);constructor<;>grind
 | 0,c::p,hl,_,_,_,_,_,_=>absurd hl O5
 | n+1,c::p,hl,hc,x,y,hs,f,ht=>by
  obtain⟨G,j⟩:=Zta hc;obtain⟨m,o⟩:=Yi4 n p (by simpa using hl) j x y hs f ht;obtain⟨H,I⟩:=Zqx n p (by simpa using hl) j x y hs f ht;have D:(0:Rat)<=(K:Rat):=Fg (bA _);have l:0<=y-x:=O4;obtain⟨f1,f2⟩:=Zcs (q:=x) (Q:=(K:Rat)) (g:=Zg p y-Zg p x-(y-x)*Zg (ld p) x) (e:=(eM K C n:Rat)*(y-x)*(y-x)) hs O4 m o D;have M:=aH (a:=y-x) (b:=(eL K C n:Rat)*(y-x)-(Zg p y-Zg p x)) l O4;have N:=aH (a:=y-x) (b:=(eL K C n:Rat)*(y-x)+(Zg p y-Zg p x)) l O4;have e:((eM K C (n+1):Nat):Rat)=(eL K C n:Rat)+(K:Rat)*(eM K C n:Rat):=by show((eL K C n+K*eM K C n:Nat):Rat)=_;push_cast;rfl
  rw [e,Zgu,show Zg (c::p) y=(c:Rat)+y*Zg p y from rfl,show Zg (c::p) x=(c:Rat)+x*Zg p x from rfl];constructor<;>grind
theorem Zzl{A:Nat}(o:Tr a)(hb:Tr b)(Y:2<=a.length)(lb:b.length+1=a.length)(hA:0<A)(na:∀i,(cf a i).natAbs<=A)(nb:∀i,(cf b i).natAbs<=A)(hc:∀q,Tr q->Ed q a->Ed q b->q.length<=1) :
  ∃(U V:List Int) (c:Int),c≠0/\U.length+2=a.length/\V.length+1=a.length/\(∀i,(cf U i).natAbs<=(2*(2*a.length-3)*A)^(2*a.length-4))/\(∀i,(cf V i).natAbs<=(2*(2*a.length-3)*A)^(2*a.length-4))/\
   ∀x,(c:Rat)=Zg U x*Zg a x+Zg V x*Zg b x:=by
 obtain⟨U,V,lU,lV,j,w,y,hz⟩:=Zjo a b 1 (p:=a.length-2) (q:=a.length-1) hA na nb O O O;have l:¬(tzl U=[]/\tzl V=[]):=λ⟨h1,h2⟩=>by
  rcases j with⟨i,hi⟩|⟨i,hi⟩
  .exact hi ((Km U).1 h1 i)
  .exact hi ((Km V).1 h2 i)
 clear j;rw [show a.length-2+(a.length-1)=2*a.length-3 by omega]at w y;rw [show 2*a.length-3-1=2*a.length-4 by omega]at w y;have h:a≠[]:=λe=>by rw [e]at Y;simp at Y
 have M:∀i,cf (Mp (lmul U a) (lmul V b)) i=(ps U*ps a).c i+(ps V*ps b).c i:=λi=>by rw [Mt,Di,Di,PS.mul_c,PS.mul_c];rfl
 have I:∀t,Zg (Mp (lmul U a) (lmul V b)) t=Zg U t*Zg a t+Zg V t*Zg b t:=λt=>by rw [Xp,Yc,Yc]
 generalize Mp (lmul U a) (lmul V b)=R at M I;have W:∀t,Zg R t=(cf R 0:Rat):=λt=>by
  rw [<-Px (cf R 0) t];refine Na t _ _ λi=>?_
  match i with
  | 0=>rfl
  | i+1=>rw [M,hz (i+1) O,Yn O5]
 refine⟨U,V,cf R 0,λh0=>?_,O,O,w,y,λx=>by rw [<-I,W]⟩;have m:∀t,Zg U t*Zg a t+Zg V t*Zg b t=0:=λt=>by rw [<-I,W,h0];rfl
 obtain⟨g,P,Q,f,N,Z,D⟩:=Znz _ a b o hb (aI _);have hl:=hc g f N Z;have hg:=(N.len f o h).1;have n:tzl V=[]:=by
  refine bH λn=>?_
  match g,hg,hl,f,D with
  | [c],_,_,f,D=>
   have H:c≠0:=f.mem O5;have hd:Ed a (tzl V):=⟨c,Mp (lmul P V) ((lmul Q U).map λz=>(-1)*z),H,λx=>by have S:=D x;rw [Px]at S;rw [Mn,Xp,Zp,Yc,Yc,S];have:=m x;have e:Zg V x*Zg b x=- (Zg U x*Zg a x):=O4;have:(Zg P x*Zg a x+Zg Q x*Zg b x)*Zg V x=Zg P x*Zg V x*Zg a x+Zg Q x*(Zg V x*Zg b x):=O4;rw [this,e];push_cast;grind⟩
   have:=(hd.len o (Qj V) n).2;have:=Mc V;omega
  | c::d::r,_,h9,_,_=>simp at h9
 have G:tzl U=[]:=by
  refine bH λG=>?_;have:∀t,Zg a t=0:=Ew U G λt=>by have:=m t;rw [Zal n]at this;grind
  exact o.mem h (Zq0 this _)
 exact l ⟨G,n⟩
def Yaz(K A n e:Nat):Bool:=
 let X:=(2*(2*n-3)*A)^(2*n-4);let W:=eB K X (n-1)
 Nat.ble (2*(2*W+1)*(2*eL K A n)) (2^e) && Nat.ble (2*(2*W+1)*eM K A n) (2^e)
theorem big_or  {A n e:Nat} (hK:0<K) (Z:0<A) (ha:Tr a) (hb:Tr b) (hn:a.length=n) (h2:2<=n) (lb:b.length+1=a.length) (na:∀i,(cf a i).natAbs<=A) (nb:∀i,(cf b i).natAbs<=A) (hc:∀q,Tr q->Ed q a->Ed q b->q.length<=1)
  (x:Rat) (w:-(K:Rat)<=x) (y:x<=(K:Rat)):Big (1/((2*eB K ((2*(2*n-3)*A)^(2*n-4)) (n-1)+1:Nat):Rat)) x (Zg a)\/Big (1/((2*eB K ((2*(2*n-3)*A)^(2*n-4)) (n-1)+1:Nat):Rat)) x (Zg b):=by
 obtain⟨U,V,c,Y,lU,lV,m,o,j⟩:=Zzl ha hb O lb Z na nb hc;rw [hn]at m o;generalize (2*(2*n-3)*A)^(2*n-4)=X at *;obtain⟨u1,u2⟩:=Zqy (n-1) U O m x w y;obtain⟨v1,v2⟩:=Zqy (n-1) V O o x w y;generalize eB K X (n-1)=W at *;have G:(0:Rat)<=(W:Rat):=Fg (bA _);have D:(0:Rat)<((2*W+1:Nat):Rat):=by
   have:(((0:Nat)):Rat)<((2*W+1:Nat):Rat):=by exact_mod_cast kP _
   exact this
 have f:((2*W+1:Nat):Rat)=2*(W:Rat)+1:=by push_cast;rfl
 generalize H:1/((2*W+1:Nat):Rat)=ε;have l:ε*(2*(W:Rat)+1)=1:=by rw [<-H,f];rw [f]at D;grind
 have a0:0<=ε:=by rw [<-H];have:=fK.2 D;rw [jQ];grind
 by_cases I:Big ε x (Zg a)
 .exact .inl I
 .by_cases M:Big ε x (Zg b)
  .exact .inr M
  .exfalso;obtain⟨N,P⟩:=Zem I;obtain⟨R,S⟩:=Zem M;obtain⟨q1,q2⟩:=Zcs u1 u2 N P G;obtain⟨r1,r2⟩:=Zcs v1 v2 R S G;have h4:=j x;have g:(c:Rat)<=-1\/1<=(c:Rat):=by
    rcases mY Y with h|h
    .left;have:((c:Int):Rat)<=((-1:Int):Rat):=by exact_mod_cast (show c<=-1 by omega)
     rwa [show(((-1:Int)):Rat)=-1 from rfl]at this
    .right;have:1<=c:=O;exact_mod_cast this
   have a3:0<ε:=by
    rcases(show ε=0\/0<ε by grind)with h|h
    .rw [h]at l;grind
    .exact h
   rcases g with g|g<;>grind
theorem two_pow_pos(e:Nat):(0:Rat)<((2^e:Nat):Rat):=by have:0<2^e:=bZ O3;exact_mod_cast this
theorem Yss  {A n e:Nat} (hx:Tr xs) (h0:xs≠[]) (hC:Zac F xs) (hK:0<K) (hA:0<A) (hn:(sqf F xs).length=n) (h2:2<=n) (Y:∀i,(cf (sqf F xs) i).natAbs<=A) (nb:∀i,(cf (Xf (sqf F xs)) i).natAbs<=A) (hs:Yaz K A n e=true)
  {u v:Rat} (h1:-(K:Rat)<=u) (V:u<=v) (h3:v<=(K:Rat)) (hh:v-u<=1/((2^e:Nat):Rat)) :
  vat ((chn F xs).map Zg) u-vat ((chn F xs).map Zg) v=crs (Zg (sqf F xs)) u v:=by
 have y:=hC.1.2.2.1;obtain⟨f1,f2,f3,f4,f5,f6⟩:=Ov F hx h0 y;have f:=Np f2;have w:=Oc (sqf F xs);have hd:Xf (sqf F xs)≠[]:=λe=>by rw [e]at w;simp at w;omega
 have S:1<=Yw (Xf (sqf F xs)):=by have h1:=Cz f hd;have h2:=Nr (Xf (sqf F xs));omega
 have a1:(1:Rat)<=(Yw (Xf (sqf F xs)):Rat):=by exact_mod_cast S
 have G:∀i,(cf (Zz (Xf (sqf F xs))) i).natAbs<=A:=λi=>by have h5:=Gm (Xf (sqf F xs)) i;have h6:=nb i;rw [<-h5,bX]at h6;have:(cf (Zz (Xf (sqf F xs))) i).natAbs*1<=(cf (Zz (Xf (sqf F xs))) i).natAbs*(Yw (Xf (sqf F xs))).natAbs:=aY _ O;omega
 have l:∀q,Tr q->Ed q (sqf F xs)->Ed q (Zz (Xf (sqf F xs)))->q.length<=1:=λq hq a b=>Zgl hx h0 y hq a (b.sim (Ql f));have R:(Zz (Xf (sqf F xs))).length+1=(sqf F xs).length:=by rw [Zw];omega
 have g:=big_or (e:=e) hK hA f2 (Yu f) hn h2 R Y G l;unfold Yaz at hs;simp only [aR,Nat.ble_eq]at hs;obtain⟨s1,s2⟩:=hs;generalize (2*(2*n-3)*A)^(2*n-4)=X at *;generalize eB K X (n-1)=W at *;have hD:(0:Rat)<((2*W+1:Nat):Rat):=by
   have:(((0:Nat)):Rat)<((2*W+1:Nat):Rat):=by exact_mod_cast kP _
   exact this
 have hP:=two_pow_pos e;have Z:=Fg s1;have a0:=Fg s2;have c1:((2*(2*W+1)*(2*eL K A n):Nat):Rat)=2*((2*W+1:Nat):Rat)*(2*(eL K A n:Rat)):=by push_cast;rfl
 have c2:((2*(2*W+1)*eM K A n:Nat):Rat)=2*((2*W+1:Nat):Rat)*(eM K A n:Rat):=by push_cast;rfl
 rw [c1]at Z;rw [c2]at a0;have hi:=fK.2 hD;have N:=fK.2 hP;have m:((2*W+1:Nat):Rat)*((2*W+1:Nat):Rat)⁻¹=1:=O4;have o:((2^e:Nat):Rat)*((2^e:Nat):Rat)⁻¹=1:=O4;rw [jQ,Rat.one_mul]at hh;simp only [jQ,Rat.one_mul]at g;generalize ((2*W+1:Nat):Rat)=D at *;generalize ((2^e:Nat):Rat)=P at *;have j:(0:Rat)<=(eL K A n:Rat):=Fg (bA _);have I:(0:Rat)<=(eM K A n:Rat):=Fg (bA _);refine Zjm (s:=-(K:Rat)) (t:=(K:Rat)) (κ:=(Yw (Xf (sqf F xs)):Rat)) (ε:=D⁻¹) (L:=(eL K A n:Rat)) (L':=(eL K A n:Rat)) (M:=(eM K A n:Rat)) (h:=P⁻¹) f2 (Yu f) hC.2.2 O4 (λx=>?_) hi g j (Zqx n _ O Y) j (Zqx n _ O G) I (Yi4 n _ O Y) N ?_ ?_ h1 V h3 hh
 .rw [<-Ie,<-Zp];exact Na x _ _ λi=>by rw [Qp,eE,Gm]
 .-- P⁻¹ * (2 L) ≤ D⁻¹ / 2
  have t1:=aH (a:=P⁻¹*D⁻¹) (b:=P-2*D*(2*(eL K A n:Rat))) (by have:=aU N hi;grind) O4;have H:P⁻¹*D⁻¹*(P-2*D*(2*(eL K A n:Rat)))=D⁻¹*(P*P⁻¹)-2*P⁻¹*(D*D⁻¹)*(2*(eL K A n:Rat)):=O4;rw [H,m,o]at t1;grind
 .have t1:=aH (a:=P⁻¹*D⁻¹) (b:=P-2*D*(eM K A n:Rat)) (by have:=aU N hi;grind) O4;have H:P⁻¹*D⁻¹*(P-2*D*(eM K A n:Rat))=D⁻¹*(P*P⁻¹)-2*P⁻¹*(D*D⁻¹)*(eM K A n:Rat):=O4;rw [H,m,o]at t1;have t2:=aH (a:=(Yw (Xf (sqf F xs)):Rat)-1) (b:=D⁻¹) O4 O4;grind
theorem Znp(R:Tr xs)(H:xs≠[])(N:Zac F xs){s:Rat}(m:s<=t):vat ((chn F xs).map Zg) t<=vat ((chn F xs).map Zg) s:=by
 obtain⟨h,I,w⟩:=Zno R H N s t;have D:∀f u v,0<=crs f u v:=λf u v=>by unfold crs;split<;>decide
 have o:∀n:Nat,∀y,s<=y->y<=t->y-s<=(n:Rat)*h->vat ((chn F xs).map Zg) y<=vat ((chn F xs).map Zg) s:=λn=>by
  induction n with
  | zero=>
    intro y e g i;have:y=s:=by simp at i;grind
    rw [this];exact eN _
  | succ n G=>
   intro y e g i;have x:((n+1:Nat):Rat)*h=(n:Rat)*h+h:=by push_cast;grind
   rcases(show y-s<=(n:Rat)*h\/(n:Rat)*h<y-s by grind)with j|j
   .exact G y e g j
   .have M:(0:Rat)<=(n:Rat)*h:=aH (by exact_mod_cast bA n) O4;rcases(show s<=y-h\/y-h<s by grind)with l|l
    .have a:=G (y-h) l O4 O4;have b:=w (y-h) y l O4 g O4;have c:=D (Zg (sqf F xs)) (y-h) y;omega
    .have b:=w s y O4 e g O4;have c:=D (Zg (sqf F xs)) s y;omega
 have e:∃n:Nat,t-s<=(n:Rat)*h:=by
  have g:0<h⁻¹:=fK.2 I;refine⟨((t-s)*h⁻¹).ceil.toNat,?_⟩;have i:=@nQ ((t-s)*h⁻¹);have x:((((t-s)*h⁻¹).ceil:Int):Rat)<=((((t-s)*h⁻¹).ceil.toNat:Nat):Rat):=by have:((t-s)*h⁻¹).ceil<=((((t-s)*h⁻¹).ceil.toNat:Nat):Int):=lF _;exact_mod_cast this
  have j:=cT (lQ i x) (show 0<=h by grind);have M:(t-s)*h⁻¹*h=t-s:=O4;grind
 obtain⟨n,P⟩:=e;exact o n t m O4 P
def qv(z:R2):Rat:=(z.1:Rat)/(z.2:Rat)
theorem Zw5{x y X Y g:Nat}(f:g=Nat.gcd x y)(N:0<y)(P:0<Y)(h:x*Y=X*y):y/g∣Y/\x/g<=X:=by
 have i:0<g:=by rw [f];exact Nat.gcd_pos_of_pos_right _ N
 have M:Nat.Coprime (x/g) (y/g):=by rw [f];exact Nat.coprime_div_gcd_div_gcd (by rw [<-f];exact i)
 have n:x/g*g=x:=mZ (by rw [f];exact lK _ _);have j:y/g*g=y:=mZ (by rw [f];exact nI _ _);have l:x/g*Y=X*(y/g):=by refine kV i ?_;have G:x/g*Y*g=x/g*g*Y:=O4;have H:X*(y/g)*g=X*(y/g*g):=O4;rw [G,H,n,j,h]
 have w:y/g∣Y:=M.symm.dvd_of_dvd_mul_left (by rw [l];exact Nat.dvd_mul_left _ _);refine⟨w,?_⟩;obtain⟨k,D⟩:=w;have m:0<k:=nA λe=>by rw [e,gJ]at D;omega
 have o:0<y/g:=nA λe=>by rw [e,gI]at j;omega
 rw [D]at l;have I:x/g*k=X:=by refine kV o ?_;have:x/g*k*(y/g)=x/g*(y/g*k):=O4;rw [this,l]
 rw [<-I];exact cZ _ m
theorem Zrv{x y X Y:Int}(I:0<y)(N:0<Y)(h:x*Y=X*y)(G:bl X.natAbs<=B)(e:bl Y.natAbs<=B)(M:B<=65536) :
  ¬Ij x y/\Eh x y∣Y/\0<Eh x y/\bl (Dq x y).natAbs<=B/\bl (Eh x y).natAbs<=B/\Dq x y*y=x*Eh x y:=by
 have P:Kq x y=(Nat.gcd x.natAbs y.natAbs:Int):=by rw [Yq8 O];rfl
 have H:x.natAbs*Y.natAbs=X.natAbs*y.natAbs:=by rw [<-bX,<-bX,h]
 obtain⟨j,w⟩:=Zw5 (g:=Nat.gcd x.natAbs y.natAbs) rfl (by omega:0<y.natAbs) (by omega:0<Y.natAbs) H;have l:(y/Kq x y).natAbs=y.natAbs/Nat.gcd x.natAbs y.natAbs:=by rw [lS (Zmx x y),Zdh]
 have D:(x/Kq x y).natAbs=x.natAbs/Nat.gcd x.natAbs y.natAbs:=by rw [lS (Zvz x y),Zdh]
 have n:bl (y/Kq x y).natAbs<=B:=aB (Og (by rw [l];exact lH O j)) e;have o:bl (x/Kq x y).natAbs<=B:=aB (Og (by rw [D];exact w)) G;have f:¬Ij x y:=λh=>by unfold Ij at h;omega
 obtain⟨m,i,-⟩:=Zfx f;refine⟨f,?_,Zyr f I,by rw [m];exact o,by rw [i];exact n,?_⟩
 .rw [i];refine fH.1 ?_;rw [l];exact j
 .rw [m,i];exact Ylb x y
structure En (K Q:Nat) (d:Nat) (z:R2):Prop where
 pos:0<z.2
 dv:z.2∣((Q*2^d:Nat):Int)
 lo:-(K:Rat)<=qv z
 hi:qv z<=(K:Rat)
theorem En.up{d:Nat}(h:En K Q d z):En K Q (d+1) z:=by
 obtain⟨e,f,g,i⟩:=h;refine⟨e,?_,g,i⟩;have:((Q*2^(d+1):Nat):Int)=((Q*2^d:Nat):Int)*2:=by rw [cH];push_cast;grind
 rw [this];exact iI f (jV _ _)
theorem canc{N p s Y X D:Int}(i:p≠0)(g:N*p=s*D)(h:s*Y=X*p):N*Y=X*D:=by refine Int.eq_of_mul_eq_mul_right i ?_;have e:N*Y*p=(N*p)*Y:=O4;have f:X*D*p=(X*p)*D:=O4;rw [e,f,g,<-h];grind
theorem Gk{z:Int}(h:0<z):(0:Rat)<(z:Rat):=by exact_mod_cast h
def Zdy{n m:Nat}(h:n<2^m):bl n<=m:=(Qo m n).2 h
theorem mid_en{d:Nat}{a b:R2}(ha:En K Q d a)(hb:En K Q d b)(hQ:0<Q)(a3:Q*2^(d+1)<2^B)(a4:2*K*(Q*2^d)<2^B)(hB:B<=65536) :
  Zff a b/\En K Q (d+1) (Oi a b)/\qv (Oi a b)=(qv a+qv b)/2/\bl (Oi a b).1.natAbs<=B/\bl (Oi a b).2.natAbs<=B:=by
 obtain⟨pa,⟨f,da⟩,la,ua⟩:=ha;obtain⟨pb,⟨g,db⟩,lb,ub⟩:=hb;generalize N:((Q*2^d:Nat):Int)=Y at *;have V:0<Q*2^d:=fJ hQ (bZ O3);have j:0<Y:=by rw [<-N];exact_mod_cast V
 have a6:=Gk pa;have a7:=Gk pb;have rY:=Gk j;have H:0<a.2*b.2:=fU pa pb;have h:(a.1*b.2+b.1*a.2)*Y=(a.1*f+b.1*g)*(a.2*b.2):=by have P:(a.1*f+b.1*g)*(a.2*b.2)=a.1*b.2*(a.2*f)+b.1*a.2*(b.2*g):=O4;rw [P,<-da,<-db];grind
 have a0:(a.1:Rat)*f=qv a*Y:=by
  unfold qv;have:(Y:Rat)=(a.2:Rat)*f:=by rw [da];push_cast;rfl
  rw [this];grind
 have a1:(b.1:Rat)*g=qv b*Y:=by
  unfold qv;have:(Y:Rat)=(b.2:Rat)*g:=by rw [db];push_cast;rfl
  rw [this];grind
 have W:((a.1*f+b.1*g:Int):Rat)=(qv a+qv b)*Y:=by push_cast;rw [a0,a1];grind
 have a5:(a.1*f+b.1*g).natAbs<=2*K*(Q*2^d):=by
  have i:((2*K*(Q*2^d):Nat):Rat)=2*(K:Rat)*(Y:Rat):=by rw [<-N];push_cast;grind
  have t1:=aH (a:=2*(K:Rat)-(qv a+qv b)) (b:=(Y:Rat)) O4 O4;have t2:=aH (a:=2*(K:Rat)+(qv a+qv b)) (b:=(Y:Rat)) O4 O4;have u1:((a.1*f+b.1*g:Int):Rat)<=(((2*K*(Q*2^d):Nat):Int):Rat):=by rw [W];push_cast at i ⊢;grind
  have u2:((-((2*K*(Q*2^d):Nat):Int):Int):Rat)<=((a.1*f+b.1*g:Int):Rat):=by rw [W];push_cast at i ⊢;grind
  have v1:a.1*f+b.1*g<=((2*K*(Q*2^d):Nat):Int):=by exact_mod_cast u1
  have v2:-((2*K*(Q*2^d):Nat):Int)<=a.1*f+b.1*g:=by exact_mod_cast u2
  omega
 have l:Y.natAbs=Q*2^d:=by rw [<-N];rfl
 have S:Q*2^(d+1)=2*(Q*2^d):=by rw [cH];grind
 have Z:bl Y.natAbs<=B:=Zdy (by rw [l];omega);have o:bl (a.1*f+b.1*g).natAbs<=B:=Zdy O;obtain⟨f1,f2,f3,f4,f5,f6⟩:=Zrv H j h o Z hB;have a2:=canc (Int.ne_of_gt H) f6 h;have w:bl (2*Y).natAbs<=B:=Zdy (by rw [bX,l];show 2*(Q*2^d)<_;omega);have I:Dq (a.1*b.2+b.1*a.2) (a.2*b.2)*1*(2*Y)=(a.1*f+b.1*g)*(Eh (a.1*b.2+b.1*a.2) (a.2*b.2)*2):=by rw [gK];have P:Dq (a.1*b.2+b.1*a.2) (a.2*b.2)*(2*Y)=2*(Dq (a.1*b.2+b.1*a.2) (a.2*b.2)*Y):=O4;rw [P,a2];grind
 have G:0<Eh (a.1*b.2+b.1*a.2) (a.2*b.2)*2:=O;obtain⟨g1,g2,R,g4,g5,g6⟩:=Zrv G (by omega:0<2*Y) I o w hB;have M:=canc (Int.ne_of_gt G) g6 I;have x:(Oi a b).1=Dq (Dq (a.1*b.2+b.1*a.2) (a.2*b.2)*1) (Eh (a.1*b.2+b.1*a.2) (a.2*b.2)*2):=rfl;have D:(Oi a b).2=Eh (Dq (a.1*b.2+b.1*a.2) (a.2*b.2)*1) (Eh (a.1*b.2+b.1*a.2) (a.2*b.2)*2):=rfl;rw [<-x,<-D]at M;rw [<-D]at g2 R g5;rw [<-x]at g4;have hq:qv (Oi a b)=(qv a+qv b)/2:=by
  have h1:(((Oi a b).1:Int):Rat)*(2*(Y:Rat))=((a.1*f+b.1*g:Int):Rat)*(((Oi a b).2:Int):Rat):=by
   have:(((Oi a b).1*(2*Y):Int):Rat)=(((a.1*f+b.1*g)*(Oi a b).2:Int):Rat):=by rw [M]
   push_cast at this ⊢;grind
  rw [W]at h1;have rd:=Gk R;unfold qv at *;generalize (((Oi a b).1:Int):Rat)=n at *;generalize (((Oi a b).2:Int):Rat)=m at *;generalize (a.1:Rat)/(a.2:Rat)=p at *;generalize (b.1:Rat)/(b.2:Rat)=q at *;generalize (Y:Rat)=y at *;grind
 refine⟨⟨f1,g1⟩,⟨R,?_,by rw [hq];grind,by rw [hq];grind⟩,hq,g4,g5⟩;have e:((Q*2^(d+1):Nat):Int)=2*Y:=by rw [S,<-N];push_cast;rfl
 rw [e];exact g2
def vch(F:Nat)(xs:List Int)(x:Rat):Int:=vat ((chn F xs).map Zg) x
def cvc_v(h:0<z.2):cvc F xs z=vch F xs (qv z):=Ysh h
def Sqn(P:R2->R2->Prop)(hi:Rat):Rat->List (R2×R2)->Prop
 | e,[]=>e<=hi
 | e,c::r=>e<=qv c.1/\qv c.1<qv c.2/\P c.1 c.2/\Sqn P hi (qv c.2) r
theorem Sqn.le{P:R2->R2->Prop}{hi:Rat} : ∀{e:Rat} {l:List (R2×R2)},Sqn P hi e l->e<=hi
 | e,[],h=>h
 | e,c::r,h=>by have:=Sqn.le h.2.2.2;have:=h.1;have:=h.2.1;grind
theorem Sqn.low{P:R2->R2->Prop}{hi:Rat}{f e:Rat}(g:e<=f):∀{l:List (R2×R2)},Sqn P hi f l->Sqn P hi e l
 | [],h=>by have h:f<=hi:=h;show e<=hi;grind
 | c::r,h=>⟨by have:=h.1;grind,h.2⟩
def Sqn.app{P:R2->R2->Prop}{e hi:Rat}{j:List (R2×R2)}(g:Sqn P hi e j):∀{f:Rat} {i:List (R2×R2)},Sqn P e f i->Sqn P hi f (i ++ j)
 | f,[],h=>g.low h
 | f,c::r,h=>⟨h.1,h.2.1,h.2.2.1,Sqn.app g h.2.2.2⟩
theorem Zq9{a:R2}(m:0<a.2)(h:a.1.natAbs<=K):-(K:Rat)<=qv a/\qv a<=(K:Rat):=by
 obtain⟨j,l⟩:=Yno h;have n:(1:Rat)<=(a.2):=by exact_mod_cast (show 1<=a.2 by omega)
 have e:(0)<=(K:Rat):=Fg (bA _);have hi:=fK.2 (show 0<(a.2:Rat) by grind);have f:(a.2)*(a.2:Rat)⁻¹=1:=O4;unfold qv;have t1:=aH (a:=(a.2)⁻¹) (b:=(K)*a.2-a.1) O4 (by have:=aH (b:=(a.2)-1) e O4;grind);have t2:=aH (a:=(a.2)⁻¹) (b:=(K)*a.2+a.1) O4 (by have:=aH (b:=(a.2)-1) e O4;grind);have g:(a.2:Rat)⁻¹*((K)*a.2-a.1)=(K)*(a.2*(a.2:Rat)⁻¹)-a.1*(a.2:Rat)⁻¹:=O4;have i:(a.2:Rat)⁻¹*((K)*a.2+a.1)=(K)*(a.2*(a.2:Rat)⁻¹)+a.1*(a.2:Rat)⁻¹:=O4;rw [g,f]at t1;rw [i,f]at t2
 all_goals grind
theorem Zc2{a:R2}{n:Nat}(e:0<a.2)(f:bl a.1.natAbs<=n)(g:bl a.2.natAbs<=n)(h:n<=65536) :
  ¬Ij a.1 a.2/\0<(slow a).2/\bl (slow a).1.natAbs<=n/\bl (slow a).2.natAbs<=n/\qv (slow a)=qv a:=by
 obtain⟨f1,f2,f3,f4,f5,f6⟩:=Zrv e e rfl f g h;refine⟨f1,f3,f4,f5,?_⟩;have r1:=Gk e;have r2:=Gk f3;have i:((Dq a.1 a.2))*(a.2:Rat)=(a.1)*((Eh a.1 a.2)):=by exact_mod_cast f6
 show((Dq a.1 a.2))/((Eh a.1 a.2))=(a.1)/(a.2:Rat);grind
theorem sep_of  {A e:Nat} (D:Tr xs) (l:xs≠[]) (w:Zac F xs) (x:0<K) (o:0<A) (G:∀i,(cf (sqf F xs) i).natAbs<=A) (H:∀i,(cf (Xf (sqf F xs)) i).natAbs<=A)
  (hs:2<=(sqf F xs).length->Yaz K A (sqf F xs).length e=true) (u v:Rat) (m:-(K:Rat)<=u) (f:u<=v) (n:v<=(K:Rat)) (y:v-u<=1/((2^e:Nat):Rat)):vch F xs u-vch F xs v<=1:=by
 by_cases j:2<=(sqf F xs).length
 .have h:=Yss D l w x o rfl j G H (hs j) m f n y;show vat _ u-vat _ v<=1;rw [h];unfold crs;all_goals omega
 .have N:=Oc (sqf F xs);have M:Xf (sqf F xs)=[]:=aC O;have I:chn F xs=[sqf F xs]:=by unfold chn;grind [Yfi,Dx]
  unfold vch vat;have r1:=Zbx (([Zg (sqf F xs)]).map λg=>Ep (g u));have r2:=Zbx (([Zg (sqf F xs)]).map λg=>Ep (g v));grind
theorem Sqn.mem{P:R2->R2->Prop}{hi:Rat} : ∀{f:Rat} {l:List (R2×R2)},Sqn P hi f l->∀c∈l,P c.1 c.2
 | _,[],_,c,e=>by cases e
 | f,d::r,h,c,e=>by
  rcases bB.1 e with rfl|e
  .exact h.2.2.1
  .exact Sqn.mem h.2.2.2 c e
theorem en_bl{d:Nat}(h:En K Q d z)(i:0<Q)(x:Q*2^d<2^B)(y:K*(Q*2^d)<2^B):bl z.1.natAbs<=B/\bl z.2.natAbs<=B:=by
 obtain⟨l,j,D,H⟩:=h;have f:0<Q*2^d:=fJ i (bZ O3);have g:z.2.natAbs<=Q*2^d:=by have:=fH.2 j;rw [dC]at this;exact lH f this
 have m:z.1.natAbs<=K*z.2.natAbs:=by
  have r:=Gk l;have e:(z.1:Rat)=qv z*z.2:=by unfold qv;grind
  have t1:=aH (a:=(K:Rat)-qv z) (b:=(z.2:Rat)) O4 O4;have t2:=aH (a:=(K:Rat)+qv z) (b:=(z.2:Rat)) O4 O4;have G:((K*z.2.natAbs:Nat):Int)=(K:Int)*z.2:=by push_cast;rw [Int.natAbs_of_nonneg O]
  have o:((z.1:Int):Rat)<=(((K:Int)*z.2:Int):Rat):=by push_cast;grind
  have w:((-((K:Int)*z.2):Int):Rat)<=((z.1:Int):Rat):=by push_cast;grind
  have I:z.1<=(K:Int)*z.2:=by exact_mod_cast o
  have M:-((K:Int)*z.2)<=z.1:=by exact_mod_cast w
  omega
 have n:K*z.2.natAbs<=K*(Q*2^d):=aY _ g;exact⟨Zdy O,Zdy O⟩
theorem Ymh (e:Nat)(w:Nat)(B:Nat){n:Nat}(h:En (2^n) Q (e+w) z)(y:0<Q)(j:Q<2^(2*n))(D:3*n+1+(e+w)<=B):bl z.1.natAbs<=B/\bl z.2.natAbs<=B:=by
 have f:∀m,m<=B->2^m<=2^B:=λm h=>cQ O3 h;have i:0<2^(e+w):=bZ O3;have g:Q*2^(e+w)<2^(2*n)*2^(e+w):=dS j i;have o:2^n*(Q*2^(e+w))<2^n*(2^(2*n)*2^(e+w)):=iT g (bZ O3);have l:2^(2*n)*2^(e+w)=2^(2*n+(e+w)):=(cC _ _ _).symm;have x:2^n*(2^(2*n)*2^(e+w))=2^(n+(2*n+(e+w))):=by rw [l,<-cC]
 rw [l]at g;rw [x]at o;exact en_bl h y (dL g (f _ O)) (dL o (f _ O))
theorem Ed.const{g:List Int}(h:Ed g a)(o:Tr g)(m:Tr a)(l:a≠[])(y:g.length=a.length):∃k c:Int,k≠0/\c≠0/\∀x:Rat,(k:Rat)*Zg a x=(c:Rat)*Zg g x:=by
 obtain⟨k,s,i,h⟩:=h;obtain⟨w,f,j⟩:=Zzd i o m l h;have e:=aD.2 f
 match hs:tzl s,e,j with
 | [c],_,_=>
  have n:=by have:=(Qj s).mem f;rw [hs]at this;exact this
  refine⟨k,c,i,n,λx=>?_⟩;rw [h x,<-Mn s,hs,Px]
 | c::d::r,_,h9=>grind
theorem Gb(p:List Int)(c:Int)(x:Rat):Zg (Zr p c) x=(c:Rat)*Zg p x:=by rw [<-Zp];grind [Na,Yi,Qp,Int.mul_comm]
theorem Zpg(i:Tr p)(g:p≠[])(h:c≠0):Zr p c≠[]:=λe=>by have f:=Yi p c (p.length-1);rw [e]at f;exact bC (i.mem g) h f.symm
theorem Ed.dv{g:List Int}(h:Ed g a):Dv g a:=by obtain⟨k,s,e,h⟩:=h;refine⟨k,s,e,λt=>?_⟩;have:=Nk (p:=a.map λc=>k*c) (q:=Qt s g) (λx=>by rw [Zp,Yo];exact h x) t;rw [Qp,Hs]at this;exact this
theorem ed_cop{t w:List Int}(H:k≠0)(m:Tr t)(M:Tr w)(t0:t≠[])(G:∀d,Tr d->Ed d t->Ed d w->d.length<=1)(h:∀x:Rat,(k:Rat)*(Zg u x*Zg w x)=Zg s x*Zg t x):Ed t u:=by
 obtain⟨g,A,B,f,j,n,D⟩:=Znz w.length t w m M (aI _);have I:=G g f j n;have i:=(j.len f m t0).1
 match hgg:g,I,i with
 | [c],_,_=>
  have e:c≠0:=by have:=f.mem O5;exact this
  refine⟨k*c,Mp ((Qt A u).map λa=>k*a) (Qt B s),bC H e,λx=>?_⟩;rw [Xp,Zp,Yo,Yo];have l:=D x;rw [Px]at l;have o:=h x;push_cast;rw [show(k:Rat)*c*Zg u x=k*(Zg u x*(c:Rat)) by grind,l];have y:(k:Rat)*(Zg u x*(Zg A x*Zg t x+Zg B x*Zg w x))=k*Zg A x*Zg u x*Zg t x+Zg B x*(k*(Zg u x*Zg w x)):=O4;rw [y,o];grind
 | c::d::r,h9,_=>simp at h9
def Om(F:Nat)(p:List Int):List Int:=Ng F (Xc p) (Xf (Xc p))
def Dc(F:Nat)(p:List Int):Prop:=eok F (gA (Xc p) (Xf (Xc p))) (gB (Xc p) (Xf (Xc p)))
theorem Pi(j:Tr p)(l:p≠[])(i:Dc F p):Tr (Om F p)/\Om F p≠[]/\Xc (Om F p)=Om F p/\Xc p=Qt (sqf F p) (Om F p)/\(sqf F p).length+(Om F p).length=p.length+1:=by obtain⟨f1,f2,f3,f4,f5,f6⟩:=Ov F j l i;have f:Tr (Xc p):=Nc (Yu j);have g:Tr (Xf (Xc p)):=Np f;have h:=Zd7 F f g;have m:=Ow f2 h f3 f5;rw [<-f4,Pp j]at m;have n:=aD.2 f3;have o:=aD.2 f5;refine⟨h,f5,Zyq h (Zmk f g f5) (Ay (Zne F (Zji f g) (Zjh f g)) (λe=>f5 (by unfold Ng;rw [e];rfl))),f4,?_⟩;unfold Om;omega
theorem Yp3{h:List Int}(j:Tr h)(i:h≠[]){m:Int}(e:∀x:Rat,(k:Rat)*(Zg a x*Zg h x)=(m:Rat)*(Zg b x*Zg h x))(x:Rat):(k:Rat)*Zg a x=(m:Rat)*Zg b x:=by
 have g:=Ew h (f:=Mp (a.map λc=>k*c) (b.map λc=>(-m)*c)) (by rw [Al j];exact i) (λx=>by rw [Xp,Zp,Zp];have:=e x;push_cast;grind) x
 rw [Xp,Zp,Zp]at g;push_cast at g;grind
theorem Yby(Y:Tr p)(h0:p≠[])(l:Dc F p)(e:Dc F (Om F p)):Ed (sqf F (Om F p)) (sqf F p):=by
 obtain⟨n,a2,f,a4,a5⟩:=Pi Y h0 l;obtain⟨I,H,b3,b4,b5⟩:=Pi n a2 e;obtain⟨-,u2,u3,-,-,-⟩:=Ov F Y h0 l;obtain⟨-,t2,t3,-,-,-⟩:=Ov F n a2 e;have ht:Tr (Xc p):=Nc (Yu Y);have o:Ed (Om F p) (Xf (Xc p)):=(Zek ht (Np ht) l).2.ed;have e2:Ed (Om F (Om F p)) (Xf (Om F p)):=by have:=(Zek (F:=F) (p:=Xc (Om F p)) (q:=Xf (Xc (Om F p))) (by rw [f];exact n) (Np (by rw [f];exact n)) e).2.ed;have h9:Om F (Om F p)=Ng F (Xc (Om F p)) (Xf (Xc (Om F p))):=rfl;rw [<-h9,f]at this;exact this
 have S:∀d,Tr d->Ed d (Om F p)->Ed d (Xf (Om F p))->Ed d (Om F (Om F p)):=λd N i y=>by unfold Om at *;have:=Zmi (F:=F) (d:=d) (p:=Xc (Ng F (Xc p) (Xf (Xc p)))) (q:=Xf (Xc (Ng F (Xc p) (Xf (Xc p))))) (by rw [f];exact n) (Np (by rw [f];exact n)) (by rw [f];exact i) (by rw [f];exact y);exact this
 rw [f]at b4;generalize hg:Om F p=g at *;generalize hh:Om F g=h at *;generalize hu:sqf F p=u at *;generalize a6:sqf F g=t at *;obtain⟨k,s,hk,V⟩:=o;obtain⟨m,w,hm,W⟩:=e2;have hP:∀x:Rat,Zg (Xc p) x=Zg (lmul u g) x:=λx=>by rw [a4,Yo,Yc]
 have hG:∀x:Rat,Zg g x=Zg (lmul t h) x:=λx=>by
  have:Zg g x=Zg (Qt t h) x:=by rw [<-b4]
  rw [this,Yo,Yc]
 have P:∀x:Rat,Zg (Xf (Xc p)) x=Zg (ld u) x*Zg g x+Zg u x*Zg (ld g) x:=λx=>by rw [Ie,Cw _ _ hP,Bq]
 have D:∀x:Rat,(m:Rat)*Zg (ld g) x=Zg w x*Zg h x:=λx=>by rw [<-Ie];exact W x
 have a0:∀x:Rat,(k:Rat)*(Zg (Qt u w) x*Zg h x)=(m:Rat)*(Zg (Qt (Mp s ((ld u).map λc=>(-k)*c)) t) x*Zg h x):=λx=>by rw [Yo,Yo,Xp,Zp];have i:=V x;have y:=P x;have h3:=D x;have h4:=hG x;rw [Yc]at h4;rw [y]at i;have:(k:Rat)*(Zg u x*Zg w x*Zg h x)=Zg u x*k*(Zg w x*Zg h x):=O4;rw [this,<-h3];push_cast;have:Zg u x*(k:Rat)*(m*Zg (ld g) x)=m*(k*(Zg (ld u) x*Zg g x+Zg u x*Zg (ld g) x)-k*Zg (ld u) x*Zg g x):=O4;rw [this,i,h4];grind
 have G:=Yp3 I H a0;refine ed_cop (s:=(Qt (Mp s ((ld u).map λc=>(-k)*c)) [m])) hk t2 (w:=tzl w) (Qj w) t3 (λd N i y=>?_) (λx=>?_)
 .have M:Ed d w:=y.congr λx=>Mn w x;have R:Ed (Qt d h) h:=S _ Qm (by
   obtain⟨Z,s1,j,o⟩:=i;exact⟨Z,s1,j,λx=>by rw [hG x,Yc,Yo];have:=o x;grind⟩) (by
   obtain⟨Z,s1,j,o⟩:=M;exact⟨Z*m,s1,bC j hm,λx=>by rw [Ie,Yo];have:=o x;have:=D x;push_cast;grind⟩)
  have d0:=(i.len N t2 t3).1;have hl:=Ow N I d0 H;have:=(R.len Qm I H).2;have l2:=aD.2 H;omega
 .rw [Mn,Yo,Px];have:=G x;rw [Yo,Yo]at this;rw [this];grind
theorem Yff{t:List Int}(x:Tr u)(y:u≠[])(g:Tr t)(t0:t≠[])(o:Xc t=t)(h:Ed t u):pdv u t/\u=Qt (Ly u t) t/\Tr (Ly u t)/\Ly u t≠[]:=by
 have m:Yw t=1:=by have:=Zbo g t0;rwa [o]at this
 obtain⟨k,s,n,h⟩:=h.dv;obtain⟨q,w⟩:=gauss m _ k s rfl n h;have f:u=Qt (tzl q) t:=x.ext Qm λi=>by rw [Hs,w,Zra]
 obtain⟨j,l⟩:=Zri (Qj q) g t0;rw [<-f]at j l;rw [l];exact⟨j,f,Qj q,λe=>y (by rw [f,e,Fp])⟩
theorem Zm7(g:Tr p)(m:p≠[])(f:Dc F p)(o:2<=p.length):(Om F p).length<p.length:=by obtain⟨j,n,-⟩:=Pi g m f;have h:Tr (Xc p):=Nc (Yu g);have l:Ed (Om F p) (Xf (Xc p)):=(Zek h (Np h) f).2.ed;have i:=Oc (Xc p);have w:=Pp g;have:=(l.len j (Np h) (λe=>by rw [e]at i;simp at i;omega)).2;omega
theorem Yqu(m:Tr p)(o:Xc p=p)(f:p.length=1):p=[1]:=by
 have g:p≠[]:=λe=>by rw [e]at f;simp at f
 have j:=Zbo m g;have l:0<cf (Xc p) ((Xc p).length-1):=Ay (Yu m) (λe=>g (aC (by rw [<-Zw,e];rfl)));rw [o]at j l
 match p,f with
 | [c],_=>
  have n:0<c:=l;have h:c∣Yw [c]:=Ea λi=>by
   match i with
   | 0=>exact Int.dvd_refl c
   | i+1=>rw [Yn O5];exact jU c
  rw [j]at h;have:=kE O3 h;rw [show c=1 by omega]
def Dp(p q:List Int):Prop:=Tr q/\q≠[]/\Xc q=q/\∃a,Tr a/\Xc p=Qt a q
theorem Dp.start(f:Tr p)(g:p≠[]):Dp p (Xc p):=
 ⟨Nc (Yu f),Ziu f g,Zyq (Nc (Yu f)) (Zbo f g) (Ay (Yu f) (λe=>g (aC (by rw [<-Zw,e];rfl)))),[1],.inr (show cf [1] 0≠0 by decide),by refine(Nc (Yu f)).ext Qm λi=>?_;rw [Hs,Zvl];rfl⟩
theorem Dp.sz{n:Nat}(j:Tr p)(x:p≠[])(hs:Sz n p)(I:p.length<=13)(h:Dp p q):Sz (n+15) q/\q.length<=p.length:=by obtain⟨m,y,H,a,o,e⟩:=h;have D:fcs 0 13<=2^15*2^15:=O7;have g:=Pp j;have f:=Ziu j x;have G:Tr (Xc p):=Nc (Yu j);have l:a≠[]:=λw=>f (by rw [e,w,Fp]);refine⟨Fs 13 24 m o (Zqe hs) f G O O3 D (by rw [Cb];exact e),?_⟩;have i:=Ow o m l y;rw [<-e,g]at i;have:=aD.2 l;omega
theorem Dp.ok{n:Nat}(f:Tr p)(e:p≠[])(hs:Sz n p)(l:n<=220)(j:p.length<=11)(i:p.length<=F+1)(h:Dp p q):Zac F q/\Dc F q:=by obtain⟨g,m⟩:=h.sz f e hs O;have:=(chG F h.1 h.2.1 g O O O).1;exact⟨this,this.1.2.2.1⟩
theorem Dp.next(h:Dp p q)(f:Dc F q):Dp p (Om F q):=by obtain⟨n,o,w,a,D,e⟩:=h;obtain⟨j,l,m,g,y⟩:=Pi n o f;refine⟨j,l,m,Qt a (sqf F q),Qm,?_⟩;rw [w]at g;refine e.trans ((aE (Qt a) g).trans ?_);refine(Qm).ext Qm λi=>Nk (λx=>?_) i;rw [Yo,Yo,Yo,Yo];grind
def Be(F:Nat):Nat->List Int->List Int
 | 0,p=>sqf F p
 | f+1,p=>if(sqf F p).length=1 then sqf F p else Qt (Ly (sqf F p) (sqf F (Om F p))) (Be F f (Om F (Om F p)))
def Zrn(F:Nat):Nat->List Int->List Int->List Int
 | 0,e,_=>e
 | f+1,e,q=>if(sqf F q).length=1 then e else if(sqf F (Om F q)).length=1 then Qt e (Ly (sqf F q) (sqf F (Om F q)))else Zrn F f (Qt e (Ly (sqf F q) (sqf F (Om F q)))) (Om F (Om F q))
theorem Zgk(g:Tr q)(f:q≠[])(e:Dc F q)(h:(sqf F q).length=1):sqf F q=[1]/\q.length=1/\(Om F q).length=1:=by
 obtain⟨f1,f2,f3,f4,f5,f6⟩:=Ov F g f e;obtain⟨l,m,n,o,w⟩:=Pi g f e;have x:=aD.2 f;have j:q.length=1:=by
  rcases aX q.length 2 with i|i
  .omega
  .have:=Zm7 g f e i;omega
 exact⟨Yqu f2 f6 h,j,O⟩
theorem Zrg(e:Tr p):Qt p [1]=p:=by refine(Qm).ext e λi=>Nk (λx=>?_) i;rw [Yo,Px];push_cast;grind
theorem Yj3(i:Tr q)(g:q≠[])(e:Dc F q)(h:q.length=1):∀f,Be F f q=[1]:=λf=>by
 obtain⟨f1,f2,f3,f4,f5,f6⟩:=Ov F i g e;obtain⟨l,j,m,n,o⟩:=Pi i g e;have w:=aD.2 f3;have x:=aD.2 j;have hs:(sqf F q).length=1:=O;have:=(Zgk i g e hs).1;cases f with
 | zero=>exact this
 | succ f=>unfold Be;rw [aM hs];exact this
theorem Zks (p:List Int){f:Nat}(h:Tr q)(g:q≠[])(e:Dc F q):Tr (Be F f q):=by
 obtain⟨f1,f2,f3,f4,f5,f6⟩:=Ov F h g e;cases f with
 | zero=>exact f2
 | succ f=>unfold Be;split;exact f2;exact Qm
theorem Ybz{n:Nat}(N:Tr p)(D:p≠[])(hs:Sz n p)(M:n<=220)(H:p.length<=11)(G:p.length<=F+1):∀(f:Nat) (j q:List Int),Tr j->Dp p q->q.length<=f->Zrn F f j q=Qt j (Be F f q):=by
 intro f
 induction f with
 | zero=>intro j q _ g I;have:=aD.2 g.2.1;omega
 | succ f V=>
  intro j q S g I;have h:=(g.ok N D hs M H G).2;have m:=g.next h;have e:=(m.ok N D hs M H G).2;have l:=m.next e;have w:=(l.ok N D hs M H G).2;unfold Zrn Be;by_cases o:(sqf F q).length=1
  .rw [aM o,aM o,(Zgk g.1 g.2.1 h o).1,Zrg S]
  .rw [aG o,aG o];have W:2<=q.length:=by obtain⟨f1,f2,f3,f4,f5,f6⟩:=Ov F g.1 g.2.1 h;obtain⟨a1,P,a3,a4,a5⟩:=Pi g.1 g.2.1 h;have l1:=aD.2 f3;have l2:=aD.2 P;omega
   have Y:=Zm7 g.1 g.2.1 h W;obtain⟨-,-,-,-,b5⟩:=Pi m.1 m.2.1 e;obtain⟨-,b2,R,-,-,-⟩:=Ov F m.1 m.2.1 e;have lb:=aD.2 R;by_cases y:(sqf F (Om F q)).length=1
   .obtain⟨s1,s2,Z⟩:=Zgk m.1 m.2.1 e y;rw [aM y,Yj3 l.1 l.2.1 w Z];refine(Qm).ext Qm λi=>Nk (λx=>?_) i;rw [Yo,Yo,Yo,Px];push_cast;grind
   .rw [aG y,V _ _ Qm l O];refine(Qm).ext Qm λi=>Nk (λx=>?_) i;rw [Yo,Yo,Yo,Yo];grind
theorem Zym{e:Int}(j:e=1\/e=-1)(h:Yw q=1):Yw (Zr q e)=1:=by
 have f:Yw (Zr q e)∣Yw q:=Ea λi=>by
  have:=Kj (Zr q e) i;rw [Yi]at this;rcases j with rfl|rfl
  .rwa [gK]at this
  .rw [Int.mul_neg_one]at this;exact(nP.1 this)
 rw [h]at f;have l:=Nr (Zr q e);have m:=kE O3 f;rcases(show Yw (Zr q e)=0\/Yw (Zr q e)=1 by omega)with g|g
 .rw [g]at f;exact absurd (nK.1 f) O3
 .exact g
theorem Yjz(h:Yw q=1):Zz q=q:=by unfold Zz;rw [h];simp
theorem Zuo{e:Int}(g:Tr q)(h:q≠[])(j:Xc q=q)(f:Dc F q)(n:e=1\/e=-1) :
  Tr (Zr q e)/\Zr q e≠[]/\Xc (Zr q e)=q/\Zz (Zr q e)=Zr q e/\pdv (Zr q e) (sqf F q)/\Ly (Zr q e) (sqf F q)=Zr (Om F q) e:=by
 have m:e≠0:=by rcases n with rfl|rfl<;>decide
 obtain⟨f1,f2,f3,f4,f5,f6⟩:=Ov F g h f;obtain⟨G,H,I,l,M⟩:=Pi g h f;have y:Yw q=1:=by have:=Zbo g h;rwa [j]at this
 rw [j]at l;have D:Zr q e=Qt (Zr (Om F q) e) (sqf F q):=by
  refine(Qk _ _).ext Qm λi=>Nk (λx=>?_) i;have:Zg q x=Zg (Qt (sqf F q) (Om F q)) x:=by rw [<-l]
  rw [Gb,Yo,Gb,this,Yo];grind
 obtain⟨o,w⟩:=Zri (Qk (Om F q) e) f2 f3;rw [<-D]at o w;exact⟨Qk _ _,Zpg g h m,by rw [Zrp (Qk _ _) g (Zfq q m).symm,j],Yjz (Zym n y),o,w⟩
theorem Yjy(f:Tr p)(g:p≠[]):∃e:Int,(e=1\/e=-1)/\Zz p=Zr (Xc p) e:=by
 by_cases h:cf (Zz p) ((Zz p).length-1)<0
 .refine⟨-1,.inr rfl,?_⟩;rw [Zkv (λe=>g (aC (by rw [<-Zw,e]))) h];refine(Yu f).ext (Qk _ _) λi=>?_;rw [Yi,Yi];omega
 .refine⟨1,.inl rfl,?_⟩;rw [Zku h];refine(Yu f).ext (Qk _ _) λi=>?_;rw [Yi];omega
def Nd(F:Nat)(p:List Int):List Int:=Ly (Zr (Zz p) 1) (sqf F p)
def Aq(F:Nat)(p:List Int):List Int:=Ly (Zz (Nd F p)) (sqf F (Nd F p))
def Zc9(F:Nat):Nat->List Int->List Int
 | 0,p=>sqf F p
 | f+1,p=>if(sqf F p).length=1 then sqf F p else Qt (Ly (sqf F p) (sqf F (Nd F p))) (Zc9 F f (Aq F p))
theorem Ch(h:Xc p=Xc q):sqf F p=sqf F q:=by unfold sqf;rw [h]
theorem Zkz(h:Xc p=Xc q):Om F p=Om F q:=by unfold Om;rw [h]
theorem Zmh(h:Xc p=Xc q):∀f,Be F f p=Be F f q
 | 0=>Ch h
 | f+1=>by unfold Be;rw [Ch h,Zkz h]
theorem Zl4(G:Tr p)(y:p≠[])(g:Dc F p)(f:Dc F (Om F p)) :
  (∃e:Int,(e=1\/e=-1)/\Zr (Zz p) 1=Zr (Xc p) e/\pdv (Zr (Xc p) e) (sqf F p)/\Nd F p=Zr (Om F p) e/\Zz (Nd F p)=Nd F p/\pdv (Nd F p) (sqf F (Om F p))/\Aq F p=Zr (Om F (Om F p)) e)/\
  Xc (Nd F p)=Om F p/\Xc (Aq F p)=Om F (Om F p)/\Tr (Nd F p)/\Nd F p≠[]/\Tr (Aq F p)/\Aq F p≠[]:=by
 obtain⟨b1,b2,m,-⟩:=Dp.start G y;have h:Dc F (Xc p):=by unfold Dc;rw [m];exact g
 have D:Om F (Xc p)=Om F p:=Zkz m;have l:sqf F (Xc p)=sqf F p:=Ch m;obtain⟨e,n,H⟩:=Yjy G y;have j:Zr (Zz p) 1=Zr (Xc p) e:=by rw [H];refine(Qk _ _).ext (Qk _ _) λi=>?_;rw [Yi,gK]
 obtain⟨-,-,-,-,R,S⟩:=Zuo b1 b2 m h n;rw [D,l]at S;rw [l]at R;have hl:Nd F p=Zr (Om F p) e:=by unfold Nd;rw [j,S]
 obtain⟨M,N,P,-,-⟩:=Pi G y g;obtain⟨V,W,w,x,Y,Z⟩:=Zuo M N P f n;rw [<-hl]at V W w x Y Z;have I:sqf F (Nd F p)=sqf F (Om F p):=Ch (by rw [w,P]);have o:Aq F p=Zr (Om F (Om F p)) e:=by unfold Aq;rw [x,I,Z]
 obtain⟨g1,g2,g3,-,-⟩:=Pi M N f;have e0:e≠0:=by rcases n with rfl|rfl<;>decide
 refine⟨⟨e,n,j,R,hl,x,Y,o⟩,w,?_,V,W,?_,?_⟩
 .rw [o,Zrp (Qk _ _) g1 (Zfq _ e0).symm,g3]
 .rw [o];exact Qk _ _
 .rw [o];exact Zpg g1 g2 e0
theorem Yba{n:Nat}(y:Tr p)(m:p≠[])(hs:Sz n p)(x:n<=220)(w:p.length<=11)(o:p.length<=F+1):∀(f:Nat) (q:List Int),Tr q->q≠[]->Dp p (Xc q)->Zc9 F f q=Be F f q:=by
 intro f
 induction f with
 | zero=>intro q _ _ _;rfl
 | succ f H=>
  intro q G I j;have g:=(j.ok y m hs x w o).2;have i:Dc F q:=by unfold Dc at g ⊢;rwa [j.2.2.1]at g
  have l:=j.next g;rw [Zkz j.2.2.1]at l;have e:=(l.ok y m hs x w o).2;have h:=l.next e;obtain⟨-,r1,r2,r3,P,M,N⟩:=Zl4 G I i e;unfold Zc9 Be;have D:=l.2.2.1;rw [Ch (show Xc (Nd F q)=Xc (Om F q) by rw [r1,D]),H _ M N (by rw [r2];exact h),Zmh (show Xc (Aq F q)=Xc (Om F (Om F q)) by rw [r2,h.2.2.1])]
def Bi(F:Nat)(q:List Int):List Int:=Ly (sqf F q) (sqf F (Om F q))
theorem Cy(g:Tr q)(h:q≠[])(f:Dc F q)(e:Dc F (Om F q)):pdv (sqf F q) (sqf F (Om F q))/\sqf F q=Qt (Bi F q) (sqf F (Om F q))/\Tr (Bi F q)/\Bi F q≠[]:=by obtain⟨f1,f2,f3,f4,f5,f6⟩:=Ov F g h f;obtain⟨i,j,l,m,n⟩:=Pi g h f;obtain⟨-,t2,t3,-,-,t6⟩:=Ov F i j e;exact Yff f2 f3 t2 t3 t6 (Yby g h f e)
theorem Zy6{n:Nat}(j:Tr p)(x:p≠[])(hs:Sz n p)(G:p.length<=13)(o:Tr a)(w:Tr b)(e:Xc p=Qt a b):Sz (n+15) b/\b.length<=p.length/\b≠[]:=by have y:fcs 0 13<=2^15*2^15:=O7;have h:=Pp j;have f:=Ziu j x;have D:Tr (Xc p):=Nc (Yu j);have l:a≠[]:=λg=>f (by rw [e,g,Fp]);have m:b≠[]:=λg=>f (by rw [e,g,Zcg]);refine⟨Fs 13 24 w o (Zqe hs) f D O O3 y (by rw [Cb];exact e),?_,m⟩;have i:=Ow o w l m;rw [<-e,h]at i;have:=aD.2 l;omega
def Op(p e q:List Int):Prop:=∃a,Tr a/\Xc p=Qt a (Qt e q)
theorem Op.start(e:Tr p):Op p [1] (Xc p):=⟨[1],.inr (show cf [1] 0≠0 by decide),by refine(Nc (Yu e)).ext Qm λi=>Nk (λx=>?_) i;rw [Yo,Yo,Px];push_cast;show Zg (Xc p) x=_;grind⟩
theorem Op.next{j:List Int}(n:Tr q)(o:q≠[])(M:Xc q=q)(g:Dc F q)(f:Dc F (Om F q))(h:Op p j q):Op p (Qt j (Bi F q)) (Om F (Om F q)):=by
 obtain⟨a,R,e⟩:=h;obtain⟨-,N,S,V⟩:=Cy n o g f;obtain⟨w,y,D,l,P⟩:=Pi n o g;obtain⟨-,-,-,m,-⟩:=Pi w y f;rw [M]at l;rw [D]at m;refine⟨Qt a (Qt (sqf F (Om F q)) (sqf F (Om F q))),Qm,e.trans ?_⟩;refine(Qm).ext Qm λi=>Nk (λx=>?_) i;have G:Zg q x=Zg (sqf F q) x*Zg (Om F q) x:=by rw [<-Yo,<-l]
 have H:Zg (sqf F q) x=Zg (Bi F q) x*Zg (sqf F (Om F q)) x:=by rw [<-Yo,<-N]
 have I:Zg (Om F q) x=Zg (sqf F (Om F q)) x*Zg (Om F (Om F q)) x:=by rw [<-Yo,<-m]
 simp only [Yo];rw [G,H];rw [I];generalize Zg (sqf F (Om F q)) x=A;generalize Zg (Om F (Om F q)) x=B;grind
theorem Op.sz{f:List Int}{n:Nat}(m:Tr p)(g:p≠[])(hs:Sz n p)(j:p.length<=13)(l:Tr f)(w:Tr q)(h:Op p f q):Sz (n+15) f/\f.length<=p.length/\f≠[]:=by obtain⟨a,o,e⟩:=h;exact Zy6 m g hs j (Qm (p:=a) (q:=q)) l (e.trans ((Qm).ext Qm λi=>Nk (λx=>by rw [Yo,Yo,Yo,Yo];grind) i))
theorem Ybr(e:Tr p):Qt [1] p=p:=by rw [Cb];exact Zrg e
theorem Ykk{n:Nat}(f:Tr p)(g:p≠[])(hs:Sz n p)(j:n<=220)(i:p.length<=11)(h:p.length<=F+1):Zrn F p.length [1] (Xc p)=Zc9 F p.length p:=by have e:=Dp.start f g;have l:=(e.ok f g hs j i h).2;rw [Ybz f g hs j i h p.length [1] (Xc p) (.inr (show cf [1] 0≠0 by decide)) e (by rw [Pp f];exact aI _),Ybr (Zks p e.1 e.2.1 l),Yba f g hs j i h p.length p f g e];exact Zmh e.2.2.1 _
def Zlk(h:Tr xs)(f:xs≠[])(g:Zac F xs){s:Rat}(e:s<=t):vch F xs t<=vch F xs s:=Znp h f g e
def Sqn.imp{P e:R2->R2->Prop}{hi:Rat}(f:∀x y,P x y->e x y):∀{g:Rat} {l:List (R2×R2)},Sqn P hi g l->Sqn e hi g l
 | _,[],h=>h
 | _,_::_,h=>⟨h.1,h.2.1,f _ _ h.2.2.1,Sqn.imp f h.2.2.2⟩
def oe(f:Nat->Int):Nat->Int
 | 0=>0
 | k+1=>err (oe f k) (f k)
def mon(d n:Nat):List Int:=mono d ((2:Int)^n)
variable {P:Program} {N:Nat} {sc:Nat->Prop} {env:Pu} {H:Hp}
end Go.Sky

