/- The law: part 22. No conditions but those that each theorem names. -/
import Derived.Test.YthennaflbbajkaaGreatAk20
set_option linter.all false
set_option maxHeartbeats 4000000
namespace Go.Sky
variable{t:Int}{i:Nat}{qs:List Zd}{p:Zu}
theorem Yjx{ps:List Zd}(m:∀g∈ps,Gin g)(d:Yg ps=true)(h:Hh ps t=true)(hi:i<3):-1048576*exO ps t<=exN ps t i/\exN ps t i<=1048576*exO ps t:=by
 obtain⟨v,u,D⟩:=Zcd m d h;have k:=Zfs d h;have c:=Zpk (Om ((Xb d).1 _ k));have y:AxC (Ya i (ps.getD (Lv ps t) G0).2.1.2 (ps.getD (Lv ps t) G0).2.2.1.2 (ps.getD (Lv ps t) G0).2.2.2.2) (ps.getD (Lv ps t) G0).1.2.2:=Eu (p:=λl=>AxC l (ps.getD (Lv ps t) G0).1.2.2) c.1 c.2.1 c.2.2;have w:=v.o1;have F:=Zol m d h;obtain⟨z,B⟩:=div01 u.1 (Zq8 d h) O1;have a:=Yjy m d h hi;obtain⟨r1,r2⟩:=rev_M y z B;have a:(exN ps t i:Rat)*((ps.getD (Lv ps t) G0).1.2.2:Rat)=((exO ps t:Int):Rat)*spX (ps.getD (Lv ps t) G0) i ((exA ps t:Rat)/(exD ps t:Rat)):=a;unfold spX at a;generalize Zc (Ya i _ _ _) _=R at a r1 r2;generalize exN ps t i=C at a ⊢;generalize exO ps t=O at *;generalize (ps.getD (Lv ps t) G0).1.2.2=b at *;have x:(1:Int)<=b:=w;obtain⟨M,j⟩:∃M:Int,M=1048576*b:=⟨_,rfl⟩;rw [<-j]at r1 r2;have f:(0:Rat)<=(O:Rat):=by exact_mod_cast (show 0<=O by omega)
 have q:=jS r1 f;have r:=jS r2 f;rw [<-a]at q r;have n:C*b<=O*M:=by have:(C:Rat)*(b:Rat)<=(O:Rat)*(M:Rat):=r;exact_mod_cast this
 have o:-(O*M)<=C*b:=by
  have:-((O:Rat)*(M:Rat))<=(C:Rat)*(b:Rat):=by rw [<-Rat.mul_neg];exact q
  exact_mod_cast this
 have e:O*M=1048576*O*b:=by rw [j];grind
 have s:-1048576*O*b=-(O*M):=by rw [j];grind
 rw [e]at n;rw [<-s]at o;exact⟨dL o O1,dL n O1⟩
theorem Ygw{n o:Int}(f:0<o)(d:-1048576*o<=n)(e:n<=1048576*o):-1048576<=(n+n+o)/(o+o)/\(n+n+o)/(o+o)<=1048576:=by
 constructor
 .exact lW O1 O1
 .have:=lX (a:=n+n+o) (b:=1048577) (c:=o+o) O1 O1;omega
abbrev rdP (ps:List Zd) (t:Int):Zu:=(rdN ps t 0,rdN ps t 1,rdN ps t 2)
theorem rdN_pt{ps:List Zd}(f:∀g∈ps,Gin g)(d:Yg ps=true)(e:Hh ps t=true):Lb (rdP ps t)=true:=by have h:=Zol f d e;have a:=Yjx f d e (i:=0) O4;have b:=Yjx f d e (i:=1) O4;have c:=Yjx f d e (i:=2) O4;have a:=Ygw h a.1 a.2;have b:=Ygw h b.1 b.2;have c:=Ygw h c.1 c.2;show ptB (rdN ps t 0) (rdN ps t 1) (rdN ps t 2)=true;unfold ptB Zjc rdN;simp;omega
theorem Zfh(x:Rat):0<=x*x:=by
 rcases Rat.le_total (a:=0) (b:=x)with h|h
 .exact aD h h
 .have:=aD (show 0<=-x by grind) (show 0<=-x by grind);grind
theorem mink{x y z u v w A B:Rat}(a:0<=A)(c:0<=B)(e:x*x+y*y+z*z<=A*A)(f:u*u+v*v+w*w<=B*B) :
  (x+u)*(x+u)+(y+v)*(y+v)+(z+w)*(z+w)<=(A+B)*(A+B):=by
 have b:=aD a c;have d:x*u+y*v+z*w<=A*B:=by refine iJ.1 λg=>?_;have s:=aT (show 0<(x*u+y*v+z*w)-A*B by grind) (show 0<(x*u+y*v+z*w)+A*B by grind);have h:=Zfh (x*v-y*u);have j:=Zfh (x*w-z*u);have l3:=Zfh (y*w-z*v);have m:=Zfh x;have n:=Zfh y;have o:=Zfh z;have k:=aD (show 0<=A*A-(x*x+y*y+z*z) by grind) (Zfh B);have l:=aD (show 0<=x*x+y*y+z*z by grind) (show 0<=B*B-(u*u+v*v+w*w) by grind);grind
 grind
theorem Zpu{n o:Int}{e:Rat}(j:0<o)(h:(n:Rat)=(o:Rat)*e):(((n+n+o)/(o+o):Int):Rat)-e<=1/2/\e-(((n+n+o)/(o+o):Int):Rat)<=1/2:=by
 have a:=Int.ediv_mul_le (n+n+o) (show o+o≠0 by omega);have b:=Int.lt_ediv_add_one_mul_self (n+n+o) (show 0<o+o by omega);generalize (n+n+o)/(o+o)=r at a b ⊢;have c:(0:Rat)<(o:Rat):=by exact_mod_cast j
 have d:((r*(o+o):Int):Rat)<=((n+n+o:Int):Rat):=by exact_mod_cast a
 have f:((n+n+o:Int):Rat)<=(((r+1)*(o+o):Int):Rat):=by exact_mod_cast eC b
 push_cast at d f;rw [h]at d f;constructor
 .refine iJ.1 λg=>?_;have:=aT c (show 0<(r:Rat)-e-1/2 by grind);grind
 .refine iJ.1 λg=>?_;have:=aT c (show 0<e-(r:Rat)-1/2 by grind);grind
theorem Zqu (d:Rat)(a:d<=1/2)(b:-d<=1/2):d*d<=1/4:=by have:=aD (show 0<=1/2-d by grind) (show 0<=1/2+d by grind);grind
theorem Ygy{ps:List Zd}(j:∀g∈ps,Gin g)(d:Yg ps=true)(f:Hh ps t=true)(hi:i<3) :
  (exN ps t i:Rat)=(exO ps t:Rat)*pzQ (ps.getD (Lv ps t) G0) i (sR (ps.getD (Lv ps t) G0) (t:Rat)):=by
 obtain⟨k,l,m⟩:=Zcd j d f;have a:=Yjy j d f hi;have e:sR (ps.getD (Lv ps t) G0) (t:Rat)=(exA ps t:Rat)/(exD ps t:Rat):=by unfold sR exA exD;push_cast;rfl
 have a:(exN ps t i:Rat)*((ps.getD (Lv ps t) G0).1.2.2:Rat)=((exO ps t:Int):Rat)*spX (ps.getD (Lv ps t) G0) i ((exA ps t:Rat)/(exD ps t:Rat)):=a;have b:=Zt1 k;unfold pzQ;rw [e];generalize spX _ _ _=S at a ⊢;generalize ((ps.getD (Lv ps t) G0).1.2.2:Rat)=o at a b ⊢;have c:S/o*o=S:=eE b;generalize S/o=q at c ⊢;subst c;have:((exN ps t i:Rat)-(exO ps t:Rat)*q)*o=0:=O5;rcases fG.1 this with h|h
 .grind
 .exact absurd h b
theorem ex_InG{ps:List Zd}(c:∀g∈ps,Gin g)(a:Yg ps=true)(b:Hh ps t=true):InG (ps.getD (Lv ps t) G0) (t:Rat):=by obtain⟨h,e,f⟩:=Zcd c a b;have d:=Zq8 a b;unfold exA exD at *;exact⟨by exact_mod_cast (show(ps.getD (Lv ps t) G0).1.1<=t by omega),by exact_mod_cast (show t<=(ps.getD (Lv ps t) G0).1.2.1 by omega)⟩
theorem Yqa{fr to:Int}{ps:List Zd}(r:∀g∈ps,Gin g)(n:Yg ps=true)(S:Ac ps<=fr)(V:fr<to)(W:to<=Bi ps)(Y:fr<=t)(Z:t<=to)(I:Pat fr to ps qs)(M:Qu fr to ps=true)(P:qs.map Ei=Gy fr to ps) :
  ∃m j,m<ps.length/\j<qs.length/\InG (ps.getD m G0) (t:Rat)/\InG (qs.getD j G0) (t:Rat)/\(∃G,Prt (qs.getD j G0) (ps.getD m G0) G):=by
 have b:∃m,m<ps.length/\(ps.getD m G0).1.1<=t/\t<=(ps.getD m G0).1.2.1/\(ps.getD m G0).1.1<to/\fr<(ps.getD m G0).1.2.1:=by
  by_cases ht:t<to
  .obtain⟨m,v,B,D⟩:=Zpi r n (fr:=t) (to:=t+1) O1 O1 O1 (λg e=>O1);exact⟨m,v,B,O1,O1,O1⟩
  .obtain⟨m,v,B,D⟩:=Zpi r n (fr:=t-1) (to:=t) O1 O1 O1 (λg e=>O1);exact⟨m,v,O1,D,O1,O1⟩
 obtain⟨m,b,Q,R,m3,m4⟩:=b;have sg:=Oo (r _ (Zg (d:=G0) b)) (Om ((Xb n).1 _ b));have o:Nz fr to (ps.getD m G0)=true:=by have:=sg.t2;unfold Nz cA cB;exact aE O1
 have e:=Yjf (d:=G0) b o;have a:=aH (λl=>l[((ps.take m).filter (Nz fr to)).length]?) P;unfold Gy at a;rw [aO M]at a;simp only [fD,e,lL]at a;generalize ((ps.take m).filter (Nz fr to)).length=j at e a;obtain⟨q,s,w⟩:∃q,qs[j]? = some q/\Ei q=Zeo fr to (ps.getD m G0):=by
  cases h:qs[j]? with
  | none=>rw [h]at a;cases a
  | some q=>rw [h]at a;exact⟨q,rfl,by simpa using a⟩
 obtain⟨f,z,-,p⟩:=I.prt j q s;rw [e]at z;cases z;have N:=(cL.1 s).1;have k:qs.getD j G0=q:=by rw [aJ,s];rfl
 have F:q.1.1=cA fr (ps.getD m G0):=aH (λu:Zck=>u.1.1) w;have H:q.1.2.1=cB to (ps.getD m G0):=aH (λu:Zck=>u.1.2.1) w;have c:∀{x y:Int},x<=y->(x:Rat)<=(y:Rat):=λh=>by exact_mod_cast h
 refine⟨m,j,b,N,⟨c Q,c R⟩,?_,_,by rw [k];exact p⟩;rw [k];exact⟨c (by rw [F];unfold cA;omega),c (by rw [H];unfold cB;omega)⟩
theorem Yna(q:Zu)(w:Int×Int)(r:SL×SL×SL)(s:Rat):pzQ (glG q.1 q.2.1 q.2.2 q.1 q.2.1 q.2.2 w.1 w.2 0 r) 0 s=(q.1:Rat)/\pzQ (glG q.1 q.2.1 q.2.2 q.1 q.2.1 q.2.2 w.1 w.2 0 r) 1 s=(q.2.1:Rat)/\pzQ (glG q.1 q.2.1 q.2.2 q.1 q.2.1 q.2.2 w.1 w.2 0 r) 2 s=(q.2.2:Rat):=by
 have e:∀x,Bl x x (rwK 0)=[x]:=λx=>by unfold Bl;rw [aO rfl]
 have k:∀x:Int,Zc (Bl x x (rwK 0)) s/((1:Int):Rat)=(x:Rat):=λx=>by rw [e];show((x:Rat)+s*0)/((1:Int):Rat)=x;push_cast;grind
 exact⟨k q.1,k q.2.1,k q.2.2⟩
theorem Yhy {ps:List Zd} {g:GdT} {s:Ly}   (l:∀g∈ps,Gin g) (e:Yg ps=true) (hg:Hy g=true) (hs:Zfe s=true)
  (h1:s.1.1<=t) (h2:t<=s.1.2) (hn:nrB p s.2 g.2.1=true) (Y:nrB p (rdP ps (min (max t (Ac ps)) (Bi ps))) (g.1-1)=true):Br ps g s=false:=by
 obtain⟨hd,hq⟩:=Zbb hs;refine Bool.eq_false_iff.2 λF=>?_;have O:=offH l e hd;have k:Zci (Xi ps s).1 (Xi ps s).2 ps=0:=aR λh=>by rw [(Yaa h).2]at F;cases F
 have hG:Ga (Fg ps (Xi ps s)) (Il s.2 (Xi ps s))=0:=aR λh=>by rw [(Yht k h).2]at F;cases F
 rw [(Yhr k hG).2]at F;have hu:(Fg ps (Xi ps s)).map Ei=Gy (Xi ps s).1 (Xi ps s).2 ps:=Zxe _;have P:=Zp6 l e O k hu;have H:Qu (Xi ps s).1 (Xi ps s).2 ps=true:=by
  unfold Zci at k;split at k
  .assumption
  .cases k
 have lt:=Yfu l e;have n:(Xi ps s).1<=min (max t (Ac ps)) (Bi ps)/\min (max t (Ac ps)) (Bi ps)<=(Xi ps s).2:=by
  obtain⟨R,S,b3⟩:=Ycc hd;show(wnP (Ac ps) (Bi ps) s.1.1 s.1.2).1<=_/\_<=(wnP (Ac ps) (Bi ps) s.1.1 s.1.2).2;by_cases k1:min (max s.1.1 (Ac ps)) (Bi ps)=min (max s.1.2 (Ac ps)) (Bi ps)
  .by_cases k2:min (max s.1.2 (Ac ps)) (Bi ps)<Bi ps
   .rw [Yev k1 k2];dsimp only;omega
   .rw [Yeu k1 k2];dsimp only;omega
  .rw [Yet k1];dsimp only;omega
 have r:Hh ps (min (max t (Ac ps)) (Bi ps))=true:=by unfold Hh;rw [aE O1,aE O1];rfl
 generalize min (max t (Ac ps)) (Bi ps)=τ at n r Y;obtain⟨m,j,hm,q,im,ij,G,pr⟩:=Yqa l e O.r.1 O.r.2.1 O.r.2.2 n.1 n.2 P H hu;have W:=P.gin;have o:=P.pb;have a3:∀g∈Il s.2 (Xi ps s),Gin g:=Zqv hq hq O.b.1 O.r.2.1 O.b.2 sl0;have a4:Yg (Il s.2 (Xi ps s))=true:=Zqt hq O.b.1 O.r.2.1 O.b.2 sl0;obtain⟨g1,g2,g3⟩:=Zg6 hg;have hD:dsB (g.1+g.2.1+1)=true:=by unfold dsB;rw [aE O1,aE O1];rfl
 have c:∀{x y:Int},x<=y->(x:Rat)<=(y:Rat):=λh=>by exact_mod_cast h
 have sF:Ac (Il s.2 (Xi ps s))=(Xi ps s).1:=rfl;have sL:Bi (Il s.2 (Xi ps s))=(Xi ps s).2:=rfl;have qi:=Zz5 W o q;have a7:(((Fg ps (Xi ps s)).getD j G0).1.1)<=τ/\τ<=((Fg ps (Xi ps s)).getD j G0).1.2.1:=⟨by exact_mod_cast ij.1,by exact_mod_cast ij.2⟩;have I:Ag (Fg ps (Xi ps s)) (Il s.2 (Xi ps s))<=τ/\τ<=Af (Fg ps (Xi ps s)) (Il s.2 (Xi ps s)):=by unfold Ag Af;rw [sF,sL];omega
 have a6:Ag (Fg ps (Xi ps s)) (Il s.2 (Xi ps s))<Af (Fg ps (Xi ps s)) (Il s.2 (Xi ps s)):=by
  have sg:=(Oo (W _ (Zg (d:=G0) q)) (Om ((Xb o).1 _ q))).t2;have a1:(Xi ps s).1<=((Fg ps (Xi ps s)).getD j G0).1.1/\((Fg ps (Xi ps s)).getD j G0).1.2.1<=(Xi ps s).2:=by
   have a:((Fg ps (Xi ps s)).map Ei)[j]? = (Gy (Xi ps s).1 (Xi ps s).2 ps)[j]?:=by rw [hu]
   unfold Gy at a;rw [aO H,fD,fD,aL q]at a;obtain⟨f,hf⟩:∃f,(ps.filter (Nz (Xi ps s).1 (Xi ps s).2))[j]? = some f:=by
    cases h:(ps.filter (Nz (Xi ps s).1 (Xi ps s).2))[j]? with
    | none=>rw [h]at a;cases a
    | some f=>exact⟨f,rfl⟩
   rw [hf]at a;have a:Ei ((Fg ps (Xi ps s))[j])=Zeo (Xi ps s).1 (Xi ps s).2 f:=by simpa using a
   have a5:(Fg ps (Xi ps s)).getD j G0=(Fg ps (Xi ps s))[j]:=by rw [aJ,aL q];rfl
   rw [a5];have V:((Fg ps (Xi ps s))[j]).1.1=cA (Xi ps s).1 f:=aH (λu:Zck=>u.1.1) a;have e2:((Fg ps (Xi ps s))[j]).1.2.1=cB (Xi ps s).2 f:=aH (λu:Zck=>u.1.2.1) a;rw [V,e2];unfold cA cB;omega
  unfold Ag Af;rw [sF,sL];omega
 have b:=(ap_sem W a3 o a4 hD a6 hG).1 F (τ:Rat) (c I.1) (c I.2) j 0 q (Nat.zero_lt_succ 0) ij ⟨c n.1,c n.2⟩;have N:=Oo (W _ (Zg (d:=G0) q)) (Om ((Xb o).1 _ q));have D:=Oo (l _ (Zg (d:=G0) hm)) (Om ((Xb e).1 _ hm));have hx:=Zfs e r;have sgx:=Oo (l _ (Zg (d:=G0) hx)) (Om ((Xb e).1 _ hx));have V:=Zyz D pr (u:=sR ((Fg ps (Xi ps s)).getD j G0) (τ:Rat));rw [Ygi N,show((((Fg ps (Xi ps s)).getD j G0).1.1:Int):Rat)+((τ:Rat)-(((Fg ps (Xi ps s)).getD j G0).1.1:Rat))=(τ:Rat) by grind]at V;have e2:=Zk2 l e hm hx im (ex_InG l e r);have pz:∀i,i<3->pzQ ((Fg ps (Xi ps s)).getD j G0) i (sR ((Fg ps (Xi ps s)).getD j G0) (τ:Rat))=pzQ (ps.getD (Lv ps τ) G0) i (sR (ps.getD (Lv ps τ) G0) (τ:Rat)):=λi hi=>by rw [Zc4 N D V hi,Zc4 D sgx e2 hi]
 have hO:=Zol l e r;have r0:=Zpu hO (Ygy l e r (i:=0) O4);have r1:=Zpu hO (Ygy l e r (i:=1) O4);have r2:=Zpu hO (Ygy l e r (i:=2) O4);obtain⟨z0,z1,z2⟩:=Yna s.2 (Xi ps s) sl0 (sR ((Il s.2 (Xi ps s)).getD 0 G0) (τ:Rat));unfold dQ at b;rw [pz 0 O4,pz 1 O4,pz 2 O4]at b;have y0:pzQ ((Il s.2 (Xi ps s)).getD 0 G0) 0 (sR ((Il s.2 (Xi ps s)).getD 0 G0) (τ:Rat))=(s.2.1:Rat):=z0;have y1:pzQ ((Il s.2 (Xi ps s)).getD 0 G0) 1 (sR ((Il s.2 (Xi ps s)).getD 0 G0) (τ:Rat))=(s.2.2.1:Rat):=z1;have y2:pzQ ((Il s.2 (Xi ps s)).getD 0 G0) 2 (sR ((Il s.2 (Xi ps s)).getD 0 G0) (τ:Rat))=(s.2.2.2:Rat):=z2;rw [y0,y1,y2]at b;have R0:(((exN ps τ 0+exN ps τ 0+exO ps τ)/(exO ps τ+exO ps τ):Int):Rat)=(rdN ps τ 0:Rat):=rfl;have R1:(((exN ps τ 1+exN ps τ 1+exO ps τ)/(exO ps τ+exO ps τ):Int):Rat)=(rdN ps τ 1:Rat):=rfl;have R2:(((exN ps τ 2+exN ps τ 2+exO ps τ)/(exO ps τ+exO ps τ):Int):Rat)=(rdN ps τ 2:Rat):=rfl;rw [R0]at r0;rw [R1]at r1;rw [R2]at r2;generalize pzQ (ps.getD (Lv ps τ) G0) 0 (sR (ps.getD (Lv ps τ) G0) (τ:Rat))=a0 at b r0;generalize pzQ (ps.getD (Lv ps τ) G0) 1 (sR (ps.getD (Lv ps τ) G0) (τ:Rat))=a1 at b r1;generalize pzQ (ps.getD (Lv ps τ) G0) 2 (sR (ps.getD (Lv ps τ) G0) (τ:Rat))=a2 at b r2;unfold nrB at hn Y;simp only [aP,bO]at hn Y;obtain⟨Z,M⟩:=hn;obtain⟨v0,Q⟩:=Y;have M:(p.1-s.2.1)*(p.1-s.2.1)+(p.2.1-s.2.2.1)*(p.2.1-s.2.2.1)+(p.2.2-s.2.2.2)*(p.2.2-s.2.2.2)<=g.2.1*g.2.1:=M;have Q:(p.1-rdN ps τ 0)*(p.1-rdN ps τ 0)+(p.2.1-rdN ps τ 1)*(p.2.1-rdN ps τ 1)+(p.2.2-rdN ps τ 2)*(p.2.2-rdN ps τ 2)<=(g.1-1)*(g.1-1):=Q;generalize rdN ps τ 0=b0 at *;generalize rdN ps τ 1=R at *;generalize rdN ps τ 2=S at *;have M:=c M;have Q:=c Q;have Z:=c Z;have v0:=c v0;push_cast at M Q Z v0 b;have h0:=Zqu ((b0:Rat)-a0) r0.1 O5;have h1:=Zqu ((R:Rat)-a1) r1.1 O5;have h2:=Zqu ((S:Rat)-a2) r2.1 O5;have m1:=mink (x:=(s.2.1:Rat)-p.1) (y:=(s.2.2.1:Rat)-p.2.1) (z:=(s.2.2.2:Rat)-p.2.2) (u:=(p.1:Rat)-b0) (v:=(p.2.1:Rat)-R) (w:=(p.2.2:Rat)-S) Z v0 O5 O5;have m2:=mink (u:=(b0:Rat)-a0) (v:=(R:Rat)-a1) (w:=(S:Rat)-a2) (B:=1) (show(0:Rat)<=(g.2.1:Rat)+((g.1:Rat)-1) by grind) O4 m1 O5;grind
theorem Yod{fo:SL}{c:List Zu}{b:List Ox}{fl a e e':Int}{q:Zu}(l:Gb c b fl a=true)(n:Lb q=true)(f:0<=e)(j:e<=e')(k:e'<=100000)(h:ouB fo c b fl a e' q=true):ouB fo c b fl a e q=true:=by
 by_cases o:q.2.2<fl-e
 .exact Yhg o
 by_cases r:q.2.2>a+e
 .exact Yhf r
 cases hb:Zdd c b fl a (qLo fl q)with
 | true=>rw [Ydc O1 O1 hb]at h;cases h
 | false=>
  rw [Ydb O1 O1 hb]at h ⊢;obtain⟨-,-,m⟩:=Ykn (fo:=fo) l (Zw4 l n);generalize d2A fo c b (qLo fl q)=d at h m ⊢;unfold ouN at h ⊢;rw [(Yd5 ⟨f,O1⟩).1,(Yd5 ⟨f,O1⟩).2];rw [(Yd5 ⟨O1,k⟩).1,(Yd5 ⟨O1,k⟩).2]at h;have hs:=bL h;have s:0<d.1*1-e'*e'*d.2:=Int.sign_pos_iff.1 hs;have g:e*e<=e'*e':=jJ j j f O1;have:=cC g (show 0<=d.2 by omega);exact aE (Int.sign_pos_iff.2 O1)
theorem Yhs{ps:List Zd}{g e:GdT}{s:Ly}(m:∀g∈ps,Gin g)(l:Yg ps=true)(q:Hy g=true)(f:Hy e=true)(hs:Zfe s=true)(B:g.1<=e.1)(F:g.2.1<=e.2.1)(b:Br ps e s=true):Br ps g s=true:=by
 obtain⟨o,j⟩:=Zbb hs;have O:=offH m l o;have a:Zci (Xi ps s).1 (Xi ps s).2 ps=0:=aR λh=>by rw [(Yaa h).2]at b;cases b
 have n:Ga (Fg ps (Xi ps s)) (Il s.2 (Xi ps s))=0:=aR λh=>by rw [(Yht a h).2]at b;cases b
 rw [(Yhr a n).2]at b ⊢;have r:(Fg ps (Xi ps s)).map Ei=Gy (Xi ps s).1 (Xi ps s).2 ps:=Zxe _;have P:=Zp6 m l O a r;have c:∀g∈Il s.2 (Xi ps s),Gin g:=Zqv j j O.b.1 O.r.2.1 O.b.2 sl0;have d:Yg (Il s.2 (Xi ps s))=true:=Zqt j O.b.1 O.r.2.1 O.b.2 sl0;obtain⟨u,v,w⟩:=Zg6 q;obtain⟨x,y,z⟩:=Zg6 f;have k:∀D:Int,0<=D/\D<=200001->dsB D=true:=λD h=>by unfold dsB;rw [aE O1,aE O1];rfl
 exact Yq7 (cvS P.gin c P.pb d (k _ ⟨O1,O1⟩)) (cvS P.gin c P.pb d (k _ ⟨O1,O1⟩)) O1 O1 O4 (eA 1) b
section
variable (ps:List Zd) (fo:SL) (po:List Zu) (ph:List Ox) (fl fu:Int) (g:GdT) (s:Ly)
def dgV:Int:=if Hy g=true then dcV (ouB fo po ph fl fu g.2.1 s.2) (Fy ps s) (Br ps g s) (wiS g s)else 0
def dgE:Int:=if Hy g=true then dcE (ouB fo po ph fl fu g.2.1 s.2) (Fy ps s)else 2
abbrev dgR:Value:= .tuple #[.int .i64 (dgV ps fo po ph fl fu g s),.int .i64 (dgE ps fo po ph fl fu g s)]
theorem dg_t(h:Hy g=true):dgR ps fo po ph fl fu g s=dcR ps fo po ph fl fu g s:=by unfold dgR dgV dgE;rw [aO h,aO h]
theorem dg_f(h:Hy g=false):dgR ps fo po ph fl fu g s= .tuple #[.int .i64 0,.int .i64 2]:=by unfold dgR dgV dgE;rw [aF (by rw [h];decide),aF (by rw [h];decide)]
end
abbrev M3T:=Int×Int×Int
abbrev grG (g:GdT) (m:M3T):GdT:=(g.1+m.1,g.2.1+m.2.1,g.2.2+m.2.2)
section
variable {ps:List Zd} {fo:SL} {po:List Zu} {ph:List Ox} {fl fu:Int} {g:GdT} {s:Ly}
theorem Yp4 {m:M3T} (o:∀g∈ps,Gin g) (k:Yg ps=true) (n:Gb po ph fl fu=true) (d:Hy g=true) (hs:Zfe s=true) (I:0<=m.1) (M:0<=m.2.1) (N:0<=m.2.2)
  (l:dcE (ouB fo po ph fl fu g.2.1 s.2) (Fy ps s)=0) (c:dgE ps fo po ph fl fu (grG g m) s=0) :
  ¬dgV ps fo po ph fl fu (grG g m) s>dcV (ouB fo po ph fl fu g.2.1 s.2) (Fy ps s) (Br ps g s) (wiS g s):=by
 by_cases a:Hy (grG g m)=true
 .obtain⟨P,q⟩:=Zbb hs;obtain⟨D,f,F⟩:=Zg6 d;obtain⟨G,j,H⟩:=Zg6 a;have b:=Yod (fo:=fo) (e:=g.2.1) (e':=g.2.1+m.2.1) n q f.1 O1 j.2;have z:=Yhs o k d a hs (by show g.1<=g.1+m.1;omega) (by show g.2.1<=g.2.1+m.2.1;omega);have B:wiS (grG g m) s=true->wiS g s=true:=λh=>by have:=bL h;have this:s.1.2-s.1.1>g.2.2+m.2.2:=this;exact wiS_t O1
  unfold dgE at c;unfold dgV;rw [aO a]at c ⊢;have b:ouB fo po ph fl fu (grG g m).2.1 s.2=true->ouB fo po ph fl fu g.2.1 s.2=true:=b;generalize ouB fo po ph fl fu (grG g m).2.1 s.2=r at *;generalize ouB fo po ph fl fu g.2.1 s.2=u at *;generalize Br ps (grG g m) s=v at *;generalize Br ps g s=w at *;generalize wiS (grG g m) s=x at *;generalize wiS g s=y at *;generalize Fy ps s=oe at *;unfold dcV dcE at *;cases r<;>cases u<;>cases v<;>cases w<;>cases x<;>cases y<;>simp_all
 .unfold dgV;rw [aF a];unfold dcV;intro h;revert h;split
  .decide
  .split
   .decide
   .split
    .decide
    .split<;>decide
theorem Yo3(b:Gb po ph fl fu=true)(c:Hy g=true)(hs:Zfe s=true)(d:Lb p=true)(a:nrB p s.2 g.2.1=true)(hi:Zdd po ph fl fu p=true):¬dcV (ouB fo po ph fl fu g.2.1 s.2) (Fy ps s) (Br ps g s) (wiS g s)=3:=by
 unfold nrB at a;simp only [aP,bO]at a;rw [Yoc b (Zg6 c).2.1 d (Zbb hs).2 hi a.2];unfold dcV;rw [aF bG];split
 .decide
 .split
  .decide
  .split<;>decide
theorem dcV_e{a b w:Bool}{oe:Int}(h:dcE a oe≠0):dcV a oe b w=0:=by
 unfold dcE at h;unfold dcV;split at h
 .exact absurd rfl h
 .rename_i k;rw [aF k,aO h]
end
def OkM(m:M3T)(i:Nat):Prop:=∀j,j<i->0<=([m.1,m.2.1,m.2.2]:List Int).getD j 0/\([m.1,m.2.1,m.2.2]:List Int).getD j 0<=1000
def okM_0{m:M3T} : OkM m 0:=λj h=>absurd h (bJ j)
theorem okM_s{m:M3T}(h:OkM m i)(c:¬([m.1,m.2.1,m.2.2]:List Int).getD i 0<0)(d:¬([m.1,m.2.1,m.2.2]:List Int).getD i 0>1000):OkM m (i+1):=λj b=>by
 rcases aC.1 b with a|a
 .exact h j a
 .subst a;exact⟨O1,O1⟩
def okM_3{m:M3T}(h:OkM m 3):(0<=m.1/\m.1<=1000)/\(0<=m.2.1/\m.2.1<=1000)/\(0<=m.2.2/\m.2.2<=1000):=⟨h 0 O4,h 1 O4,h 2 O4⟩
end Go.Sky
namespace Go.Sky
open Go.Proofs
def Zsh{v:Value}(ps:List Zd)(fo d:SL)(c:List Zu)(b:List Ox)(fl a:Int)(g:GdT)(s:Ly)(f:∀g∈ps,Gin g)(h:Yg ps=true)(e:ps.length<=5)(j:Gb c b fl a=true)(i:Zbo s.1.1 s.1.2=true)(k:Lb s.2=true) :
  Cal Tryz.prog 20 #[v,.agg #[Xa fo,Xa d,.int .i64 fl,.int .i64 a],Zco g,Zdk s] [Xv 6 Pt qG v ps,Yt 3 Yh (Xa fo) c,Xv 1 (Pf (α:=List Zu)) qPg (Xa d) b] false (G:=Unit) (λ_=>True) (λ_=>dgR ps fo c b fl a g s) (λ_=>[]):=by
 cases hg:Hy g with
 | true=>
  rw [dg_t _ _ _ _ _ _ _ _ hg];exact Zbs (v:=v) ps fo d c b fl a g s f h e j hg i k
 | false=>
  rw [dg_f _ _ _ _ _ _ _ _ hg];exact Ze6 v ps fo d c b fl a g s f (by rw [hg,iK,cY,cY])
open Go.Proofs.Tryz
set_option synthInstance.maxHeartbeats 0
set_option synthInstance.maxSize 100000
set_option maxRecDepth 20000
set_option linter.unusedSimpArgs false
def Zxg(v:Value)(ps:List Zd)(fo a:SL)(e:List Zu)(d:List Ox)(fl k:Int)(g:GdT)(s:Ly)(t:Int)(r:Zu)(m:M3T)(l:∀g∈ps,Gin g)(hs:sfB ps e d=false):Xf prog 7 #[v,.agg #[Xa fo,Xa a,.int .i64 fl,.int .i64 k],Zco g,Zdk s,.int .i64 t,Yh r,.agg #[.int .i64 m.1,.int .i64 m.2.1,.int .i64 m.2.2]] [Xv 6 Pt qG v ps,Yt 3 Yh (Xa fo) e,Xv 1 (Pf (α:=List Zu)) qPg (Xa a) d] (.bool true):=by refine Ze func7 ntmps7 λp o n c=>go 2 ?_;refine Zx (Zr 4) λbq _=>Zx (Zr 5) λf _=>Zx (Zr 6) λh _=>Zx (Zr 7) λi _=>Zx (Zr 8) λj _=>go 8 ?_;refine cl 8 [1,2,3] (Zed ps fo a e d fl k) λ_ _=>?_;refine dt (dT (Ym J J) (aH (λb=>Value.bool (!b)) hs))<|go 5 ?_;refine cl 8 [] Ic λ_ _=>go 5 ?_;exact Yv c () results7 J aA Za
def Zxi(v:Value)(ps:List Zd)(fo d:SL)(c:List Zu)(a:List Ox)(fl e:Int)(g:GdT)(s:Ly)(t:Int)(r:Zu)(m:M3T)(n:∀g∈ps,Gin g)(hs:sfB ps c a=true)(l:(Yg ps && (Gb c a fl e && (Hy g && Zfe s)))=false):Xf prog 7 #[v,.agg #[Xa fo,Xa d,.int .i64 fl,.int .i64 e],Zco g,Zdk s,.int .i64 t,Yh r,.agg #[.int .i64 m.1,.int .i64 m.2.1,.int .i64 m.2.2]] [Xv 6 Pt qG v ps,Yt 3 Yh (Xa fo) c,Xv 1 (Pf (α:=List Zu)) qPg (Xa d) a] (.bool true):=by refine Ze func7 ntmps7 λq p o f=>go 2 ?_;refine Zx (Zr 4) λbq _=>Zx (Zr 5) λh _=>Zx (Zr 6) λi _=>Zx (Zr 7) λj _=>Zx (Zr 8) λk _=>go 8 ?_;refine cl 8 [1,2,3] (Zed ps fo d c a fl e) λ_ _=>?_;refine dt (dF (Ym J J) (aH (λb=>Value.bool (!b)) hs))<|go 11 ?_;refine cl 8 [1,2,3] (Ze6 _ ps fo d c a fl e g s n l) λ_ _=>go 11<|kt (aE O4)<|go 6<|kt (aE J)<|go 1 ?_;refine Ln 8 [] Ic λ_ _=>go 6 ?_;exact Yv f () results7 J aA Za
def Zxh(v:Value)(ps:List Zd)(fo e:SL)(c:List Zu)(a:List Ox)(fl d:Int)(g:GdT)(s:Ly)(t:Int)(r:Zu)(m:M3T)(z:∀g∈ps,Gin g)(hs:sfB ps c a=true)(u:Yg ps=true)(x:Gb c a fl d=true)(y:Hy g=true)(f:Zfe s=true)(n:(dcE (ouB fo c a fl d g.2.1 s.2) (Fy ps s))≠0):Xf prog 7 #[v,.agg #[Xa fo,Xa e,.int .i64 fl,.int .i64 d],Zco g,Zdk s,.int .i64 t,Yh r,.agg #[.int .i64 m.1,.int .i64 m.2.1,.int .i64 m.2.2]] [Xv 6 Pt qG v ps,Yt 3 Yh (Xa fo) c,Xv 1 (Pf (α:=List Zu)) qPg (Xa e) a] (.bool true):=by refine Ze func7 ntmps7 λG F D h=>?_;obtain⟨o,p,q⟩:=Zwv hs;obtain⟨w,B⟩:=Zbb f;refine go 2<|Zx (Zr 4) λbq _=>Zx (Zr 5) λi _=>Zx (Zr 6) λj _=>Zx (Zr 7) λk _=>Zx (Zr 8) λl _=>go 8 ?_;refine cl 8 [1,2,3] (Zed ps fo e c a fl d) λ_ _=>?_;refine dt (dF (Ym J J) (aH (λb=>Value.bool (!b)) hs))<|go 11 ?_;refine cl 8 [1,2,3] (Zbs ps fo e c a fl d g s z u O1 x y w B) λ_ _=>go 11<|kt (aE n)<|go 6<|kt (aE (dcV_e n))<|go 1 ?_;refine Ln 8 [] Ic λ_ _=>go 6 ?_;exact Yv h () results7 J aA Za
def Ydt(v:Value)(ps:List Zd)(fo z:SL)(p:List Zu)(o:List Ox)(fl y:Int)(g:GdT)(s:Ly)(t:Int)(r:Zu)(m:M3T)(f:∀g∈ps,Gin g)(hs:sfB ps p o=true)(e:Yg ps=true)(I:Gb p o fl y=true)(B:Hy g=true)(j:Zfe s=true)(he:(dcE (ouB fo p o fl y g.2.1 s.2) (Fy ps s))=0):Xf prog 7 #[v,.agg #[Xa fo,Xa z,.int .i64 fl,.int .i64 y],Zco g,Zdk s,.int .i64 t,Yh r,.agg #[.int .i64 m.1,.int .i64 m.2.1,.int .i64 m.2.2]] [Xv 6 Pt qG v ps,Yt 3 Yh (Xa fo) p,Xv 1 (Pf (α:=List Zu)) qPg (Xa z) o] (.bool true):=by
 refine Ze func7 ntmps7 λw0 sc hw c=>?_;obtain⟨a5,a6,a7⟩:=Zwv hs;obtain⟨S,R⟩:=Zbb j;obtain⟨a8,a9,b0⟩:=Zg6 B;obtain⟨b3,b4,b5,b6⟩:=Yfv f e;have b2:=Yfu f e;refine go 2<|Zx (Zr 4) λbq _=>Zx (Zr 5) λa0 _=>Zx (Zr 6) λa1 _=>Zx (Zr 7) λa2 _=>Zx (Zr 8) λk _=>go 8 ?_;refine cl 8 [1,2,3] (Zed ps fo z p o fl y) λ_ _=>?_;refine dt (dF (Ym J J) (aH (λb=>Value.bool (!b)) hs))<|go 11 ?_;refine cl 8 [1,2,3] (Zbs ps fo z p o fl y g s f e O1 I B S R) λ_ _=>go 11<|kf (aG (λh=>h he))<|go 12<|Zq (Qc 8 (q:=box k 63 (Co ([m.1,m.2.1,m.2.2]:List Int))) J J J) ?_;refine lp (G:=Nat) [0,4,8,9,10,12,13,15] [0,1,2,3,4,5,6,7] (λi=>[(17,.int .i64 (i:Int))]) (λi=>[(8,box k 63 (Co ([m.1,m.2.1,m.2.2]:List Int)))]) (λi=>(i<=3)/\(OkM m i)) (λi=>3-i) 0 ⟨O2,okM_0⟩ K1 K1 ?_;rintro i ⟨hi,ho⟩;refine go 7<|Zb J (λD=>?_) (λD=>?_)
 .have b1:i<3:=O1;refine go 7 ?_;refine dt (Lx i J J J Zm9 Fm J)<|dt (Yl ( .int .i64 (([m.1,m.2.1,m.2.2]:List Int).getD i 0)) (Zhg 8 J J J iA3 (by show 0+i*1<3;omega)) (by rw [bZ,jD]))<|go 2 ?_;refine Zk 58 J (λN=>?_) (λN=>?_)
  .refine go 10 ?_;refine cl 8 [] Ic λ_ _=>go 9 ?_;exact Yv c () results7 J aA Za
  .refine go 1 ?_;refine Hz (Lx i J J J Zm9 Fm J) J J<|Hz (Yl ( .int .i64 (([m.1,m.2.1,m.2.2]:List Int).getD i 0)) (Zhg 8 J J J iA3 (by show 0+i*1<3;omega)) (by rw [bZ,jD])) J J<|go 4 ?_;refine Zb J (λF=>?_) (λF=>?_)
   .refine go 2 ?_;refine cl 8 [] Ic λ_ _=>go 9 ?_;exact Yv c () results7 J aA Za
   .refine go 8 ⟨O1,?_⟩;exact Yj (i+1) ⟨O2,okM_s ho ‹_› ‹_›⟩ O2 K1 K1
 .obtain rfl:i=3:=O1;obtain⟨V,W,Y⟩:=okM_3 ho;refine go 9 ?_;refine dt (Lx 0 J J J Zm9 Fm J O4)<|dt (Yl ( .int .i64 m.1) (Zhg 8 J J J iA3 (by show 0<3;decide)) J)<|go 3 ⟨O1,?_⟩;refine dt (Lx 1 J J J Zm9 Fm J O4)<|dt (Yl ( .int .i64 m.2.1) (Zhg 8 J J J iA3 (by show 1<3;decide)) J)<|go 3 ⟨O1,?_⟩;refine dt (Lx 2 J J J Zm9 Fm J O4)<|dt (Yl ( .int .i64 m.2.2) (Zhg 8 J J J iA3 (by show 2<3;decide)) J)<|go 1 ⟨O1,?_⟩;refine dt (Xr [(0,_),(1,_),(2,_)] J K6 (λa w hs=>Ycd ((Zj J) a w hs) ((Zj J) a w hs) ((Zj J) a w hs)))<|Zx (Zv 9) λa3 _=>go 10 ?_;refine cl 9 [1,2,3] (Zsh ps fo z p o fl y (grG g m) s f e O1 I S R) λ_ _=>go 7 ?_;refine jn (G:=Unit) [0,4,8,9,10,12,15] [0,8,1,2,3,4,5,6,7,9] (λ_=>[(95,.bool false)]) (λ_=>[]) (λ_=>True) ?_ ?_
  .refine go 4<|Zk 91 J (λu=>?_) (λu=>?_)
   .refine go 2<|kfg (aG (Yp4 f e I B j V.1 W.1 Y.1 he u))<|go 2 ?_;exact Fb () aA K1 aA
   .refine go 5 ?_;exact Fb () aA K1 aA
  .rintro _ -;refine go 7 ?_;refine cl 9 [] (Zet r.1 r.2.1 r.2.2) λ_ _=>go 2<|Xw 99 J (λd=>?_) (λd=>?_)
   .refine go 13 ?_;refine cl 9 [] Ic λ_ _=>go 5 ?_;exact Yv c () results7 J aA Za
   .refine go 5 ?_;refine Ln 9 [] (Zuo r s.2 g.2.1 (Qj d) R ⟨O1,O1⟩) λ_ _=>go 4<|Yq J (λl=>?_) (λl=>?_)
    .refine go 2 ?_;refine cl 9 [] Ic λ_ _=>go 5 ?_;exact Yv c () results7 J aA Za
    .have Z:Lb r=true:=Qj d;have hn:=Qj l;refine go 6 ?_;refine cl 9 [2,3] (Zok fo z p o fl y r I Z) λ_ _=>go 8 ?_;refine jn (G:=Unit) [0,4,9,10,12] [0,8,1,2,3,4,5,6,7,9] (λ_=>[(123,.bool false)]) (λ_=>[]) (λ_=>True) ?_ ?_
     .refine go 2<|kt (aE J)<|go 4<|Xw 120 J (λx=>?_) (λx=>?_)
      .refine go 1<|kfg (aG (Yo3 I B j Z hn x))<|go 2 ?_;exact Fb () aA K1 aA
      .refine go 4 ?_;exact Fb () aA K1 aA
     .rintro _ -;refine go 6 ?_;refine cl 9 [1] (Zjl ps f e) λ_ _=>go 13<|kf (aG (λh=>h J))<|go 8<|Zk 139 J (λP=>?_) (λP=>?_)
      .refine go 12<|kt (aE J)<|go 1 ?_;refine Ln 9 [] Ic λ_ _=>go 6 ?_;exact Yv c () results7 J aA Za
      .refine go 8<|Zb J (λH=>?_) (λH=>?_)
       .refine go 3<|kt (aE J)<|go 1 ?_;refine Ln 9 [] Ic λ_ _=>go 6 ?_;exact Yv c () results7 J aA Za
       .have M:Hh ps (min (max t (Ac ps)) (Bi ps))=true:=by unfold Hh;rw [aE O1,aE O1];rfl
        refine go 7 ?_;refine dt (Zbk J J J)<|go 1 ?_;refine dt (Zms J J J)<|cl 9 [1] (sm_at ps (min (max t (Ac ps)) (Bi ps)) f e M) λ_ _=>go 3 ?_;refine Zx (Zv 10) λa4 _=>go 8<|kf (aG (λh=>h J))<|go 13 ⟨O1,?_⟩;refine cl 10 [] (Zuo r (rdP ps (min (max t (Ac ps)) (Bi ps))) (g.1-1) Z (rdN_pt f e M) ⟨O1,O1⟩) λ_ _=>go 2<|Yq J (λn=>?_) (λn=>?_)
        .refine go 5 ?_;refine cl 10 [1] (Yl6 ps g s f e O1 B S R) λ_ _=>go 7 ?_;refine jn (G:=Unit) [] [0,8,1,2,3,4,5,6,7,9,10] (λ_=>[(180,.bool false)]) (λ_=>[]) (λ_=>True) ?_ ?_
         .refine go 4<|Zk 178 J (λQ=>?_) (λQ=>?_)
          .refine kfg (Yhy f e B j O1 O1 hn n)<|go 2 ?_;exact Fb () aA K1 aA
          .refine go 3 ?_;exact Fb () aA K1 aA
         .rintro _ -;refine go 5 ?_;refine cl 10 [] Ic λ_ _=>go 4 ?_;exact Yv c () results7 J aA Za
        .refine go 4 ?_;refine cl 10 [] Ic λ_ _=>go 4 ?_;exact Yv c () results7 J aA Za
def law_ah(v:Value)(ps:List Zd)(fo h:SL)(e:List Zu)(d:List Ox)(fl f a b c:Int)(s:Ly)(t x y z:Int)(m:M3T)(i:∀g∈ps,Gin g) :
  Cal prog 7 #[v,.agg #[Xa fo,Xa h,.int .i64 fl,.int .i64 f],.agg #[.int .i64 a,.int .i64 b,.int .i64 c],Zdk s,.int .i64 t,.agg #[.int .i64 x,.int .i64 y,.int .i64 z],.agg #[.int .i64 m.1,.int .i64 m.2.1,.int .i64 m.2.2]] [Xv 6 Pt qG v ps,Yt 3 Yh (Xa fo) e,Xv 1 (Pf (α:=List Zu)) qPg (Xa h) d] false (G:=Unit) (λ_=>True) (λ_=> .bool true) (λ_=>[]):=by
 cases hs:sfB ps e d with
 | false=>exact Zxg v ps fo h e d fl f (a,b,c) s t (x,y,z) m i hs
 | true=>
  cases hf:(Yg ps && (Gb e d fl f && (Hy (a,b,c) && Zfe s)))with
  | false=>exact Zxi v ps fo h e d fl f (a,b,c) s t (x,y,z) m i hs hf
  | true=>
   simp only [aP]at hf;by_cases j:dcE (ouB fo e d fl f b s.2) (Fy ps s)=0
   .exact Ydt v ps fo h e d fl f (a,b,c) s t (x,y,z) m i hs hf.1 hf.2.1 hf.2.2.1 hf.2.2.2 j
   .exact Zxh v ps fo h e d fl f (a,b,c) s t (x,y,z) m i hs hf.1 hf.2.1 hf.2.2.1 hf.2.2.2 j
end Go.Sky
namespace Go.Proofs.YthennaflbbajkaaGreat
open Go.ChangeShapes Go.WideShapes Go.ChangeAt Go.RowKit Go.Joins Go.Deep Go.Sky
def own:ownKnob Tryz.prog.godebug=none:=O7
def Zb9:laidOutB Tryz.prog=true:=O7
set_option maxRecDepth 100000 in
def lifted(os:Os)(g:os.Started)(H:Type)(enc:TypeId×Value->H) :
  ReturnsInHanded {} Tryz.checked os 7 .any (Rows.abortHoldsSpec.pre6 enc Tryz.prog Tryz.f7 Rows.abortHoldsRow.domain false) (Rows.abortHoldsSpec.post enc Tryz.prog Tryz.f7 false true false false):=by
 refine returnsInHanded_of_change (C:=Tryz.checked) own g O7 Tryz.func7
  (ChangeSpec.witness6 (enc:=enc) (C:=Tryz.checked) false ⟨#[],#[.slice none 0 0,.agg #[.slice none 0 0,.slice none 0 0,.int .i64 0,.int .i64 0],.agg #[.int .i64 0,.int .i64 0,.int .i64 0],.agg #[.int .i64 0,.int .i64 0,.int .i64 0,.int .i64 0,.int .i64 0],.int .i64 0,.agg #[.int .i64 0,.int .i64 0,.int .i64 0],.agg #[.int .i64 0,.int .i64 0,.int .i64 0]],[]⟩ 8 O7 O7 O7 O7) ?_
 intro W base c ds gs o f hW b0 _;have a:∀(j:Nat) t v,Tryz.f7.params[j]? = some t->c[j]? = some v->Value.okWide Tryz.prog W .any base t v:=f;have I:=hW;obtain⟨p,q,k,hV,rfl,b8,b9⟩:=hW;have hA:DataW.TrodAll enc Tryz.prog W 0 (λ_=>true) true Tryz.f7.params.toList c.toList ds p:=k;rw [Tryz.params7]at hA a;obtain⟨v0,c0,d0,b1,p0,q0,M,rfl,rfl,y,r0⟩:=trodAll_cons hA;obtain⟨v1,c1,d1,b2,p1,q1,rfl,rfl,rfl,z,r1⟩:=trodAll_cons r0;obtain⟨v2,c2,d2,b3,p2,q2,rfl,rfl,rfl,B,r2⟩:=trodAll_cons r1;obtain⟨v3,c3,d3,b4,p3,q3,rfl,rfl,rfl,D,r3⟩:=trodAll_cons r2;obtain⟨v4,c4,d4,b5,p4,q4,rfl,rfl,rfl,h4,r4⟩:=trodAll_cons r3;obtain⟨v5,c5,d5,b6,p5,q5,rfl,rfl,rfl,F,r5⟩:=trodAll_cons r4;obtain⟨v6,c6,d6,b7,p6,q6,rfl,rfl,rfl,G,r6⟩:=trodAll_cons r5;obtain⟨rfl,rfl,rfl⟩:=trodAll_nil r6;obtain rfl:c=#[v0,v1,v2,v3,v4,v5,v6]:=by cases c;simp_all
 obtain⟨rfl,rfl⟩:=trodVars_none hV;have Q:∀x∈p0,x.block<W.heap.size:=by obtain⟨m,d⟩:=y;exact DataW.trod_lt m _ _ _ d
 obtain⟨l0,N,P⟩:=Ydd Tryz.underlying31 Tryz.underlying101 rfl rfl rfl rfl rfl rfl rfl rfl rfl rfl rfl rfl Tryz.underlying3 Tryz.underlying99 Tryz.underlying3 O7 O7 O7 O7 (a 0 31 v0 rfl rfl) y;have R:∀x∈p1,x.block<W.heap.size:=by obtain⟨m,d⟩:=z;exact DataW.trod_lt m _ _ _ d
 obtain⟨u,r,a2,a1,s,w,rfl,n,l⟩:=Zw8 Tryz.underlying40 O7 rfl rfl rfl rfl rfl rfl rfl rfl Tryz.underlying38 Tryz.underlying37 O7 O7 Tryz.underlying23 O7 rfl rfl rfl rfl rfl rfl Tryz.underlying3 O7 (a 1 (40) v1 rfl rfl) z;have S:∀x∈p2,x.block<W.heap.size:=by obtain⟨m,d⟩:=B;exact DataW.trod_lt m _ _ _ d
 obtain⟨a4,a6,a8,rfl,-,-,-⟩:=Zll Tryz.underlying42 O7 rfl rfl rfl rfl rfl rfl Tryz.underlying3 O7 (a 2 (42) v2 rfl rfl) B;have lt3:∀x∈p3,x.block<W.heap.size:=by obtain⟨m,d⟩:=D;exact DataW.trod_lt m _ _ _ d
 obtain⟨a3,rfl⟩:=Zw7 Tryz.underlying52 O7 rfl rfl rfl rfl O7 O7 Tryz.underlying50 rfl rfl rfl rfl Tryz.underlying23 rfl rfl rfl rfl rfl rfl Tryz.underlying3 O7 (a 3 (52) v3 rfl rfl) D;have V:∀x∈p4,x.block<W.heap.size:=by obtain⟨m,d⟩:=h4;exact DataW.trod_lt m _ _ _ d
 obtain⟨n4,rfl⟩:=okWide_int Tryz.underlying3 (a 4 3 v4 rfl rfl);have Y:∀x∈p5,x.block<W.heap.size:=by obtain⟨m,d⟩:=F;exact DataW.trod_lt m _ _ _ d
 obtain⟨a5,a7,a9,rfl,-,-,-⟩:=Zll Tryz.underlying23 O7 rfl rfl rfl rfl rfl rfl Tryz.underlying3 O7 (a 5 (23) v5 rfl rfl) F;have Z:∀x∈p6,x.block<W.heap.size:=by obtain⟨m,d⟩:=G;exact DataW.trod_lt m _ _ _ d
 obtain⟨a0,rfl⟩:=Yde Tryz.underlying63 O7 Tryz.underlying3 O7 (a 6 (63) v6 rfl rfl) G;clear k f;refine(law_ah v0 l0 u r a2 a1 s w a4 a6 a8 a3 n4 a5 a7 a9 a0 P W (λp i=>by cases i with|head=>exact N|tail _ i=>cases i with|head=>exact n|tail _ i=>cases i with|head=>exact l|tail _ i=>cases i)).mono λe W' ⟨_,he,_,b,_⟩=>?_;subst he;exact⟨_,rfl,_,_,_,[],_,[],I,trodAll_mk1 (shut_bool Tryz.underlying4 _),(trodAll_cons_mk (Below.trod Zb9 O7 (bL O7) y b Q) (trodAll_cons_mk (Below.trod Zb9 O7 (bL O7) z b R) (trodAll_cons_mk (Below.trod Zb9 O7 (bL O7) B b S) (trodAll_cons_mk (Below.trod Zb9 O7 (bL O7) D b lt3) (trodAll_cons_mk (Below.trod Zb9 O7 (bL O7) h4 b V) (trodAll_cons_mk (Below.trod Zb9 O7 (bL O7) F b Y) (trodAll_cons_mk (Below.trod Zb9 O7 (bL O7) G b Z) trodAll_mk0))))))),rfl,b.frame _,λh=>by cases h⟩
theorem x_holds : Rows.AbortHoldsSaid :=
 OpenClaim.holds_of_wide 7 Tryz.f7 rfl rfl rfl rfl rfl rfl rfl ⟨rfl,rfl,rfl,rfl,rfl⟩ rfl rfl rfl rfl rfl O7 Tryz.func7 closed
  (bL O7) (by unfold Func.isWrapper;first|(rw [aO O9];kernel_rfl)|(rw [aF O9];exact⟨rfl,rfl⟩))
  (λos started H enc _=>lifted os started H enc)
#print axioms x_holds
end Go.Proofs.YthennaflbbajkaaGreat

