/- Rules, arithmetic and contracts: part 13. No conditions but those that each theorem names. -/
import Derived.Test.YthennaflbbajkaaGreatAk11
import Derived.Laws.IdiomArrays
set_option linter.all false
set_option maxHeartbeats 4000000
namespace Go.Sky
variable{lo a z:Int}{rs:List Ox}
def wiB(n lo hi:Int):Bool:=decide (lo<=n) && decide (n<=hi)
theorem wiB_t{n hi:Int}(h:lo<=n):wiB n lo hi=decide (n<=hi):=by unfold wiB;rw [aE h];rfl
theorem wiB_f{n hi:Int}(h:¬lo<=n):wiB n lo hi=false:=by unfold wiB;rw [aG h];rfl
theorem Zsp{n hi:Int}(h:wiB n lo hi=true):lo<=n/\n<=hi:=by unfold wiB at h;simpa using h
abbrev GdT:=Int×Int×Int
abbrev Zco (g:GdT):Value:= .agg #[.int .i64 g.1,.int .i64 g.2.1,.int .i64 g.2.2]
def Hy(g:GdT):Bool:=wiB g.1 0 100000 && (wiB g.2.1 0 100000 && wiB g.2.2 0 3600000)
theorem Yi2{g:GdT}(h:wiB g.1 0 100000=false):Hy g=false:=by unfold Hy;rw [h];rfl
theorem Yi1{g:GdT}(h:wiB g.2.1 0 100000=false):Hy g=false:=by unfold Hy;rw [h];simp
theorem Yi0{g:GdT}(h:wiB g.1 0 100000=true)(b:wiB g.2.1 0 100000=true):Hy g=wiB g.2.2 0 3600000:=by unfold Hy;rw [h,b];rfl
theorem Zg6{g:GdT}(h:Hy g=true):(0<=g.1/\g.1<=100000)/\(0<=g.2.1/\g.2.1<=100000)/\(0<=g.2.2/\g.2.2<=3600000):=by unfold Hy at h;simp only [aP]at h;exact⟨Zsp h.1,Zsp h.2.1,Zsp h.2.2⟩
def Zbo(lo hi:Int):Bool:=wiB lo (-1073741824) hi && decide (hi<=1073741824)
theorem bds_1{hi:Int}(h:wiB lo (-1073741824) hi=false):Zbo lo hi=false:=by unfold Zbo;rw [h];rfl
theorem bds_2{hi:Int}(h:wiB lo (-1073741824) hi=true):Zbo lo hi=decide (hi<=1073741824):=by unfold Zbo;rw [h];rfl
theorem Ycc{hi:Int}(h:Zbo lo hi=true):-1073741824<=lo/\lo<=hi/\hi<=1073741824:=by unfold Zbo at h;simp only [aP,bO]at h;exact⟨(Zsp h.1).1,(Zsp h.1).2,h.2⟩
def wnF(a z lo hi:Int):Int:=min (max lo a) z
def wnP(a z lo hi:Int):Int×Int:=if min (max lo a) z=min (max hi a) z then(if min (max hi a) z<z then(min (max lo a) z,min (max hi a) z+1)else(min (max lo a) z-1,min (max hi a) z))else(min (max lo a) z,min (max hi a) z)
abbrev wnV (w:Int×Int):Value:= .tuple #[.int .i64 w.1,.int .i64 w.2,.int .i64 0]
theorem Yev{hi:Int}(h:min (max lo a) z=min (max hi a) z)(b:min (max hi a) z<z):wnP a z lo hi=(min (max lo a) z,min (max hi a) z+1):=by unfold wnP;rw [aO h,aO b]
theorem Yeu{hi:Int}(h:min (max lo a) z=min (max hi a) z)(b:¬min (max hi a) z<z):wnP a z lo hi=(min (max lo a) z-1,min (max hi a) z):=by unfold wnP;rw [aO h,aF b]
theorem Yet{hi:Int}(h:¬min (max lo a) z=min (max hi a) z):wnP a z lo hi=(min (max lo a) z,min (max hi a) z):=by unfold wnP;rw [aF h]
theorem wn_ok{hi:Int}(h:a<z)(d:lo<=hi):a<=(wnP a z lo hi).1/\(wnP a z lo hi).1<(wnP a z lo hi).2/\(wnP a z lo hi).2<=z:=by
 by_cases b:min (max lo a) z=min (max hi a) z
 .by_cases c:min (max hi a) z<z
  .rw [Yev b c];dsimp only;omega
  .rw [Yeu b c];dsimp only;omega
 .rw [Yet b];dsimp only;omega
abbrev qLo (lo:Int) (q:Zu):Zu:=(q.1,q.2.1,lo)
abbrev rsF (fo:SL) (c:List Zu) (b:List Ox):List Ox:=(fo,c)::b
def d2A(fo:SL)(c:List Zu)(b:List Ox)(q:Zu):Int×Int:=d2F q (Ho ((fo,c)::b) ((fo,c)::b).length)
def ouN(d:Int×Int)(e:Int):Bool:=decide ((d.1*Hd (e*e) 1-Fe (e*e) 1*d.2).sign>0)
def ouB(fo:SL)(d:List Zu)(c:List Ox)(fl b:Int)(e:Int)(q:Zu):Bool:=
 if q.2.2<fl-e\/q.2.2>b+e then true else if Zdd d c fl b (qLo fl q)=true then false else ouN (d2A fo d c (qLo fl q)) e
section
variable {fo:SL} {po:List Zu} {ph:List Ox} {fl fu e:Int} {q:Zu}
theorem Yhg(h:q.2.2<fl-e):ouB fo po ph fl fu e q=true:=by unfold ouB;rw [aO (.inl h)]
theorem Yhf(h:q.2.2>fu+e):ouB fo po ph fl fu e q=true:=by unfold ouB;rw [aO (.inr h)]
theorem Ydc(b:¬q.2.2<fl-e)(c:¬q.2.2>fu+e)(h:Zdd po ph fl fu (qLo fl q)=true):ouB fo po ph fl fu e q=false:=by unfold ouB;rw [aF O1,aO h]
theorem Ydb(b:¬q.2.2<fl-e)(c:¬q.2.2>fu+e)(h:Zdd po ph fl fu (qLo fl q)=false):ouB fo po ph fl fu e q=ouN (d2A fo po ph (qLo fl q)) e:=by unfold ouB;rw [aF O1,aF (by rw [h];exact bG)]
theorem Yp7{p:Zu}{n:Nat}(d:Lb p=true)(b:∀z∈rs,Ij z.2=true)(c:n<=rs.length):∀k,k<(Ho rs n).length->0<(d2F p ((Ho rs n).take (k+1))).2:=λk l=>by
 have h:=aL l;obtain⟨f,g⟩:=Zsf b c h;rw [Zvo h];have m:=Zvp d b c k;obtain⟨-,-,i⟩:=Ybi (d2b f g d);unfold mnq;split
 .exact i
 .rename_i j;rcases qin_c m with h|h
  .exact absurd (.inl h) j
  .exact h
theorem Yq8(c:∀z∈rs,Ij z.2=true){n:Nat}(b:0<n)(j:n<=rs.length):0<(Ho rs n).length:=by
 obtain⟨t,f⟩:=Zwa rs (show 1<=n from b);have g:=(Kr (c _ (Zg (d:=Kc) (show 0<rs.length by omega)))).1;have h:=Zwb rs 0;have i:(rgE rs 0).length=(rs.getD 0 Kc).2.length:=by unfold rgE;rw [Ee,Zz7]
 rw [f,cM];show 0<(Ho rs (0+1)).length+_;omega
theorem Zuz(b:Gb po ph fl fu=true):∀z∈((fo,po)::ph:List Ox),Ij z.2=true:=λz c=>by
 rcases aW.1 c with rfl|h
 .exact(Cl b).1
 .exact Zjw b z h
theorem Ykn(h:Gb po ph fl fu=true)(f:Lb q=true):bl (d2A fo po ph q).1.natAbs<=88/\bl (d2A fo po ph q).2.natAbs<=44/\0<(d2A fo po ph q).2:=by have d:=Zuz (fo:=fo) h;have g:=Yq8 d (n:=((fo,po)::ph:List Ox).length) O8 (aI _);have b:=Zvp f d (aI _) (Ho ((fo,po)::ph) ((fo,po)::ph:List Ox).length).length;have c:=Yp7 f d (aI _) ((Ho ((fo,po)::ph) ((fo,po)::ph:List Ox).length).length-1) O1;rw [mU g]at c;rw [cK]at b c;exact⟨b.n,b.d,c⟩
theorem Zw4(b:Gb po ph fl fu=true)(c:Lb q=true):Lb (qLo fl q)=true:=by obtain⟨d,f,g⟩:=Za6 c;obtain⟨-,h,-⟩:=Cl b;show ptB q.1 q.2.1 fl=true;unfold ptB Zjc;simp;omega
theorem ee_b(h:0<=e/\e<=100000):0<=e*e/\e*e<=10000000000:=by
 have b:e.natAbs<=100000:=O1;have c:(e*e).natAbs<=100000*100000:=by rw [bR];exact aU b b
 have d:0<=e*e:=aS h.1 h.1;omega
theorem Yd5(h:0<=e/\e<=100000):Fe (e*e) 1=e*e/\Hd (e*e) 1=1:=by have:=ee_b h;exact rn_one ⟨O1,O1⟩
end
abbrev Ly:=(Int×Int)×Zu
abbrev Zdk (s:Ly):Value:= .agg #[.int .i64 s.1.1,.int .i64 s.1.2,.int .i64 s.2.1,.int .i64 s.2.2.1,.int .i64 s.2.2.2]
def Zfe(s:Ly):Bool:=Zbo s.1.1 s.1.2 && Lb s.2
def nrB(a b:Zu)(m:Int):Bool:=decide (0<=m) && decide (d2V a.1 a.2.1 a.2.2 b.1 b.2.1 b.2.2<=m*m)
theorem nr_t{a b:Zu}{m:Int}(h:m>=0):nrB a b m=decide (d2V a.1 a.2.1 a.2.2 b.1 b.2.1 b.2.2<=m*m):=by unfold nrB;rw [aE h];rfl
theorem nr_f{a b:Zu}{m:Int}(h:¬m>=0):nrB a b m=false:=by unfold nrB;rw [aG h];rfl
theorem mulM{m:Int}(h:-1<=m/\m<=100000):-10000000000<=m*m/\m*m<=10000000000:=by
 have b:m.natAbs<=100000:=O1;have c:(m*m).natAbs<=100000*100000:=by rw [bR];exact aU b b
 omega
end Go.Sky
namespace Go.Sky
def nul(g:Zd):Zd:=(g.1,((none,0,0),g.2.1.2),((none,0,0),g.2.2.1.2),((none,0,0),g.2.2.2.2))
def Zp8{ps b:List Zd}(h:ps.map Ei=b.map Ei):ps.map nul=b.map nul:=by
 have a:∀l:List Zd,l.map nul=(l.map Ei).map λu=>(u.1,((none,0,0),u.2.1),((none,0,0),u.2.2.1),((none,0,0),u.2.2.2)):=λl=>by rw [gO];rfl
 rw [a,a,h]
def Zp9{p:Zd->Bool}(a:∀g,p (nul g)=p g)(ps:List Zd):(ps.map nul).filter p=(ps.filter p).map nul:=by rw [List.filter_map];congr 1;exact aH (λq=>List.filter q ps) (funext a)
def nul_F(ps:List Zd):Ac (ps.map nul)=Ac ps:=by unfold Ac;cases ps<;>rfl
def nul_L(ps:List Zd):Bi (ps.map nul)=Bi ps:=by unfold Bi;rw [bM,aJ,aJ,fD];cases ps[ps.length-1]?<;>rfl
def Zlp(fr to:Int)(ps:List Zd):Qu fr to (ps.map nul)=Qu fr to ps:=by unfold Qu;rw [Zp9 (λ_=>rfl),List.all_map];rfl
def Yhv(fr to:Int)(ps:List Zd):Gy fr to (ps.map nul)=Gy fr to ps:=by unfold Gy;rw [Zlp,Zp9 (λ_=>rfl),gO];rfl
def Yol(fr to:Int)(ps:List Zd):inn fr to (ps.map nul)=inn fr to ps:=by unfold inn;rw [Zp9 (λ_=>rfl),gO];rfl
def Yab(a b:List Zd):Lg (a.map nul) (b.map nul)=Lg a b:=by unfold Lg Ze9 Ag Af;simp only [nul_F,nul_L,Yol]
def Zlq(a:List Int)(ps:List Zd):∀n,Zcs a (ps.map nul) n=Zcs a ps n
 | 0=>rfl
 | n+1=>by simp only [Zcs,Zlq a ps n,Yhv]
def Zn8(c:List Int)(a b:List Zd):∀n,Fc c (a.map nul) (b.map nul) n=Fc c a b n
 | 0=>rfl
 | n+1=>by simp only [Fc,Zn8 c a b n,Zlp]
def Zt7(a b:List Zd):Bg (a.map nul) (b.map nul)=Bg a b:=by unfold Bg Zx9 Ag Af;rw [Yab,Zn8];simp only [nul_F,nul_L]
def Zlo(a b:List Zd):Ga (a.map nul) (b.map nul)=Ga a b:=by unfold Ga;rw [Zt7]
def Yhu(D n d:Int)(a b:List Zd):Ie D n d (a.map nul) (b.map nul)=Ie D n d a b:=by unfold Ie Lt;rw [Zt7,Yab,Zlq,Zlq]
def Yac(D n d:Int)(a b:List Zd):apZ D n d (a.map nul) (b.map nul)=apZ D n d a b:=by unfold apZ;rw [Zlo,Yhu]
def apZ_un{D n d:Int}{a a' b c:List Zd}(e:a.map Ei=a'.map Ei)(f:b.map Ei=c.map Ei):apZ D n d a b=apZ D n d a' c:=by rw [<-Yac D n d a b,<-Yac D n d a' c,Zp8 e,Zp8 f]
def Ypj{a a' b c:List Zd}(d:a.map Ei=a'.map Ei)(e:b.map Ei=c.map Ei):Ga a b=Ga a' c:=by rw [<-Zlo a b,<-Zlo a' c,Zp8 d,Zp8 e]
def Yi6{a b:Int}(e:-1048576<=a/\a<=1048576)(g:-1048576<=b/\b<=1048576)(k:Int):∀x∈Bl a b (rwK k),La x:=by
 intro x c;unfold Bl at c;rcases aW.1 c with rfl|c
 .exact⟨O1,O1⟩
 .split at c
  .cases c
  .obtain⟨f,d,rfl⟩:=dP.1 c;have:=Zzo f d;have:=Zlv f (b-a) ⟨O1,O1⟩ ⟨O1,O1⟩;exact⟨O1,O1⟩
def gl_gin{a b c e d f fr to k:Int}(j:ptB a b c=true)(l:ptB e d f=true)(p:0<=fr)(q:fr<to)(s:to<=3600000)(r:SL×SL×SL):Gin (glG a b c e d f fr to k r):=by obtain⟨g,h,i⟩:=Za6 j;obtain⟨m,n,o⟩:=Za6 l;exact⟨show La fr from⟨O1,O1⟩,show La to from⟨O1,O1⟩,show La (1:Int)from⟨O4,O4⟩,Yi6 g m k,Yi6 h n k,Yi6 i o k⟩
def Zqv{a b c e d f fr to k:Int}(l:ptB a b c=true)(m:ptB e d f=true)(h:0<=fr)(i:fr<to)(j:to<=3600000)(r:SL×SL×SL):∀g∈[glG a b c e d f fr to k r],Gin g:=λg n=>by rw [cE.1 n];exact gl_gin l m h i j r
section
variable {ax ay az bx b2 bz:Int} {D s a T:Nat} (ha:ptB ax ay az=true) (hb:ptB bx b2 bz=true) (hT:1<=T/\T<=3600000)
include ha hb hT
end
end Go.Sky
namespace Go.Sky
section
variable {ax ay az fr to:Int} (ha:ptB ax ay az=true) (h0:0<=fr) (h1:fr<to) (h2:to<=3600000) (r:SL×SL×SL)
include ha h0 h1 h2
theorem hv_seB:seB (glG ax ay az ax ay az fr to 0 r)=true:=by
 obtain⟨a,b,c⟩:=Za6 ha;have e:∀x,Bl x x (rwK 0)=glC x x:=λx=>by rw [Yi7];unfold Bl;rw [aO rfl]
 unfold seB Za4 Zwl glG;dsimp only;rw [e,e,e,Zxp a a,Zxp b b,Zxp c c,Yi9];simp;omega
theorem Zqt:Yg [glG ax ay az ax ay az fr to 0 r]=true:=by have h:Zem [glG ax ay az ax ay az fr to 0 r] 0=true:=Zw9 (hv_seB ha h0 h1 h2 r) rfl;unfold Yg;simp [h]
end
def lft(u:Zck):Zd:=(u.1,((none,0,0),u.2.1),((none,0,0),u.2.2.1),((none,0,0),u.2.2.2))
theorem Zxe(a:List Zck):(a.map lft).map Ei=a:=by rw [gO];exact mB _
abbrev sl0:SL×SL×SL:=((none,0,0),(none,0,0),(none,0,0))
def Fg(ps:List Zd)(w:Int×Int):List Zd:=(Gy w.1 w.2 ps).map lft
def Il(q:Zu)(w:Int×Int):List Zd:=[glG q.1 q.2.1 q.2.2 q.1 q.2.1 q.2.2 w.1 w.2 0 sl0]
abbrev Xi (ps:List Zd) (s:Ly):Int×Int:=wnP (Ac ps) (Bi ps) s.1.1 s.1.2
def Fy(ps:List Zd)(s:Ly):Int:=if Zci (Xi ps s).1 (Xi ps s).2 ps=0 then(if Ga (Fg ps (Xi ps s)) (Il s.2 (Xi ps s))=0 then 0 else 7)else 7
def Br(ps:List Zd)(g:GdT)(s:Ly):Bool:=decide (Zci (Xi ps s).1 (Xi ps s).2 ps=0) && apZ (g.1+g.2.1+1) 1 1 (Fg ps (Xi ps s)) (Il s.2 (Xi ps s))
section
variable {ps qs hs:List Zd} {g:GdT} {s:Ly} {r:SL×SL×SL}
theorem Yaa(h:Zci (Xi ps s).1 (Xi ps s).2 ps≠0):Fy ps s=7/\Br ps g s=false:=by unfold Fy Br;rw [aF h,aG h];exact⟨rfl,rfl⟩
theorem off_un(a:qs.map Ei=Gy (Xi ps s).1 (Xi ps s).2 ps)(r:SL×SL×SL) :
  Ga qs [glG s.2.1 s.2.2.1 s.2.2.2 s.2.1 s.2.2.1 s.2.2.2 (Xi ps s).1 (Xi ps s).2 0 r]=Ga (Fg ps (Xi ps s)) (Il s.2 (Xi ps s))/\
  apZ (g.1+g.2.1+1) 1 1 qs [glG s.2.1 s.2.2.1 s.2.2.2 s.2.1 s.2.2.1 s.2.2.2 (Xi ps s).1 (Xi ps s).2 0 r]=apZ (g.1+g.2.1+1) 1 1 (Fg ps (Xi ps s)) (Il s.2 (Xi ps s)):=by
 have h1:qs.map Ei=(Fg ps (Xi ps s)).map Ei:=by unfold Fg;rw [Zxe,a]
 exact⟨Ypj h1 rfl,apZ_un h1 rfl⟩
theorem Yht(h:Zci (Xi ps s).1 (Xi ps s).2 ps=0)(h2:Ga (Fg ps (Xi ps s)) (Il s.2 (Xi ps s))≠0):Fy ps s=7/\Br ps g s=false:=by unfold Fy Br;rw [aO h,aF h2,ap_f h2,cY];exact⟨rfl,rfl⟩
theorem Yhr(h:Zci (Xi ps s).1 (Xi ps s).2 ps=0)(h2:Ga (Fg ps (Xi ps s)) (Il s.2 (Xi ps s))=0):Fy ps s=0/\Br ps g s=apZ (g.1+g.2.1+1) 1 1 (Fg ps (Xi ps s)) (Il s.2 (Xi ps s)):=by unfold Fy Br;rw [aO h,aO h2,aE h,eV];exact⟨rfl,rfl⟩
end
theorem Yfu{ps:List Zd}(b:∀g∈ps,Gin g)(a:Yg ps=true):Ac ps<Bi ps:=by have h0:0<ps.length:=(Xb a).2.1;obtain⟨h1,h2⟩:=Zz5 b a h0;have c:ps.getD 0 G0∈ps:=Zg h0;have s:=Oo (b _ c) ((Ez b a).2.1 _ c);have:=s.t2;omega
structure OffH (ps:List Zd) (s:Ly):Prop where
 r:Ac ps<=(Xi ps s).1/\(Xi ps s).1<(Xi ps s).2/\(Xi ps s).2<=Bi ps
 b:0<=(Xi ps s).1/\(Xi ps s).2<=3600000
theorem offH{ps:List Zd}{s:Ly}(c:∀g∈ps,Gin g)(b:Yg ps=true)(f:Zbo s.1.1 s.1.2=true):OffH ps s:=by obtain⟨h1,h2,h⟩:=Ycc f;have a:=wn_ok (Yfu c b) h2;obtain⟨d,i,j,e⟩:=Yfv c b;exact⟨a,jK d a.1,jK a.2.2 e⟩
theorem hv_glv{ps:List Zd}{s:Ly}(a:Lb s.2=true)(h:OffH ps s):Zfn s.2.1 s.2.2.1 s.2.2.2 s.2.1 s.2.2.1 s.2.2.2 (Xi ps s).1 (Xi ps s).2=true:=by rw [Zof a a h.b.1 h.r.2.1];exact aE h.b.2
theorem Zp6{ps qs:List Zd}{s:Ly}(b:∀g∈ps,Gin g)(a:Yg ps=true)(h:OffH ps s)(h0:Zci (Xi ps s).1 (Xi ps s).2 ps=0)(c:qs.map Ei=Gy (Xi ps s).1 (Xi ps s).2 ps):Pat (Xi ps s).1 (Xi ps s).2 ps qs:=by
 refine lh_pat b a h.r ?_ c;unfold Zci at h0;split at h0
 .assumption
 .cases h0
theorem Yoj{fr to:Int}{ps qs:List Zd}(a:ps.length<=5)(h:Pat fr to ps qs):qs.length<=5:=by rw [h.len];exact aB (gT ..) a
end Go.Sky
namespace Go.Sky
def s7(g:Zd):Bool:=decide (g.2.1.2.length<=7) && decide (g.2.2.1.2.length<=7) && decide (g.2.2.2.2.length<=7)
def sf5(ps:List Zd):Bool:=(List.range ps.length).all λi=>decide (4<i) || s7 (ps.getD i G0)
def sfH(a:List Ox):Bool:=decide (a.length=0) || decide ((a.getD 0 Kc).2.length<=8)
def sfB(ps:List Zd)(b:List Zu)(a:List Ox):Bool:=sf5 ps && (decide (ps.length<=4) && (decide (b.length<=8) && (decide (a.length<=1) && sfH a)))
def s7_t{g:Zd}(a:g.2.1.2.length<=7)(b:g.2.2.1.2.length<=7)(c:g.2.2.2.2.length<=7):s7 g=true:=by unfold s7;rw [aE a,aE b,aE c];rfl
def s7_f{g:Zd}(h:¬(g.2.1.2.length<=7/\g.2.2.1.2.length<=7/\g.2.2.2.2.length<=7)):s7 g=false:=by
 cases hb:s7 g with
 | false=>rfl
 | true=>
  unfold s7 at hb;simp only [aP,bO]at hb;exact absurd ⟨hb.1.1,hb.1.2,hb.2⟩ h
def sf_f (ps:List Zd)(i:Nat){b:List Zu}{a:List Ox}(hi:i<ps.length)(c:i<=4)(h:s7 (ps.getD i G0)=false):sfB ps b a=false:=by have:sf5 ps=false:=eK.2 ⟨i,cF.2 hi,by rw [h,aG O1];decide⟩;unfold sfB;rw [this];rfl
def sf_e{ps:List Zd}{b:List Zu}{a:List Ox}{n:Nat}(c:n=ps.length\/4<n)(h:∀k,k<n->s7 (ps.getD k G0)=true):sfB ps b a=(decide (ps.length<=4) && (decide (b.length<=8) && (decide (a.length<=1) && sfH a))):=by
 unfold sfB;rw [show sf5 ps=true from bC.2 λi hi=>by
  have hi:=cF.1 hi;rcases bA 4 i with q|q
  .rw [aE q];rfl
  .rw [h i O1,nE]]
 rfl
def Zwv{ps:List Zd}{b:List Zu}{a:List Ox}(h:sfB ps b a=true):ps.length<=4/\b.length<=8/\a.length<=1:=by unfold sfB at h;simp only [aP,bO]at h;exact⟨h.2.1,h.2.2.1,h.2.2.2.1⟩
def sfH_0{a:List Ox}(h:a.length=0):sfH a=true:=by unfold sfH;rw [aE h];rfl
def sfH_1{a:List Ox}(h:¬a.length=0):sfH a=decide ((a.getD 0 Kc).2.length<=8):=by unfold sfH;rw [aG h];rfl
section
variable {ps:List Zd} {po:List Zu} {ph:List Ox} {n:Nat}
theorem Zew(b:n=ps.length\/4<n)(h:∀k,k<n->s7 (ps.getD k G0)=true)(a:¬(ps.length<=4/\po.length<=8/\ph.length<=1)):sfB ps po ph=false:=by
 cases hb:sfB ps po ph with
 | false=>rfl
 | true=>exact absurd (Zwv hb) a
theorem Zne(c:n=ps.length\/4<n)(h:∀k,k<n->s7 (ps.getD k G0)=true)(a:ps.length<=4/\po.length<=8/\ph.length<=1)(b:ph.length=0):sfB ps po ph=true:=by rw [sf_e c h,sfH_0 b,aE a.1,aE a.2.1,aE a.2.2];rfl
theorem Znd(c:n=ps.length\/4<n)(h:∀k,k<n->s7 (ps.getD k G0)=true)(a:ps.length<=4/\po.length<=8/\ph.length<=1)(b:ph.length≠0):sfB ps po ph=decide ((ph.getD 0 Kc).2.length<=8):=by rw [sf_e c h,sfH_1 b,aE a.1,aE a.2.1,aE a.2.2];rfl
end
def dcE(a:Bool)(oe:Int):Int:=if a=true then 0 else oe
def dcV(a:Bool)(oe:Int)(b w:Bool):Int:=if a=true then 3 else if oe≠0 then 0 else if b=true then 2 else if w=true then 1 else 0
theorem dc_2{oe:Int}(a w:Bool)(h:oe≠0):dcV false oe a w=0/\dcE false oe=oe:=by unfold dcV dcE;exact⟨by rw [aF bG,aO h],aF bG⟩
theorem dc_3{oe:Int}(w:Bool)(h:¬oe≠0):dcV false oe true w=2/\dcE false oe=0:=by unfold dcV dcE;exact⟨by rw [aF bG,aF h,aO rfl],by rw [aF bG];omega⟩
theorem dc_4{oe:Int}(h:¬oe≠0):dcV false oe false true=1/\dcE false oe=0:=by unfold dcV dcE;exact⟨by rw [aF bG,aF h,aF bG,aO rfl],by rw [aF bG];omega⟩
theorem dc_5{oe:Int}(h:¬oe≠0):dcV false oe false false=0/\dcE false oe=0:=by unfold dcV dcE;exact⟨by rw [aF bG,aF h,aF bG,aF bG],by rw [aF bG];omega⟩
def wiS(g:GdT)(s:Ly):Bool:=decide (s.1.2-s.1.1>g.2.2)
def wiS_t{g:GdT}{s:Ly}(h:s.1.2-s.1.1>g.2.2):wiS g s=true:=aE h
def wiS_f{g:GdT}{s:Ly}(h:¬s.1.2-s.1.1>g.2.2):wiS g s=false:=aG h
abbrev dcR (ps:List Zd) (fo:SL) (po:List Zu) (ph:List Ox) (fl a:Int) (g:GdT) (s:Ly):Value:= .tuple #[.int .i64 (dcV (ouB fo po ph fl a g.2.1 s.2) (Fy ps s) (Br ps g s) (wiS g s)),.int .i64 (dcE (ouB fo po ph fl a g.2.1 s.2) (Fy ps s))]
section
variable {ps:List Zd} {fo:SL} {po:List Zu} {ph:List Ox} {fl fu:Int} {g:GdT} {s:Ly}
theorem Zvl(a:ouB fo po ph fl fu g.2.1 s.2=true):Value.tuple #[.int .i64 3,.int .i64 0]=dcR ps fo po ph fl fu g s:=by rw [dcR,a];rfl
theorem Zvk(b:ouB fo po ph fl fu g.2.1 s.2=false)(a:Fy ps s≠0):Value.tuple #[.int .i64 0,.int .i64 (Fy ps s)]=dcR ps fo po ph fl fu g s:=by rw [dcR,b,(dc_2 _ _ a).1,(dc_2 false false a).2]
theorem Zvj(b:ouB fo po ph fl fu g.2.1 s.2=false)(a:¬Fy ps s≠0)(c:Br ps g s=true):Value.tuple #[.int .i64 2,.int .i64 0]=dcR ps fo po ph fl fu g s:=by rw [dcR,b,c,(dc_3 _ a).1,(dc_3 false a).2]
theorem Zvi(b:ouB fo po ph fl fu g.2.1 s.2=false)(a:¬Fy ps s≠0)(c:Br ps g s=false)(d:s.1.2-s.1.1>g.2.2):Value.tuple #[.int .i64 1,.int .i64 0]=dcR ps fo po ph fl fu g s:=by rw [dcR,b,c,wiS_t d,(dc_4 a).1,(dc_4 a).2]
theorem Zvh(b:ouB fo po ph fl fu g.2.1 s.2=false)(a:¬Fy ps s≠0)(c:Br ps g s=false)(d:¬s.1.2-s.1.1>g.2.2):Value.tuple #[.int .i64 0,.int .i64 0]=dcR ps fo po ph fl fu g s:=by rw [dcR,b,c,wiS_f d,(dc_5 a).1,(dc_5 a).2]
end
theorem Yed{a:Bool}{ps:List Zd}{g:GdT}{s:Ly}(h:(Yg ps && (a && (Hy g && Zfe s)))=false):Yg ps=false\/(Yg ps=true/\a=false)\/(Yg ps=true/\a=true/\Hy g=false)\/(Yg ps=true/\a=true/\Hy g=true/\Zbo s.1.1 s.1.2=false)\/(Yg ps=true/\a=true/\Hy g=true/\Zbo s.1.1 s.1.2=true/\Lb s.2=false):=by unfold Zfe at h;cases h1:Yg ps<;>cases h2:a<;>cases h3:Hy g<;>cases h4:Zbo s.1.1 s.1.2<;>cases h5:Lb s.2<;>simp_all
end Go.Sky
namespace Go.Sky
variable{sc:Nat->Prop}{i:Nat}
theorem s_dnil{β:Type}{N:Nat}{env:Qm}{H:Hp}(k:Nat)(enc:β->Value)(q:β->Pc)(i:Nat):∀a w,Sat N sc env H a w->Sat N sc env ((i,Xv k enc q (Xa (none,0,0)) [])::H) a w:=λa w hs=>
 hs.add i _ ⟨Cd k enc w,λz d=>by cases d⟩ (λf g _ _ Ht b c e=>by
  rcases c with c|⟨z,d,_⟩
  .exact absurd rfl c.1
  .cases d) (λb c=>by
  rcases c with c|⟨z,d,_⟩
  .exact absurd rfl c.1
  .cases d)
abbrev Yj4 (b:Int×Int):Value:= .agg #[.int .i64 b.1,.int .i64 b.2]
abbrev exG (q:SL×SL×SL):Zd:=glG 0 0 100 1000 0 100 0 10000 1 q
def Zmi:List Zu:=[(-50,-50,0),(1050,-50,0),(1050,50,0),(-50,50,0)]
abbrev gd5:GdT:=(20,5,500)
def xB:List (Int×Int):=[(100,200),(300,300),(10000,12000)]
def xV:List Zu:=[(100,0,126),(105,0,125),(140,0,100)]
def xW:List Zu:=[(500,55,100),(500,56,100),(500,0,206)]
def lt3(h:i<3):i=0\/i=1\/i=2:=O1
section
variable (q:SL×SL×SL)
theorem Yo7:∀g∈[exG q],Gin g:=λg b=>by rw [cE.1 b];exact⟨show La (0:Int)from⟨O4,O4⟩,show La (10000:Int)from⟨O4,O4⟩,show La (1:Int)from⟨O4,O4⟩,show ∀a∈Bl 0 1000 (rwK 1),La a from Zid O4,show ∀a∈Bl 0 0 (rwK 1),La a from Zid O4,show ∀a∈Bl 100 100 (rwK 1),La a from Zid O4⟩
def Yo6:Yg [exG q]=true:=O7
def kx_f:Gb Zmi [] 0 200=true:=O7
def Yav:Hy gd5=true:=O7
theorem kx_b(h:i<3):Zbo (xB.getD i (0,0)).1 (xB.getD i (0,0)).2=true:=by rcases lt3 h with rfl|rfl|rfl<;>kernel_rfl
theorem kx_w(h:i<3):(wnP (Ac [exG q]) (Bi [exG q]) (xB.getD i (0,0)).1 (xB.getD i (0,0)).2).1=([100,300,9999]:List Int).getD i 0/\(wnP (Ac [exG q]) (Bi [exG q]) (xB.getD i (0,0)).1 (xB.getD i (0,0)).2).2=([200,301,10000]:List Int).getD i 0:=by rcases lt3 h with rfl|rfl|rfl<;>exact⟨O7,O7⟩
theorem kx_v(h:i<3):Lb (xV.getD i Ys)=true:=by rcases lt3 h with rfl|rfl|rfl<;>kernel_rfl
theorem kx_oe(h:i<3):Fy [exG q] ((1000,1100),xV.getD i Ys)=0:=by rcases lt3 h with rfl|rfl|rfl<;>kernel_rfl
theorem kx_ov(h:i<3):Br [exG q] gd5 ((1000,1100),xV.getD i Ys)=decide ((i:Int)≠1):=by rcases lt3 h with rfl|rfl|rfl<;>kernel_rfl
theorem kx_u(h:i<3):Lb (xW.getD i Ys)=true:=by rcases lt3 h with rfl|rfl|rfl<;>kernel_rfl
theorem kx_ou{fo:SL}(h:i<3):ouB fo Zmi [] 0 200 5 (xW.getD i Ys)=decide ((i:Int)>0):=by rcases lt3 h with rfl|rfl|rfl<;>kernel_rfl
def kx_d1(fo:SL):dcV (ouB fo Zmi [] 0 200 5 (100,0,100)) (Fy [exG q] ((1000,1600),(100,0,100))) (Br [exG q] gd5 ((1000,1600),(100,0,100))) (wiS gd5 ((1000,1600),(100,0,100)))=1/\dcE (ouB fo Zmi [] 0 200 5 (100,0,100)) (Fy [exG q] ((1000,1600),(100,0,100)))=0:=⟨O7,O7⟩
def kx_d2(fo:SL):dcV (ouB fo Zmi [] 0 200 5 (100,0,100)) (Fy [exG q] ((1000,1400),(100,0,100))) (Br [exG q] gd5 ((1000,1400),(100,0,100))) (wiS gd5 ((1000,1400),(100,0,100)))=0/\dcE (ouB fo Zmi [] 0 200 5 (100,0,100)) (Fy [exG q] ((1000,1400),(100,0,100)))=0:=⟨O7,O7⟩
end
end Go.Sky
namespace Go.Sky
open Go.ChangeShapes Go.WideShapes Go.ChangeAt Go.RowKit Go.Joins Go.Deep
open Go.Proofs
variable{t ti:TypeId}{fuel:Nat}{cs:List Value}{v:Value}
variable {P:Program} {W:World} {H:Type} {enc:TypeId×Value->H}
theorem Zqj {α:Type} [Inhabited α] {t0:TypeId} {k:Nat} {ec:α->Value} {Pz:α->Prop} {c:Value}  {x:DataW H×List MemPlace} (Z:P.underlying t0=some (.slice t)) (hC:P.cellsOf t=k) (F:0<k) (hk:∀z,(ec z).cells.size=k)
  (R:∀cs fuel y,DataW.trod enc P W 0 (λ_=>true) true fuel t cs=some y->∃z,cs=(ec z).cells.toList/\Pz z)
  (h:DataW.trod enc P W 0 (λ_=>true) true fuel t0 [c]=some x):∃(s:SL) (l:List α),c=Xa s/\(Yt k ec (Xa s) l).holds W/\∀z∈l,Pz z:=by
 rcases open_slice Z h with⟨Y,_⟩|⟨a,q,a1,m,n,D,Pl,Y,_,hl,hm,G,hx,he⟩
 .cases Y;exact⟨(none,0,0),[],rfl,Cd k ec W,λg B=>by cases B⟩
 .cases Y;simp at G;subst G;by_cases hn:q=0
  .subst hn;exact⟨(some a,0,m),[],rfl,⟨⟨some a,m,rfl,hl,hm,.inl rfl⟩,λb N=>absurd rfl N.1⟩,λg B=>by cases B⟩
  .obtain⟨M,a0,o⟩:=Zdp (p:=λi (g:α)=>W.cells? 0 (a.add (i*k)) k=some (ec g).cells.toList/\Pz g) q λi d=>by obtain⟨a2,k2,k3⟩:=he i O1;rw [hC]at k2;obtain⟨g,rfl,k4⟩:=R _ _ _ k3;exact⟨g,k2,k4⟩
   have w:∀g∈M,Pz g:=λg B=>by obtain⟨i,d,rfl⟩:=fO B;exact(o i _ (aL d)).2
   obtain⟨g,r,I⟩:=a;have c0:=(World.cells?_some (o 0 (M[0]' O1) (aL O1)).1).2.2 0 F;rw [iM]at c0;have hz:0<(ec (M[0]' O1)).cells.toList.length:=by rw [fE,hk];exact F
   obtain⟨f,e⟩:=Zow (c0.trans (aL hz));have f:I=none:=f;have e:g<W.heap.size:=e;subst f;refine⟨(some ⟨g,r,none⟩,q,m),M,rfl,⟨⟨some ⟨g,r,none⟩,m,by rw [a0],by show M.length<=m;omega,hm,.inr ⟨g,r,rfl,λi x d j u S=>?_⟩⟩,λb N=>by cases N.2;exact e⟩,w⟩;obtain⟨_,_,Q⟩:=World.cells?_some (o i x d).1;have V:j<k:=by
    rcases bA j k with h|h
    .exact h
    .rw [cW (by rw [fE,hk];exact h)]at S;cases S
   have:=Q j V;simp only [Od]at this;rw [this];simpa using S
theorem Zts  {f0 f1 f2:Field}   {x:DataW H×List MemPlace} (q:P.underlying t=some (.struct #[f0,f1,f2])) (p:P.cellsOf t=3) (l:f0.type=ti) (m:f1.type=ti) (o:f2.type=ti) (w:f0.offset=0) (y:f1.offset=1) (B:f2.offset=2)
  (hi:P.underlying ti=some (.int .i64)) (a:P.cellsOf ti=1) (h:DataW.trod enc P W 0 (λ_=>true) true fuel t cs=some x):∃z:Zu,cs=[.int .i64 z.1,.int .i64 z.2.1,.int .i64 z.2.2]:=by
 obtain⟨D,n,_,M,g,c,b⟩:=DataW.trod_struct q h;rw [p]at g
 match cs,g with
 | [F,G,I],_=>
 match D,c with
 | [S,V,Y],_=>
 have d:=b 0 f0 rfl;have e:=b 1 f1 rfl;have f:=b 2 f2 rfl;rw [l,w,a]at d;rw [m,y,a]at e;rw [o,B,a]at f;obtain⟨r,i,N⟩:=DataW.trod_int hi d;obtain⟨s,j,Q⟩:=DataW.trod_int hi e;obtain⟨u,k,R⟩:=DataW.trod_int hi f;simp at i j k;subst i;subst j;subst k;exact⟨(r,s,u),rfl⟩
instance:Inhabited Zu:=⟨Ys⟩
instance:Inhabited Ox:=⟨Kc⟩
theorem Zw8 {tf B u:TypeId} {f0 f1 f2 f3 F G I:Field}  {d:DataW H} {p:List MemPlace} (hf:P.underlying tf=some (.struct #[f0,f1,f2,f3])) (hC:P.cellsOf tf=4) (o0:f0.offset=0) (o1:f1.offset=1) (o2:f2.offset=2) (o3:f3.offset=3)
  (t0:f0.type=u) (t1:f1.type=B) (t2:f2.type=ti) (t3:f3.type=ti) (N:P.underlying B=some (.slice u)) (i:P.underlying u=some (.slice t)) (j:P.cellsOf u=1) (M:P.cellsOf B=1)
  (ht:P.underlying t=some (.struct #[F,G,I])) (f:P.cellsOf t=3) (s0:F.type=ti) (s1:G.type=ti) (s2:I.type=ti) (u0:F.offset=0) (u1:G.offset=1) (u2:I.offset=2) (hi:P.underlying ti=some (.int .i64)) (g:P.cellsOf ti=1)
  {r:Reach} {b0:Nat} (hv:Value.okWide P W r b0 tf v) (h:DataW.Trod enc P W 0 (λ_=>true) true tf v d p) :
  ∃(fo w:SL) (R:List Zu) (Q:List Ox) (fl fu:Int),v= .agg #[Xa fo,Xa w,.int .i64 fl,.int .i64 fu]/\(Yt 3 Yh (Xa fo) R).holds W/\(Xv 1 (Pf (α:=List Zu)) qPg (Xa w) Q).holds W:=by
 obtain⟨cs,rfl,e⟩:=okWide_struct hf hv;obtain⟨fuel,hh⟩:=h;obtain⟨xs,n,_,hx,hl,o,b⟩:=DataW.trod_struct hf hh;rw [hC]at e;obtain⟨l⟩:=cs;have e:l.length=4:=by simpa using e
 match l,e with
 | [c0,c1,c2,c3],_=>
 match xs,o with
 | [y0,y1,y2,y3],_=>
 have S:=b 0 f0 rfl;have V:=b 1 f1 rfl;have Y:=b 2 f2 rfl;have Z:=b 3 f3 rfl;rw [t0,o0,j]at S;rw [t1,o1,M]at V;rw [t2,o2,g]at Y;rw [t3,o3,g]at Z;obtain⟨m2,q2,w2⟩:=DataW.trod_int hi Y;obtain⟨m3,q3,w3⟩:=DataW.trod_int hi Z;simp [Value.cells]at q2 q3;subst q2;subst q3;have q:∀cs fuel y,DataW.trod enc P W 0 (λ_=>true) true fuel t cs=some y->∃z:Zu,cs=(Yh z).cells.toList/\True:=λcs fuel y x=>by obtain⟨z,hz⟩:=Zts ht f s0 s1 s2 u0 u1 u2 hi g x;exact⟨z,hz,aA⟩
 obtain⟨fo,R,rfl,k0,-⟩:=Zqj (ec:=Yh) i f O4 (λ_=>rfl) q (show DataW.trod enc P W 0 (λ_=>true) true n u [c0]=some y0 by simpa [Value.cells]using S);obtain⟨w,Q,rfl,k1,k2⟩:=Zqj (α:=Ox) (ec:=Pf (α:=List Zu)) (Pz:=λz=>(qPg z).holds W) N j O4 (λ_=>rfl) (λcs fuel y x=>by
  have hc:cs.length=1:=by rcases open_slice i x with⟨hq,_⟩|⟨a,a1,a0,m,n,D,Pl,hq,_⟩<;>rw [hq]<;>rfl
  match cs,hc with
  | [c],_=>
  obtain⟨s,l,rfl,k,-⟩:=Zqj (ec:=Yh) i f O4 (λ_=>rfl) q x;exact⟨(s,l),rfl,k⟩) (show DataW.trod enc P W 0 (λ_=>true) true n B [c1]=some y1 by simpa [Value.cells]using V)
 exact⟨fo,w,R,Q,m2,m3,rfl,k0,k1,k2⟩
theorem Zs8 {j k:TypeId} {f0 f1 c d e f g:Field}   {x:DataW H×List MemPlace} (I:P.underlying t=some (.struct #[f0,f1])) (B:P.cellsOf t=5) (R:f0.offset=0) (S:f1.offset=2) (t0:f0.type=j) (t1:f1.type=k) (i:P.cellsOf j=2) (b:P.cellsOf k=3)
  (D:P.underlying j=some (.struct #[c,d])) (x0:c.type=ti) (x1:d.type=ti) (v0:c.offset=0) (v1:d.offset=1) (G:P.underlying k=some (.struct #[e,f,g])) (V:e.type=ti) (Y:f.type=ti) (Z:g.type=ti) (u0:e.offset=0) (u1:f.offset=1) (u2:g.offset=2)
  (hi:P.underlying ti=some (.int .i64)) (a:P.cellsOf ti=1) (h:DataW.trod enc P W 0 (λ_=>true) true fuel t cs=some x):∃s:Ly,cs=[.int .i64 s.1.1,.int .i64 s.1.2,.int .i64 s.2.1,.int .i64 s.2.2.1,.int .i64 s.2.2.2]:=by
 obtain⟨y0,y1,n,hx,p,l,o⟩:=trod_struct2 I h;rw [B]at p
 match cs,p with
 | [c0,c1,c2,c3,c4],_=>
 rw [t0,R,i]at l;rw [t1,S,b]at o;obtain⟨z0,z1,m,M,F,r,u⟩:=trod_struct2 D l;rw [x0,v0,a]at r;rw [x1,v1,a]at u;obtain⟨N,w,w0⟩:=DataW.trod_int hi r;obtain⟨Q,y,w1⟩:=DataW.trod_int hi u;obtain⟨z,q⟩:=Zts G b V Y Z u0 u1 u2 hi a o;simp at w y q;obtain⟨rfl,rfl,rfl⟩:=q;subst w;subst y;exact⟨((N,Q),z),rfl⟩
theorem Zw7 {m n:TypeId} {f0 f1 a c e f g:Field}  {d:DataW H} {p:List MemPlace} (o:P.underlying t=some (.struct #[f0,f1])) (q:P.cellsOf t=5) (B:f0.offset=0) (D:f1.offset=2) (t0:f0.type=m) (t1:f1.type=n) (i:P.cellsOf m=2) (j:P.cellsOf n=3)
  (u:P.underlying m=some (.struct #[a,c])) (V:a.type=ti) (Y:c.type=ti) (R:a.offset=0) (S:c.offset=1) (x:P.underlying n=some (.struct #[e,f,g])) (F:e.type=ti) (G:f.type=ti) (I:g.type=ti) (M:e.offset=0) (N:f.offset=1) (Q:g.offset=2)
  (hi:P.underlying ti=some (.int .i64)) (k:P.cellsOf ti=1) {r:Reach} {b:Nat} (z:Value.okWide P W r b t v) (h:DataW.Trod enc P W 0 (λ_=>true) true t v d p):∃s:Ly,v=Zdk s:=by
 obtain⟨cs,rfl,y⟩:=okWide_struct o z;obtain⟨fuel,w⟩:=h;obtain⟨s,hs⟩:=Zs8 o q B D t0 t1 i j u V Y R S x F G I M N Q hi k w;obtain⟨l⟩:=cs;simp [Value.cells]at hs;subst hs;exact⟨s,rfl⟩
instance:Inhabited Ly:=⟨((0,0),Ys)⟩
end Go.Sky
namespace Go.Sky
open Go.ChangeShapes Go.WideShapes Go.ChangeAt Go.RowKit Go.Joins Go.Deep
open Go.Proofs
variable {P:Program} {W:World} {H:Type} {enc:TypeId×Value->H}
theorem Yde {t ti:TypeId} {v:Value} {d:DataW H} {p:List MemPlace} (g:P.underlying t=some (.array 3 ti)) (x:P.cellsOf t=3) (hi:P.underlying ti=some (.int .i64)) (e:P.cellsOf ti=1)
  {r:Reach} {b:Nat} (i:Value.okWide P W r b t v) (h:DataW.Trod enc P W 0 (λ_=>true) true t v d p):∃m:Int×Int×Int,v= .agg #[.int .i64 m.1,.int .i64 m.2.1,.int .i64 m.2.2]:=by
 obtain⟨c,rfl,a⟩:∃c,v= .agg c/\c.size=P.cellsOf t:=by simp only [Value.okWide,g]at i;obtain⟨c,u,w,_⟩:=i;exact⟨c,u,w⟩
 rw [x]at a;obtain⟨l⟩:=c;have a:l.length=3:=by simpa using a
 match l,a with
 | [F,G,I],_=>
 obtain⟨f,y⟩:=h;obtain⟨S,V,Y,m,M,o,q,s⟩:=trod_array3 g e (by simpa [Value.cells]using y);obtain⟨z,j,N⟩:=DataW.trod_int hi o;obtain⟨B,k,Q⟩:=DataW.trod_int hi q;obtain⟨D,n,R⟩:=DataW.trod_int hi s;simp at j k n;subst j;subst k;subst n;exact⟨(z,B,D),rfl⟩
end Go.Sky
namespace Go.Proofs.YthennaflbbajkaaGreat
open Go Go.Joins Go.Sky
def Lp{a b:Bool}(h:a=true)(c:b=true):(a && b)=true:=by rw [h,c];rfl
def cf0:(λ(P:Program) (f:FuncId) (fn:Func) (s:ChangeSpec) (c:OpenClaim)=>c.wf (OpenSpec.ofChange s)) Tryz.checked.prog 7 Tryz.f7 Rows.abortHoldsSpec Rows.abortHoldsRow=true:=O7
def cf1:(λ(P:Program) (f:FuncId) (fn:Func) (s:ChangeSpec) (c:OpenClaim)=>laidOutB P) Tryz.checked.prog 7 Tryz.f7 Rows.abortHoldsSpec Rows.abortHoldsRow=true:=O7
def cf2:(λ(P:Program) (f:FuncId) (fn:Func) (s:ChangeSpec) (c:OpenClaim)=>mapsRowed P) Tryz.checked.prog 7 Tryz.f7 Rows.abortHoldsSpec Rows.abortHoldsRow=true:=O7
def cf3:(λ(P:Program) (f:FuncId) (fn:Func) (s:ChangeSpec) (c:OpenClaim)=>fn.params.all (P.readableRec ·)) Tryz.checked.prog 7 Tryz.f7 Rows.abortHoldsSpec Rows.abortHoldsRow=true:=O7
def cf4:(λ(P:Program) (f:FuncId) (fn:Func) (s:ChangeSpec) (c:OpenClaim)=>namedTie P c.named s.vars) Tryz.checked.prog 7 Tryz.f7 Rows.abortHoldsSpec Rows.abortHoldsRow=true:=O7
def cf5:(λ(P:Program) (f:FuncId) (fn:Func) (s:ChangeSpec) (c:OpenClaim)=>c.stops == []) Tryz.checked.prog 7 Tryz.f7 Rows.abortHoldsSpec Rows.abortHoldsRow=true:=O7
def cf6:(λ(P:Program) (f:FuncId) (fn:Func) (s:ChangeSpec) (c:OpenClaim)=>P.stops == []) Tryz.checked.prog 7 Tryz.f7 Rows.abortHoldsSpec Rows.abortHoldsRow=true:=O7
def cf7:(λ(P:Program) (f:FuncId) (fn:Func) (s:ChangeSpec) (c:OpenClaim)=>c.knobs == []) Tryz.checked.prog 7 Tryz.f7 Rows.abortHoldsSpec Rows.abortHoldsRow=true:=O7
def cf8:(λ(P:Program) (f:FuncId) (fn:Func) (s:ChangeSpec) (c:OpenClaim)=>P.stopKnobs == []) Tryz.checked.prog 7 Tryz.f7 Rows.abortHoldsSpec Rows.abortHoldsRow=true:=O7
def cf9:(λ(P:Program) (f:FuncId) (fn:Func) (s:ChangeSpec) (c:OpenClaim)=>c.inPlace == P.inPlace f) Tryz.checked.prog 7 Tryz.f7 Rows.abortHoldsSpec Rows.abortHoldsRow=true:=O7
def cf10:(λ(P:Program) (f:FuncId) (fn:Func) (s:ChangeSpec) (c:OpenClaim)=>c.unfollowed == P.unfollowed f) Tryz.checked.prog 7 Tryz.f7 Rows.abortHoldsSpec Rows.abortHoldsRow=true:=O7
def cf11:(λ(P:Program) (f:FuncId) (fn:Func) (s:ChangeSpec) (c:OpenClaim)=>c.recurses == P.recurses f) Tryz.checked.prog 7 Tryz.f7 Rows.abortHoldsSpec Rows.abortHoldsRow=true:=O7
def cf12:(λ(P:Program) (f:FuncId) (fn:Func) (s:ChangeSpec) (c:OpenClaim)=>c.named == P.varsNamed f) Tryz.checked.prog 7 Tryz.f7 Rows.abortHoldsSpec Rows.abortHoldsRow=true:=O7
def cf13:(λ(P:Program) (f:FuncId) (fn:Func) (s:ChangeSpec) (c:OpenClaim)=>(c.maps == (fn.params.toList ++ s.plain.varTypes P).any (P.mapsRec ·))) Tryz.checked.prog 7 Tryz.f7 Rows.abortHoldsSpec Rows.abortHoldsRow=true:=O7
def cf14:(λ(P:Program) (f:FuncId) (fn:Func) (s:ChangeSpec) (c:OpenClaim)=>(c.ifaces == (fn.params.toList ++ s.plain.varTypes P).any (P.ifacesRec ·))) Tryz.checked.prog 7 Tryz.f7 Rows.abortHoldsSpec Rows.abortHoldsRow=true:=O7
def cf15:(λ(P:Program) (f:FuncId) (fn:Func) (s:ChangeSpec) (c:OpenClaim)=>c.mapsOut == P.mapsAmong fn.resultTypes.toList) Tryz.checked.prog 7 Tryz.f7 Rows.abortHoldsSpec Rows.abortHoldsRow=true:=O7
def cf16:(λ(P:Program) (f:FuncId) (fn:Func) (s:ChangeSpec) (c:OpenClaim)=>(c.loops == (fn.params.toList ++ s.plain.varTypes P).any (P.loopsFrom ·))) Tryz.checked.prog 7 Tryz.f7 Rows.abortHoldsSpec Rows.abortHoldsRow=true:=O7
def cf17:(λ(P:Program) (f:FuncId) (fn:Func) (s:ChangeSpec) (c:OpenClaim)=>(c.wideKeys == (fn.params.toList ++ s.plain.varTypes P ++ fn.resultTypes.toList).any (P.wideKeysFrom ·))) Tryz.checked.prog 7 Tryz.f7 Rows.abortHoldsSpec Rows.abortHoldsRow=true:=O7
def cf18:(λ(P:Program) (f:FuncId) (fn:Func) (s:ChangeSpec) (c:OpenClaim)=>s.vars.all (P.varReadable ·)) Tryz.checked.prog 7 Tryz.f7 Rows.abortHoldsSpec Rows.abortHoldsRow=true:=O7
def cf19:(λ(P:Program) (f:FuncId) (fn:Func) (s:ChangeSpec) (c:OpenClaim)=>fn.resultTypes.all (λt=>P.readableRec t && decide (t<P.types.size))) Tryz.checked.prog 7 Tryz.f7 Rows.abortHoldsSpec Rows.abortHoldsRow=true:=O7
def cf20:(λ(P:Program) (f:FuncId) (fn:Func) (s:ChangeSpec) (c:OpenClaim)=>(c.ifacesOut == fn.resultTypes.toList.any (P.ifacesRec ·))) Tryz.checked.prog 7 Tryz.f7 Rows.abortHoldsSpec Rows.abortHoldsRow=true:=O7
def cf21:(λ(P:Program) (f:FuncId) (fn:Func) (s:ChangeSpec) (c:OpenClaim)=>(c.loopsOut == fn.resultTypes.toList.any (P.loopsFrom ·))) Tryz.checked.prog 7 Tryz.f7 Rows.abortHoldsSpec Rows.abortHoldsRow=true:=O7
def cf22:(λ(P:Program) (f:FuncId) (fn:Func) (s:ChangeSpec) (c:OpenClaim)=>c.plainKeys == P.plainKeys) Tryz.checked.prog 7 Tryz.f7 Rows.abortHoldsSpec Rows.abortHoldsRow=true:=O7
def cf23:(λ(P:Program) (f:FuncId) (fn:Func) (s:ChangeSpec) (c:OpenClaim)=>c.shortTexts.isNone) Tryz.checked.prog 7 Tryz.f7 Rows.abortHoldsSpec Rows.abortHoldsRow=true:=O7
def cf24:(λ(P:Program) (f:FuncId) (fn:Func) (s:ChangeSpec) (c:OpenClaim)=>P.stopsHeard) Tryz.checked.prog 7 Tryz.f7 Rows.abortHoldsSpec Rows.abortHoldsRow=true:=O7
def cf25:(λ(P:Program) (f:FuncId) (fn:Func) (s:ChangeSpec) (c:OpenClaim)=>P.mayEnter) Tryz.checked.prog 7 Tryz.f7 Rows.abortHoldsSpec Rows.abortHoldsRow=true:=O7
def cf26:(λ(P:Program) (f:FuncId) (fn:Func) (s:ChangeSpec) (c:OpenClaim)=>c.lifted == P.liftsFinal) Tryz.checked.prog 7 Tryz.f7 Rows.abortHoldsSpec Rows.abortHoldsRow=true:=O7
def cf27:(λ(P:Program) (f:FuncId) (fn:Func) (s:ChangeSpec) (c:OpenClaim)=>P.make == some c.make) Tryz.checked.prog 7 Tryz.f7 Rows.abortHoldsSpec Rows.abortHoldsRow=true:=O7
def cf28:(λ(P:Program) (f:FuncId) (fn:Func) (s:ChangeSpec) (c:OpenClaim)=>c.kinds == (if c.domain.isEmpty then []else fn.params.toList.map λt=>match P.underlying t with|some (.int k)=>some k|_=>none)) Tryz.checked.prog 7 Tryz.f7 Rows.abortHoldsSpec Rows.abortHoldsRow=true:=O7
def cf29:(λ(P:Program) (f:FuncId) (fn:Func) (s:ChangeSpec) (c:OpenClaim)=>c.pinned == c.pinnedBy) Tryz.checked.prog 7 Tryz.f7 Rows.abortHoldsSpec Rows.abortHoldsRow=true:=O7
def cf30:(λ(P:Program) (f:FuncId) (fn:Func) (s:ChangeSpec) (c:OpenClaim)=>(c.veiled == (fn.params.toList ++ s.plain.varTypes P ++ fn.resultTypes.toList).any (P.veiledRec ·))) Tryz.checked.prog 7 Tryz.f7 Rows.abortHoldsSpec Rows.abortHoldsRow=true:=O7
def cf31:(λ(P:Program) (f:FuncId) (fn:Func) (s:ChangeSpec) (c:OpenClaim)=>c.veiledFits P fn.params.toList (fn.params.toList ++ s.plain.varTypes P ++ fn.resultTypes.toList)) Tryz.checked.prog 7 Tryz.f7 Rows.abortHoldsSpec Rows.abortHoldsRow=true:=O7
set_option maxRecDepth 100000 in
def closed:joinedFacts Tryz.checked.prog 7 Tryz.f7 Rows.abortHoldsSpec Rows.abortHoldsRow=true:=(Lp (Lp (Lp (Lp (Lp (Lp (Lp (Lp (Lp (Lp (Lp (Lp (Lp (Lp (Lp (Lp (Lp (Lp (Lp (Lp (Lp (Lp (Lp (Lp (Lp (Lp (Lp (Lp (Lp (Lp (Lp cf0 cf1) cf2) cf3) cf4) cf5) cf6) cf7) cf8) cf9) cf10) cf11) cf12) cf13) cf14) cf15) cf16) cf17) cf18) cf19) cf20) cf21) cf22) cf23) cf24) cf25) cf26) cf27) cf28) cf29) cf30) cf31)
end Go.Proofs.YthennaflbbajkaaGreat
namespace Go.Sky
variable {P:Program} {N:Nat} {sc:Nat->Prop} {env env':Qm} {H H' H0:Hp} {Q Q':Exit->Act->World->Prop} {M:Nat->Prop}
@[reducible] def drp2:Nat->Hp->Hp
 | _,[]=>[]
 | k,(i,p)::r=>match Nat.beq i k with
  | true=>drp2 k r
  | false=>(i,p)::drp2 k r
theorem Ybg:∀(k:Nat) (H:Hp),drp2 k H=drp k H
 | _,[]=>rfl
 | k,(i,p)::r=>by unfold drp2 drp;cases Nat.beq i k<;>simp [Ybg k r]
@[reducible] def anyb:List Nat->Nat->Bool
 | [],_=>false
 | k::r,i=>match Nat.beq i k with
  | true=>true
  | false=>anyb r i
theorem Zsc:∀(a:List Nat) (i:Nat),anyb a i=a.any (Nat.beq i)
 | [],_=>rfl
 | k::r,i=>by unfold anyb;rw [List.any_cons,<-Zsc r i];cases Nat.beq i k<;>rfl
@[reducible] def rst2 (a:List Nat):Hp->Hp
 | []=>[]
 | (i,p)::r=>match anyb a i with
  | true=>(i,p)::rst2 a r
  | false=>rst2 a r
theorem Zzp(a:List Nat):∀H:Hp,rst2 a H=rst a H
 | []=>rfl
 | (i,p)::r=>by unfold rst2 rst;rw [<-Zsc];cases anyb a i<;>simp [Zzp a r]
class AgI (H0 H:Hp) (ks:List Nat):Prop where h:Agr H0 H ks
instance:AgI H0 H []:=⟨aA⟩
instance {k:Nat} {ks:List Nat} {p:Pc} [h1:Som (lk2 H k) p] [h2:Som (lk2 H0 k) p] [h:AgI H0 H ks]:AgI H0 H (k::ks):=⟨⟨h1.l.trans h2.l.symm,h.h⟩⟩
class StI (P:Program) (N:Nat) (sc:Nat->Prop) (M:Nat->Prop) (op:Go.Op) (env:Qm) (H:Hp) (v:outParam Value) (s:outParam Prop):Prop where
 h:s->∀{d:Option Tmp} {ty:TypeId} {pos:String} {af:Array Edge} {g:Option (Nat×Bool)},Stb P N sc M ⟨d,op,ty,pos,af,g⟩ env H v
section
variable {op:Go.Op} {v:Value} {s:Prop} {k b:Nat} {t:TypeId} {l:List Value} {ks:List Nat}
instance [h:DI P N sc op env H v s]:StI P N sc (λ_=>False) op env H v s:=⟨λhs=>Pj (h.h hs)⟩
instance [hb:BxI H b k t l] [h:DI P N sc op env (drp2 k H) v s]:StI P N sc (λx=>x=b) op env H v s:=⟨λhs=>st1 k hb.h (by rw [<-Ybg];exact h.h hs)⟩
instance [ha:AgI H0 H ks] [h:DI P N sc op env (rst2 ks H) v s]:StI P N sc (Off H0 ks) op env H v s:=⟨λhs=>Ej (by rw [<-Zzp];exact h.h hs) ha.h⟩
end
class MI (M:Nat->Prop) (b:Nat):Prop where h:M b
class MS (N:Nat) (sc:Nat->Prop) (M:Nat->Prop) (env:Qm) (H:Hp) (b:Nat):Prop where h:∀a w,Sat N sc env H a w->M b
instance {b:Nat} : MS N sc (λ_=>True) env H b:=⟨λ_ _ _=>trivial⟩
instance {b:Nat} : MS N sc (λx=>x=b) env H b:=⟨λ_ _ _=>rfl⟩
instance {b:Nat} [h:MI M b]:MS N sc M env H b:=⟨λ_ _ _=>h.h⟩
@[reducible] def nin (ks:List Nat) (i:Nat):Bool:=match anyb ks i with
 | true=>false
 | false=>true
instance (priority:=low) {b i:Nat} {t:TypeId} {l:List Value} {ks:List Nat} [hb:BxI H b i t l] [hn:TB (nin ks i)] [ha:AgI H0 H ks]:MS N sc (Off H0 ks) env H b:=⟨λa w hs=>λk hk p hp hf=>by
 rw [<-ha.h.mem k hk]at hp;have hne:i≠k:=λe=>by
  subst e;have h1:=hn.h;unfold nin at h1;rw [Zsc]at h1;cases h2:ks.any (Nat.beq i)with
  | true=>rw [h2]at h1;cases h1
  | false=>
   have:=kV.1 h2 i hk;simp at this
 exact hs.sep i k _ p hne hb.h hp rfl b rfl hf⟩
section
variable {d i j k b e n:Nat} {vs ws l l':List Value} {w0:World} {M0:Nat->Prop} {ty t tb:TypeId} {pos:String} {af:Array Edge} {g:Option (Nat×Bool)} {x y:Operand} {v z:Value} {bb:Bool}
variable {ll:List Oper} {F:Qm->Hp->Prop} {rest:List (Nat×Nat)} {op:Go.Op} {G:Type} {φ:G->Prop} {genv:G->Qm} {gH:G->Hp} {dd:Option Tmp} {q r s:Prop}
def t_stm [hx:Som (ev2 env x) (.pointer (some ⟨b,j,none⟩))] [hy:Som (ev2 env y) v] [hB:BxI H b i tb l] [hi:TB (neb i 0)] [hv:CeI P N sc env H v vs] [hk:Siz P t k] [hl:TB (lenq vs k)] [hf:TB (fits l j vs)] [hr:LEv (lay2 l j vs) l']
  [h0:Som (lk2 H 0) (Zy w0 M0)] [hw:Hw w0 sc] [hM:MS N sc M env H b]:T P N sc M ⟨none,.store t x y,ty,pos,af,g⟩ env H (G:=Unit) (λ_=>True) (λ_=>env) (λ_=>(i,box b tb l'.toArray)::H):=λa w hs=>Yfb (hM.h a w hs) a w hs
def Mh(n:Nat){ks:List Nat}[hz:Zer P t z][hc:ClI z l][h0:Som (lk2 H 0) (Zy w0 M0)][hN:TB (ltb d N)][hw:Hw w0 sc][ha:AgI H0 H ks] :
  T P N sc (Off H0 ks) ⟨some d,.alloc t,ty,pos,af,g⟩ env H (G:=Nat) (λb=>MI (Off H0 ks) b) (λb=>(d,.pointer (some ⟨b,0,none⟩))::env) (λb=>(n,box b t l.toArray)::H):=λa w hs K Q f=>
 Yfe rfl rfl (Oz hN.h) hz.h hc.h h0.l hw.h ha.h a w hs K Q λg c m h=>f g c m ⟨h⟩
def Qn(a:T P N sc M ⟨dd,op,ty,pos,af,none⟩ env H φ genv gH)[ho:Som (nth ll i) ⟨dd,op,ty,pos,af,none⟩](h:∀g,φ g->LD P N sc M ll.toArray F rest (genv g) (gH g)):LD P N sc M ll.toArray F ((i,1)::rest) env H:=Bc ho.n a h
def Ha{c:List Nat}{a:Array Bool}(f:T P N sc M ⟨dd,op,ty,pos,af,none⟩ env H φ genv gH)[ho:Som (nth ll i) ⟨dd,op,ty,pos,af,none⟩](h:∀g,φ g->A P N sc M ll.toArray c Q n (a.setIfInBounds i true) (genv g) (gH g)):Zf1 P N sc M ll.toArray c Q n a env H i:=Za0 ho.n rfl f h
instance [ho:Som (nth ll i) ⟨some d,op,ty,pos,af,none⟩] [h1:StI P N sc M op env H v s] [h2:TB (ltb d N)] [h:Adv n (LD P N sc M ll.toArray F rest ((d,v)::env) H) q] [h3:AndO s q r]:Adv (n+1) (LD P N sc M ll.toArray F ((i,0)::rest) env H) r:=
 ⟨λk=>Qb ho.n rfl (h1.h (h3.h k).1) (h.h (h3.h k).2) rfl (Oz h2.h)⟩
instance [ho:Som (nth ll i) ⟨some d,op,ty,pos,af,some (j,bb)⟩] [hj:Som (dsto ll j) e] [he:Som (lk2 env e) (.bool bb)] [hN:TB (ltb e N)] [h1:StI P N sc M op env H v s] [h2:TB (ltb d N)] [h:Adv n (LD P N sc M ll.toArray F rest ((d,v)::env) H) q] [h3:AndO s q r]:Adv (n+1) (LD P N sc M ll.toArray F ((i,0)::rest) env H) r:=
 ⟨λk=>r0g (h1.h (h3.h k).1) ho.n rfl (Cm hj) he.l rfl (h.h (h3.h k).2) (Oz hN.h) (Oz h2.h)⟩
instance [ho:Som (nth ll i) ⟨some d,op,ty,pos,af,some (j,true)⟩] [hj:Som (dsto ll j) e] [he:Som (lk2 env e) (.bool false)] [hN:TB (ltb e N)] [h2:TB (ltb d N)] [h:Adv n (LD P N sc M ll.toArray F rest ((d,undef)::env) H) q]:Adv (n+1) (LD P N sc M ll.toArray F ((i,2)::rest) env H) q:=
 ⟨λk=>r2 ho.n rfl (Cm hj) he.l rfl (Oz hN.h) rfl (Oz h2.h) (h.h k)⟩
instance [ho:Som (nth ll i) ⟨some d,op,ty,pos,af,some (j,false)⟩] [hj:Som (dsto ll j) e] [he:Som (lk2 env e) (.bool true)] [hN:TB (ltb e N)] [h2:TB (ltb d N)] [h:Adv n (LD P N sc M ll.toArray F rest ((d,undef)::env) H) q]:Adv (n+1) (LD P N sc M ll.toArray F ((i,2)::rest) env H) q:=
 ⟨λk=>r2 ho.n rfl (Cm hj) he.l rfl (Oz hN.h) rfl (Oz h2.h) (h.h k)⟩
instance [ho:Som (nth ll i) ⟨none,.store t x y,ty,pos,af,none⟩] [hx:Som (ev2 env x) (.pointer (some ⟨b,j,none⟩))] [hy:Som (ev2 env y) v] [hB:BxI H b k tb l] [hi:TB (neb k 0)] [hv:CeI P N sc env H v vs] [hk:Siz P t e] [hl:TB (lenq vs e)] [hf:TB (fits l j vs)] [hr:LEv (lay2 l j vs) l']
  [h0:Som (lk2 H 0) (Zy w0 M0)] [hw:Hw w0 sc] [h:Adv n (LD P N sc M ll.toArray F rest env ((k,box b tb l'.toArray)::H)) q]:Adv (n+1) (LD P N sc M ll.toArray F ((i,3)::rest) env H) q:=
 ⟨λq=>r3' ho.n (Yfb aA) λ_ _=>h.h q⟩
instance [ho:Som (nth ll i) ⟨none,.store t x y,ty,pos,af,none⟩] [hx:Som (ev2 env x) (.pointer (some ⟨b,j,none⟩))] [hy:Som (ev2 env y) v] [hB:BxI H b k tb l] [hi:TB (neb k 0)] [hM:MS N sc M env H b] [hv:CeI P N sc env H v vs] [hk:Siz P t e] [hl:TB (lenq vs e)] [hf:TB (fits l j vs)] [hr:LEv (lay2 l j vs) l']
  [h0:Som (lk2 H 0) (Zy w0 M0)] [hw:Hw w0 sc] [h:Adv n (LD P N sc M ll.toArray F rest env ((k,box b tb l'.toArray)::H)) q]:Adv (n+1) (LD P N sc M ll.toArray F ((i,1)::rest) env H) q:=
 ⟨λq=>Bc ho.n t_stm λ_ _=>h.h q⟩
instance [ho:Som (nth ll i) ⟨some d,op,ty,pos,af,none⟩] [h1:DI P N sc op env H v s] [h2:TB (ltb d N)] [h:Adv n (LD P N sc M ll.toArray F rest ((d,v)::env) H) q] [h3:AndO s q r]:Adv (n+1) (LD P N sc M ll.toArray F ((i,1)::rest) env H) r:=
 ⟨λk=>Bc ho.n (Zag (h1.h (h3.h k).1) rfl (Oz h2.h)) λ_ _=>h.h (h3.h k).2⟩
instance [ho:Som (nth ll i) ⟨some d,op,ty,pos,af,none⟩] [h1:DI P N sc op env H v s] [h2:TB (ltb d N)] [h:Adv n (LD P N sc M ll.toArray F rest ((d,v)::env) H) q] [h3:AndO s q r]:Adv (n+1) (LD P N sc M ll.toArray F ((i,3)::rest) env H) r:=
 ⟨λk=>r3' ho.n (Zag (h1.h (h3.h k).1) rfl (Oz h2.h)) λ_ _=>h.h (h3.h k).2⟩
instance [h:Adv n (F env H) q] {ops:Array Oper} : Adv (n+1) (LD P N sc M ops F [] env H) q:=⟨λk=>r_fin (h.h k)⟩
theorem Pg {id:Nat} {l:List Oper} (M:Nat->Prop) (a:List (Nat×Nat)) (h:LD P N sc M l.toArray (X N sc .normal Q) a env H) (c:P.follows .mixedOrders=true:=by kernel_rfl)
  (f:(Region.noSelect l.toArray && Nat.beq a.length l.length && Fx l.toArray (Ao a) a (Array.replicate l.length false) && (Region.ready .any l.toArray (Ey a (Array.replicate l.length false))).isEmpty)=true:=by kernel_rfl) :
  E P N sc (.region id l.toArray true) Q env H:=e_dreg M c f h
end
end Go.Sky
namespace Go.Sky
open Go.RowKit Below
variable {P:Program} {N:Nat} {sc:Nat->Prop} {env env':Qm} {H H':Hp} {Q Q':Exit->Act->World->Prop} {M:Nat->Prop}
class EnI (vs:List Value) (env:outParam Qm):Prop where h:Ql 0 vs=env
class PnI (vs:List Pc) (H:outParam Hp):Prop where h:Yn 1 vs=H
section
variable {a b c d e f g i j:Value} {p q r s t u v w x y:Pc}
instance:EnI [] []:=⟨rfl⟩
instance:EnI [a] [(0,a)]:=⟨rfl⟩
instance:EnI [a,b] [(0,a),(1,b)]:=⟨rfl⟩
instance:EnI [a,b,c] [(0,a),(1,b),(2,c)]:=⟨rfl⟩
instance:EnI [a,b,c,d] [(0,a),(1,b),(2,c),(3,d)]:=⟨rfl⟩
instance:EnI [a,b,c,d,e] [(0,a),(1,b),(2,c),(3,d),(4,e)]:=⟨rfl⟩
instance:EnI [a,b,c,d,e,f] [(0,a),(1,b),(2,c),(3,d),(4,e),(5,f)]:=⟨rfl⟩
instance:EnI [a,b,c,d,e,f,g] [(0,a),(1,b),(2,c),(3,d),(4,e),(5,f),(6,g)]:=⟨rfl⟩
instance:PnI [] []:=⟨rfl⟩
instance:PnI [p] [(1,p)]:=⟨rfl⟩
instance:PnI [p,q] [(1,p),(2,q)]:=⟨rfl⟩
instance:PnI [p,q,r] [(1,p),(2,q),(3,r)]:=⟨rfl⟩
instance:PnI [p,q,r,s] [(1,p),(2,q),(3,r),(4,s)]:=⟨rfl⟩
instance:PnI [p,q,r,s,t] [(1,p),(2,q),(3,r),(4,s),(5,t)]:=⟨rfl⟩
instance:PnI [p,q,r,s,t,u] [(1,p),(2,q),(3,r),(4,s),(5,t),(6,u)]:=⟨rfl⟩
instance:PnI [p,q,r,s,t,u,v] [(1,p),(2,q),(3,r),(4,s),(5,t),(6,u),(7,v)]:=⟨rfl⟩
instance:PnI [p,q,r,s,t,u,v,w] [(1,p),(2,q),(3,r),(4,s),(5,t),(6,u),(7,v),(8,w)]:=⟨rfl⟩
instance:PnI [p,q,r,s,t,u,v,w,x] [(1,p),(2,q),(3,r),(4,s),(5,t),(6,u),(7,v),(8,w),(9,x)]:=⟨rfl⟩
instance:PnI [p,q,r,s,t,u,v,w,x,y] [(1,p),(2,q),(3,r),(4,s),(5,t),(6,u),(7,v),(8,w),(9,x),(10,y)]:=⟨rfl⟩
end
class RoL (l:List Pc):Prop where h:AllRo l
instance:RoL []:=⟨aA⟩
instance {p:Pc} {r:List Pc} [h:RoI p] [h2:RoL r]:RoL (p::r):=⟨⟨h.h,h2.h⟩⟩
theorem Ze {f:FuncId} {fn:Func} {c:Code} {vs:List Value} {pre:List Pc} {al:Bool} {G:Type} {φ:G->Prop} {val:G->Value} {l:G->List Pc} {N:Nat} (B:P.funcs[f]? = some fn) (o:fn.ntmps=N)
  [he:EnI vs env] [hp:PnI pre H] [hro:RoL pre] (h:∀k (sc:Nat->Prop),Hw k sc->(∀b,sc b->k.heap.size<=b\/∃q∈pre,q.fp b)->E P N sc c (Za1 P fn k pre al φ val l) env ((0,Zy k (λ_=>False))::H))
  (z:fn.body=some c:=by rfl) (m:Nat.ble vs.length N=true:=by rfl):Cal P f vs.toArray pre al φ val l:=
 cal_in B z o m hro.h λk sc D n=>by rw [he.h,hp.h];exact h k sc ⟨D⟩ n
class RvI (P:Program) (N:Nat) (sc:Nat->Prop) (env:Qm) (H:Hp) (r:ResultVar) (v:outParam Value):Prop where h:RV P N sc env H r v
instance {t:Nat} {v:Value} [h:Som (lk2 env t) v]:RvI P N sc env H (.tmp t) v:=⟨h.l⟩
instance {c b i k:Nat} {t tb:TypeId} {l:List Value} [h:Som (lk2 env c) (.pointer (some ⟨b,0,none⟩))] [h1:Agg P t true] [h2:BxI H b i tb l] [h3:Siz P t k] [h4:TB (lenq l k)]:RvI P N sc env H (.cell c t) (.agg l.toArray):=⟨Fq _ h.l h2.h h1.h h3.h (Zg2 h4.h)⟩
instance {c b i:Nat} {t tb:TypeId} {v:Value} [h:Som (lk2 env c) (.pointer (some ⟨b,0,none⟩))] [h1:Agg P t false] [h2:BxI H b i tb [v]]:RvI P N sc env H (.cell c t) v:=⟨Kw _ h.l h2.h h1.h⟩
section
variable {fn:Func} {pre:List Pc} {al:Bool} {G:Type} {φ:G->Prop} {val:G->Value} {its:G->List Pc} {w0:World} {r1 r2 r3:ResultVar} {v1 v2 v3:Value}
def Yv(k:∀b,sc b->w0.heap.size<=b\/∃q∈pre,q.fp b)(g:G)(l:fn.results=#[r1])[h1:RvI P N sc env H r1 v1][h0:Som (lk2 H 0) (Zy w0 (λ_=>False))](n:val g=v1)(m:φ g)(h:Give H al (its g)) :
  X N sc .ret (Za1 P fn w0 pre al φ val its) env H:=Em (.inl rfl) k g (v:=v1) (λa w hs=>Fw hs l h1.h) n m h0.l h
def Nn(k:∀b,sc b->w0.heap.size<=b\/∃q∈pre,q.fp b)(g:G)(l:fn.results=#[r1,r2])[h1:RvI P N sc env H r1 v1][h2:RvI P N sc env H r2 v2][h0:Som (lk2 H 0) (Zy w0 (λ_=>False))](n:val g= .tuple #[v1,v2])(m:φ g)(h:Give H al (its g)) :
  X N sc .ret (Za1 P fn w0 pre al φ val its) env H:=Em (.inl rfl) k g (λa w hs=>Zw2 hs l h1.h h2.h) n m h0.l h
def xe3(k:∀b,sc b->w0.heap.size<=b\/∃q∈pre,q.fp b)(g:G)(l:fn.results=#[r1,r2,r3])[h1:RvI P N sc env H r1 v1][h2:RvI P N sc env H r2 v2][h3:RvI P N sc env H r3 v3][h0:Som (lk2 H 0) (Zy w0 (λ_=>False))](n:val g= .tuple #[v1,v2,v3])(m:φ g)(h:Give H al (its g)) :
  X N sc .ret (Za1 P fn w0 pre al φ val its) env H:=Em (.inl rfl) k g (λa w hs=>res3 hs l h1.h h2.h h3.h) n m h0.l h
end
class EncE {α:Type} (k:Nat) (enc:α->Value):Prop where h:∃(P:Program) (t:TypeId),Enc P t k enc
theorem Kk{p k:Pc}{r:List Pc}(i:Nat)[hi:Som (lk2 H i) k][h0:TB (neb i 0)][ho:RoI k](h:Give H true r)(e:k=p:=by rfl):Give H true (p::r):=e▸Gx i hi.l (Zv5 (Zb6 h0.h)) ho.h h
section
variable {α:Type} {k i:Nat} {e:TypeId} {enc:α->Value} {v v':Value} {xs ys:List α} {al:Bool} {r:List Pc}
theorem gow(i:Nat)[hi:Som (lk2 H i) (Nk k e enc v xs)][h0:TB (neb i 0)][he:EncE k enc](h:Give H al r)(l:xs=ys:=by rfl):Give H al (Yt k enc v ys::r):=by obtain⟨_,_,m⟩:=he.h;exact Ydy i hi.l (Zv5 (Zb6 h0.h)) m l h
end
section
variable {n:Nat} {x b:Bool} {d e j:Nat} {op:Go.Op} {ty:TypeId} {pos:String} {af:Array Edge} {rest:List Oper} {ops:Array Oper} {ll:List Oper}
def kf [h1:DI P N sc op env H (.bool x) True][h2:TB (ltb d N)](e:x=false)(h:L P N sc ops rest Q ((d,.bool false)::env) H):L P N sc ops (⟨some d,op,ty,pos,af,none⟩::rest) Q env H:=dt (Yl _ (h1.h aA) (aH _ e)) h (Oz h2.h)
def kt [h1:DI P N sc op env H (.bool x) True][h2:TB (ltb d N)](e:x=true)(h:L P N sc ops rest Q ((d,.bool true)::env) H):L P N sc ops (⟨some d,op,ty,pos,af,none⟩::rest) Q env H:=dt (Yl _ (h1.h aA) (aH _ e)) h (Oz h2.h)
def kfg [h1:DI P N sc op env H (.bool x) True][hj:Som (dsto ll j) e][hg:Som (lk2 env e) (.bool b)][h4:TB (ltb e N)][h2:TB (ltb d N)](e:x=false)(h:L P N sc ll.toArray rest Q ((d,.bool false)::env) H):L P N sc ll.toArray (⟨some d,op,ty,pos,af,some (j,b)⟩::rest) Q env H:=Hz (Yl _ (h1.h aA) (aH _ e)) (Cm hj) hg.l h (Oz h4.h) (Oz h2.h)
def ktg [h1:DI P N sc op env H (.bool x) True][hj:Som (dsto ll j) e][hg:Som (lk2 env e) (.bool b)][h4:TB (ltb e N)][h2:TB (ltb d N)](e:x=true)(h:L P N sc ll.toArray rest Q ((d,.bool true)::env) H):L P N sc ll.toArray (⟨some d,op,ty,pos,af,some (j,b)⟩::rest) Q env H:=Hz (Yl _ (h1.h aA) (aH _ e)) (Cm hj) hg.l h (Oz h4.h) (Oz h2.h)
end
section
variable {f:FuncId} {xs:List Operand} {ats:Array TypeId} {d i j e n:Nat} {vs:List Value} {pre:List Pc} {al b:Bool} {G:Type} {φ:G->Prop} {val:G->Value} {its:G->List Pc} {w0:World} {M0:Nat->Prop} {ty:TypeId} {pos:String} {af:Array Edge} {G':G->Hp} {ops:Array Oper} {rest ll:List Oper}
def cl (n:Nat) (l:List Nat) (m:Cal P f vs.toArray pre al φ val its) [hx:EvI env xs vs] [hf:CalF P f] [hp:PreL P H al l pre] [h0:Som (lk2 H 0) (Zy w0 M0)] [hN:TB (ltb d N)] [hw:Hw w0 sc] [ha:∀g,AddI n (its g) H (G' g)]
  (h:∀g,φ g->L P N sc ops rest Q ((d,val g)::env) (G' g)):L P N sc ops (⟨some d,.call { callee:= .value (.func f),args:=xs.toArray,argTypes:=ats },ty,pos,af,none⟩::rest) Q env H:=Zx (Zz n l m) h
def Ln (n:Nat) (l:List Nat) (m:Cal P f vs.toArray pre al φ val its) [hx:EvI env xs vs] [hf:CalF P f] [hp:PreL P H al l pre] [h0:Som (lk2 H 0) (Zy w0 M0)] [hN:TB (ltb d N)] [hw:Hw w0 sc] [ha:∀g,AddI n (its g) H (G' g)] [hj:Som (dsto ll j) e] [he:Som (lk2 env e) (.bool b)] [hN2:TB (ltb e N)]
  (h:∀g,φ g->L P N sc ll.toArray rest Q ((d,val g)::env) (G' g)):L P N sc ll.toArray (⟨some d,.call { callee:= .value (.func f),args:=xs.toArray,argTypes:=ats },ty,pos,af,some (j,b)⟩::rest) Q env H:=gt' (Zz n l m) h
end
class SeI (l:List Nat) (env:Qm) (cs:outParam Qm):Prop where h:Sub cs env
instance:SeI [] env []:=⟨aA⟩
instance {t:Nat} {l:List Nat} {v:Value} {cs:Qm} [h:Som (lk2 env t) v] [h2:SeI l env cs]:SeI (t::l) env ((t,v)::cs):=⟨⟨h.l,h2.h⟩⟩
class SeH (l:List Nat) (H:Hp) (ch:outParam Hp):Prop where h:HSub ch H
instance:SeH [] H []:=⟨aA⟩
instance {t:Nat} {l:List Nat} {v:Pc} {cs:Hp} [h:Som (lk2 H t) v] [h2:SeH l H cs]:SeH (t::l) H ((t,v)::cs):=⟨⟨h.l,h2.h⟩⟩
class ApI {α:Type _} (a b:List α) (c:outParam (List α)):Prop where h:a ++ b=c
instance {α:Type _} {b:List α} : ApI [] b b:=⟨rfl⟩
instance {α:Type _} {x:α} {a b c:List α} [h:ApI a b c]:ApI (x::a) b (x::c):=⟨by rw [<-h.h];rfl⟩
class SbI (cs env:Qm):Prop where h:Sub cs env
instance:SbI [] env:=⟨aA⟩
instance {t:Nat} {v:Value} {cs:Qm} [h:Som (lk2 env t) v] [h2:SbI cs env]:SbI ((t,v)::cs) env:=⟨⟨h.l,h2.h⟩⟩
class HbI (ch H:Hp):Prop where h:HSub ch H
instance:HbI [] H:=⟨aA⟩
instance {t:Nat} {v:Pc} {cs:Hp} [h:Som (lk2 H t) v] [h2:HbI cs H]:HbI ((t,v)::cs) H:=⟨⟨h.l,h2.h⟩⟩
def Sub.app:∀{a b e:Qm},Sub a e->Sub b e->Sub (a ++ b) e
 | [],_,_,_,h=>h
 | (_,_)::_,_,_,h1,h=>⟨h1.1,Sub.app h1.2 h⟩
def HSub.app:∀{a b e:Hp},HSub a e->HSub b e->HSub (a ++ b) e
 | [],_,_,_,h=>h
 | (_,_)::_,_,_,h1,h=>⟨h1.1,HSub.app h1.2 h⟩
section
variable {c x y:Code} {G:Type} {cs:Qm} {ch:Hp} {e1:G->Qm} {H1:G->Hp} {ov:G->Qm} {oh:G->Hp} {inv:G->Prop} {μ:G->Nat} {g:G}
theorem lp (l B:List Nat) (ov:G->Qm) (oh:G->Hp) (inv:G->Prop) (μ:G->Nat) (h:G) (z:inv h) (hs:Sub (ov h) env) (o:HSub (oh h) H) [h1:SeI l env cs] [h2:SeH B H ch] [h3:∀g,ApI (ov g) cs (e1 g)] [h4:∀g,ApI (oh g) ch (H1 g)]
  (m:∀g,inv g->E P N sc c (Exit.then (Ymb N sc cs ch ov oh inv μ g) Q) (e1 g) (H1 g)):E P N sc (.loop c) Q env H:=
 e_lp cs ch ov oh inv μ z (hs.app h1.h) (o.app h2.h) λg D=>by rw [(h3 g).h,(h4 g).h];grind
def Yj(h:G)(l:inv h)(m:μ h<μ g)(hs:Sub (ov h) env)(o:HSub (oh h) H)[k1:SbI cs env][k2:HbI ch H]:X N sc .normal (Exit.then (Ymb N sc cs ch ov oh inv μ g) Q) env H:=x_rnd h l m (hs.app k1.h) (o.app k2.h)
theorem jn (l m:List Nat) (ov:G->Qm) (oh:G->Hp) (inv:G->Prop) [h1:SeI l env cs] [h2:SeH m H ch] [h3:∀g,ApI (ov g) cs (e1 g)] [h4:∀g,ApI (oh g) ch (H1 g)]
  (h:E P N sc x (Exit.then (JnK N sc cs ch ov oh inv) Q) env H) (z:∀g,inv g->E P N sc y Q (e1 g) (H1 g)):E P N sc (.seq x y) Q env H:=
 e_jn cs ch ov oh inv h1.h h2.h h λg o=>by rw [(h3 g).h,(h4 g).h];grind
def Fb(h:G)(l:inv h)(hs:Sub (ov h) env)(m:HSub (oh h) H)[k1:SbI cs env][k2:HbI ch H]:X N sc .normal (Exit.then (JnK N sc cs ch ov oh inv) Q) env H:=x_jn h l (hs.app k1.h) (m.app k2.h)
end
end Go.Sky
namespace Go.Sky
open Go.Proofs
set_option linter.all false
set_option synthInstance.maxHeartbeats 0
variable{v w:Value}{xs:List Nat}{x y:Nat}
@[reducible,instance]def iUnd3:=Und.mk Tryz.underlying3
@[reducible,instance]def iUnd4:=Und.mk Tryz.underlying4
@[reducible,instance]def iUnd5:=Und.mk Tryz.underlying5
@[reducible,instance]def iUnd9:=Und.mk Tryz.underlying9
@[reducible,instance]def iUnd87:=Und.mk Tryz.underlying87
@[reducible,instance]def iUnd95:=Und.mk Tryz.underlying95
@[reducible,instance]def iUnd96:=Und.mk Tryz.underlying96
@[reducible,instance]def iUnd99:=Und.mk Tryz.underlying99
@[reducible,instance]def iUnd130:=Und.mk Tryz.underlying130
@[reducible,instance]def iUnd132:=Und.mk Tryz.underlying132
@[reducible,instance]def iUnd160:=Und.mk Tryz.underlying160
@[reducible,instance]def iUnd186:=Und.mk Tryz.underlying186
@[reducible,instance]def iUnd188:=Und.mk Tryz.underlying188
@[reducible,instance]def iUnd216:=Und.mk Tryz.underlying216
@[reducible,instance]def iUnd221:=Und.mk Tryz.underlying221
@[reducible,instance]def iUnd259:=Und.mk Tryz.underlying259
@[reducible,instance]def iUnd282:=Und.mk Tryz.underlying282
@[reducible,instance]def iUnd284:=Und.mk Tryz.underlying284
@[reducible,instance]def iUnd291:=Und.mk Tryz.underlying291
@[reducible,instance]def iUnd293:=Und.mk Tryz.underlying293
@[reducible,instance]def iUnd297:=Und.mk Tryz.underlying297
@[reducible,instance]def iUnd299:=Und.mk Tryz.underlying299
@[reducible,instance]def iUnd303:=Und.mk Tryz.underlying303
@[reducible,instance]def iUnd322:=Und.mk Tryz.underlying322
@[reducible,instance]def iSiz3:=Siz.mk Tryz.sizeOf3
@[reducible,instance]def iSiz4:=Siz.mk Tryz.sizeOf4
@[reducible,instance]def iSiz5:=Siz.mk Tryz.sizeOf5
@[reducible,instance]def iSiz9:=Siz.mk Tryz.sizeOf9
@[reducible,instance]def iSiz26:=Siz.mk Tryz.sizeOf26
@[reducible,instance]def iSiz87:=Siz.mk Tryz.sizeOf87
@[reducible,instance]def iSiz96:=Siz.mk Tryz.sizeOf96
@[reducible,instance]def iSiz99:=Siz.mk Tryz.sizeOf99
@[reducible,instance]def iSiz130:=Siz.mk Tryz.sizeOf130
@[reducible,instance]def iSiz132:=Siz.mk Tryz.sizeOf132
@[reducible,instance]def iSiz186:=Siz.mk Tryz.sizeOf186
@[reducible,instance]def iSiz188:=Siz.mk Tryz.sizeOf188
@[reducible,instance]def iSiz216:=Siz.mk Tryz.sizeOf216
@[reducible,instance]def iSiz282:=Siz.mk Tryz.sizeOf282
@[reducible,instance]def iSiz291:=Siz.mk Tryz.sizeOf291
@[reducible,instance]def iSiz293:=Siz.mk Tryz.sizeOf293
@[reducible,instance]def iSiz299:=Siz.mk Tryz.sizeOf299
@[reducible,instance]def iAgg4:=Agg.mk Tryz.isAgg4
@[reducible,instance]def iAgg9:=Agg.mk Tryz.isAgg9
@[reducible,instance]def iAgg26:=Agg.mk Tryz.isAgg26
@[reducible,instance]def iAgg99:=Agg.mk Tryz.isAgg99
@[reducible,instance]def iAgg130:=Agg.mk Tryz.isAgg130
@[reducible,instance]def iAgg132:=Agg.mk Tryz.isAgg132
@[reducible,instance]def iAgg186:=Agg.mk Tryz.isAgg186
@[reducible,instance]def iAgg188:=Agg.mk Tryz.isAgg188
@[reducible,instance]def iAgg216:=Agg.mk Tryz.isAgg216
@[reducible,instance]def iAgg291:=Agg.mk Tryz.isAgg291
@[reducible,instance]def iAgg293:=Agg.mk Tryz.isAgg293
@[reducible,instance]def iAgg299:=Agg.mk Tryz.isAgg299
@[reducible,instance]def iZer87:=Zer.mk Tryz.zeroValue87
@[reducible,instance]def iZer130:=Zer.mk Tryz.zeroValue130
@[reducible,instance]def iZer132:=Zer.mk Tryz.zeroValue132
@[reducible,instance]def iZer188:=Zer.mk Tryz.zeroValue188
@[reducible,instance]def iZer216:=Zer.mk Tryz.zeroValue216
@[reducible,instance]def iZer284:=Zer.mk Tryz.zeroValue284
@[reducible,instance]def iZer293:=Zer.mk Tryz.zeroValue293
@[reducible,instance]def iZer297:=Zer.mk Tryz.zeroValue297
@[reducible,instance]def iZer299:=Zer.mk Tryz.zeroValue299
abbrev cGa(f:Nat):=CalF Go.Proofs.Tryz.prog f
open Go.Proofs.Tryz
instance:cGa 60:=.mk call60
instance:cGa 107:=.mk call107
instance:cGa 108:=.mk call108
instance:cGa 109:=.mk call109
instance:cGa 110:=.mk call110
instance:cGa 111:=.mk call111
instance:cGa 112:=.mk call112
instance:cGa 113:=.mk call113
instance:cGa 114:=.mk call114
instance:cGa 126:=.mk call126
instance:cGa 127:=.mk call127
instance:cGa 128:=.mk call128
instance:cGa 129:=.mk call129
instance:cGa 130:=.mk call130
instance:cGa 146:=.mk call146
instance:cGa 147:=.mk call147
instance:cGa 148:=.mk call148
instance:cGa 149:=.mk call149
instance:cGa 150:=.mk call150
instance:cGa 151:=.mk call151
instance:cGa 152:=.mk call152
instance:cGa 153:=.mk call153
instance:cGa 154:=.mk call154
instance:cGa 155:=.mk call155
instance:cGa 162:=.mk call162
instance:cGa 166:=.mk call166
instance:cGa 167:=.mk call167
instance:cGa 170:=.mk call170
instance:cGa 171:=.mk call171
instance:cGa 172:=.mk call172
instance:cGa 173:=.mk call173
instance:cGa 176:=.mk call176
instance:cGa 184:=.mk call184
instance:cGa 185:=.mk call185
instance:cGa 186:=.mk call186
instance:cGa 187:=.mk call187
instance:cGa 196:=.mk call196
instance:cGa 197:=.mk call197
instance:cGa 198:=.mk call198
instance:cGa 199:=.mk call199
instance:cGa 200:=.mk call200
instance:cGa 201:=.mk call201
instance:cGa 202:=.mk call202
instance:cGa 203:=.mk call203
instance:cGa 204:=.mk call204
instance:cGa 205:=.mk call205
instance:cGa 206:=.mk call206
instance:cGa 209:=.mk call209
instance:cGa 210:=.mk call210
instance:cGa 211:=.mk call211
instance:cGa 212:=.mk call212
instance:cGa 213:=.mk call213
instance:cGa 214:=.mk call214
instance:cGa 215:=.mk call215
instance:cGa 216:=.mk call216
instance:cGa 222:=.mk call222
instance:cGa 223:=.mk call223
instance:cGa 224:=.mk call224
instance:cGa 225:=.mk call225
instance:cGa 226:=.mk call226
instance:cGa 227:=.mk call227
instance:cGa 228:=.mk call228
instance:cGa 232:=.mk call232
instance:cGa 233:=.mk call233
instance:cGa 234:=.mk call234
instance:cGa 235:=.mk call235
instance:cGa 236:=.mk call236
instance:cGa 237:=.mk call237
instance:cGa 238:=.mk call238
instance:cGa 239:=.mk call239
instance:cGa 240:=.mk call240
instance:cGa 241:=.mk call241
instance:cGa 246:=.mk call246
instance:cGa 247:=.mk call247
instance:cGa 248:=.mk call248
instance:cGa 249:=.mk call249
instance:cGa 250:=.mk call250
instance:cGa 251:=.mk call251
instance:cGa 252:=.mk call252
instance:cGa 253:=.mk call253
instance:cGa 254:=.mk call254
instance:cGa 255:=.mk call255
instance:cGa 256:=.mk call256
instance:cGa 259:=.mk call259
instance:cGa 260:=.mk call260
instance:cGa 261:=.mk call261
instance:cGa 262:=.mk call262
instance:cGa 263:=.mk call263
instance:cGa 264:=.mk call264
instance:cGa 265:=.mk call265
instance:cGa 266:=.mk call266
instance:cGa 277:=.mk call277
instance:EncT Tryz.prog 87 1 Mn:=⟨pU⟩
instance:EncE 1 Mn:=⟨_,_,pU⟩
instance:EncT Tryz.prog 5 1 Yd4:=⟨pB⟩
instance:EncE 1 Yd4:=⟨_,_,pB⟩
instance:EncT Tryz.prog 3 1 Ypu:=⟨pN⟩
instance:EncE 1 Ypu:=⟨_,_,pN⟩
instance:EncT Tryz.prog 3 1 Xk:=⟨pZ⟩
instance:EncE 1 Xk:=⟨_,_,pZ⟩
instance:EncT Tryz.prog 130 2 Yj3:=⟨pW⟩
instance:EncE 2 Yj3:=⟨_,_,pW⟩
instance:EncT Tryz.prog 130 2 wv:=⟨pV⟩
instance:EncE 2 wv:=⟨_,_,pV⟩
instance:EncT Tryz.prog 216 2 Ypv:=⟨pI⟩
instance:EncE 2 Ypv:=⟨_,_,pI⟩
instance {α:Type} : EncT Tryz.prog 96 1 (Pf (α:=α)):=⟨pS⟩
instance {α:Type} : EncE 1 (Pf (α:=α)):=⟨_,_,pS⟩
instance:EncT Tryz.prog 299 8 iq:=⟨pY⟩
instance:EncE 8 iq:=⟨_,_,pY⟩
instance:EncT Tryz.prog 132 4 rq:=⟨pQ⟩
instance:EncE 4 rq:=⟨_,_,pQ⟩
instance:EncT Tryz.prog 132 4 encQ:=⟨pR⟩
instance:EncE 4 encQ:=⟨_,_,pR⟩
@[reducible,instance]def iUnd23:=Und.mk Tryz.underlying23
@[reducible,instance]def iUnd25:=Und.mk Tryz.underlying25
@[reducible,instance]def iUnd31:=Und.mk Tryz.underlying31
@[reducible,instance]def iUnd37:=Und.mk Tryz.underlying37
@[reducible,instance]def iUnd38:=Und.mk Tryz.underlying38
@[reducible,instance]def iUnd40:=Und.mk Tryz.underlying40
@[reducible,instance]def iUnd42:=Und.mk Tryz.underlying42
@[reducible,instance]def iUnd50:=Und.mk Tryz.underlying50
@[reducible,instance]def iUnd52:=Und.mk Tryz.underlying52
@[reducible,instance]def iUnd59:=Und.mk Tryz.underlying59
@[reducible,instance]def iUnd63:=Und.mk Tryz.underlying63
@[reducible,instance]def iUnd72:=Und.mk Tryz.underlying72
@[reducible,instance]def iUnd73:=Und.mk Tryz.underlying73
@[reducible,instance]def iUnd75:=Und.mk Tryz.underlying75
@[reducible,instance]def iUnd76:=Und.mk Tryz.underlying76
@[reducible,instance]def iUnd82:=Und.mk Tryz.underlying82
@[reducible,instance]def iUnd89:=Und.mk Tryz.underlying89
@[reducible,instance]def iUnd101:=Und.mk Tryz.underlying101
@[reducible,instance]def iUnd114:=Und.mk Tryz.underlying114
@[reducible,instance]def iUnd117:=Und.mk Tryz.underlying117
@[reducible,instance]def iUnd120:=Und.mk Tryz.underlying120
@[reducible,instance]def iUnd142:=Und.mk Tryz.underlying142
@[reducible,instance]def iUnd145:=Und.mk Tryz.underlying145
@[reducible,instance]def iUnd155:=Und.mk Tryz.underlying155
@[reducible,instance]def iUnd168:=Und.mk Tryz.underlying168
@[reducible,instance]def iUnd197:=Und.mk Tryz.underlying197
@[reducible,instance]def iUnd222:=Und.mk Tryz.underlying222
@[reducible,instance]def iUnd225:=Und.mk Tryz.underlying225
@[reducible,instance]def iUnd239:=Und.mk Tryz.underlying239
@[reducible,instance]def iUnd245:=Und.mk Tryz.underlying245
@[reducible,instance]def iUnd246:=Und.mk Tryz.underlying246
@[reducible,instance]def iUnd275:=Und.mk Tryz.underlying275
@[reducible,instance]def iUnd311:=Und.mk Tryz.underlying311
@[reducible,instance]def iUnd332:=Und.mk Tryz.underlying332
@[reducible,instance]def iUnd334:=Und.mk Tryz.underlying334
@[reducible,instance]def iSiz23:=Siz.mk Tryz.sizeOf23
@[reducible,instance]def iSiz25:=Siz.mk Tryz.sizeOf25
@[reducible,instance]def iSiz31:=Siz.mk Tryz.sizeOf31
@[reducible,instance]def iSiz37:=Siz.mk Tryz.sizeOf37
@[reducible,instance]def iSiz38:=Siz.mk Tryz.sizeOf38
@[reducible,instance]def iSiz40:=Siz.mk Tryz.sizeOf40
@[reducible,instance]def iSiz42:=Siz.mk Tryz.sizeOf42
@[reducible,instance]def iSiz50:=Siz.mk Tryz.sizeOf50
@[reducible,instance]def iSiz52:=Siz.mk Tryz.sizeOf52
@[reducible,instance]def iSiz73:=Siz.mk Tryz.sizeOf73
@[reducible,instance]def iSiz82:=Siz.mk Tryz.sizeOf82
@[reducible,instance]def iSiz89:=Siz.mk Tryz.sizeOf89
@[reducible,instance]def iSiz101:=Siz.mk Tryz.sizeOf101
@[reducible,instance]def iSiz106:=Siz.mk Tryz.sizeOf106
@[reducible,instance]def iSiz120:=Siz.mk Tryz.sizeOf120
@[reducible,instance]def iSiz142:=Siz.mk Tryz.sizeOf142
@[reducible,instance]def iSiz155:=Siz.mk Tryz.sizeOf155
@[reducible,instance]def iSiz197:=Siz.mk Tryz.sizeOf197
@[reducible,instance]def iSiz222:=Siz.mk Tryz.sizeOf222
@[reducible,instance]def iSiz245:=Siz.mk Tryz.sizeOf245
@[reducible,instance]def iSiz246:=Siz.mk Tryz.sizeOf246
@[reducible,instance]def iSiz275:=Siz.mk Tryz.sizeOf275
@[reducible,instance]def iSiz311:=Siz.mk Tryz.sizeOf311
@[reducible,instance]def iSiz331:=Siz.mk Tryz.sizeOf331
@[reducible,instance]def iAgg3:=Agg.mk Tryz.isAgg3
@[reducible,instance]def iAgg23:=Agg.mk Tryz.isAgg23
@[reducible,instance]def iAgg25:=Agg.mk Tryz.isAgg25
@[reducible,instance]def iAgg31:=Agg.mk Tryz.isAgg31
@[reducible,instance]def iAgg37:=Agg.mk Tryz.isAgg37
@[reducible,instance]def iAgg38:=Agg.mk Tryz.isAgg38
@[reducible,instance]def iAgg40:=Agg.mk Tryz.isAgg40
@[reducible,instance]def iAgg42:=Agg.mk Tryz.isAgg42
@[reducible,instance]def iAgg50:=Agg.mk Tryz.isAgg50
@[reducible,instance]def iAgg52:=Agg.mk Tryz.isAgg52
@[reducible,instance]def iAgg87:=Agg.mk Tryz.isAgg87
@[reducible,instance]def iAgg89:=Agg.mk Tryz.isAgg89
@[reducible,instance]def iAgg96:=Agg.mk Tryz.isAgg96
@[reducible,instance]def iAgg101:=Agg.mk Tryz.isAgg101
@[reducible,instance]def iAgg106:=Agg.mk Tryz.isAgg106
@[reducible,instance]def iAgg120:=Agg.mk Tryz.isAgg120
@[reducible,instance]def iAgg142:=Agg.mk Tryz.isAgg142
@[reducible,instance]def iAgg152:=Agg.mk Tryz.isAgg152
@[reducible,instance]def iAgg155:=Agg.mk Tryz.isAgg155
@[reducible,instance]def iAgg174:=Agg.mk Tryz.isAgg174
@[reducible,instance]def iAgg178:=Agg.mk Tryz.isAgg178
@[reducible,instance]def iAgg197:=Agg.mk Tryz.isAgg197
@[reducible,instance]def iAgg204:=Agg.mk Tryz.isAgg204
@[reducible,instance]def iAgg222:=Agg.mk Tryz.isAgg222
@[reducible,instance]def iAgg239:=Agg.mk Tryz.isAgg239
@[reducible,instance]def iAgg246:=Agg.mk Tryz.isAgg246
@[reducible,instance]def iAgg311:=Agg.mk Tryz.isAgg311
@[reducible,instance]def iAgg331:=Agg.mk Tryz.isAgg331
@[reducible,instance]def iZer3:=Zer.mk Tryz.zeroValue3
@[reducible,instance]def iZer4:=Zer.mk Tryz.zeroValue4
@[reducible,instance]def iZer23:=Zer.mk Tryz.zeroValue23
@[reducible,instance]def iZer25:=Zer.mk Tryz.zeroValue25
@[reducible,instance]def iZer26:=Zer.mk Tryz.zeroValue26
@[reducible,instance]def iZer31:=Zer.mk Tryz.zeroValue31
@[reducible,instance]def iZer38:=Zer.mk Tryz.zeroValue38
@[reducible,instance]def iZer40:=Zer.mk Tryz.zeroValue40
@[reducible,instance]def iZer42:=Zer.mk Tryz.zeroValue42
@[reducible,instance]def iZer50:=Zer.mk Tryz.zeroValue50
@[reducible,instance]def iZer52:=Zer.mk Tryz.zeroValue52
@[reducible,instance]def iZer63:=Zer.mk Tryz.zeroValue63
@[reducible,instance]def iZer89:=Zer.mk Tryz.zeroValue89
@[reducible,instance]def iZer101:=Zer.mk Tryz.zeroValue101
@[reducible,instance]def iZer106:=Zer.mk Tryz.zeroValue106
@[reducible,instance]def iZer120:=Zer.mk Tryz.zeroValue120
@[reducible,instance]def iZer142:=Zer.mk Tryz.zeroValue142
@[reducible,instance]def iZer145:=Zer.mk Tryz.zeroValue145
@[reducible,instance]def iZer155:=Zer.mk Tryz.zeroValue155
@[reducible,instance]def iZer197:=Zer.mk Tryz.zeroValue197
@[reducible,instance]def iZer222:=Zer.mk Tryz.zeroValue222
@[reducible,instance]def iZer246:=Zer.mk Tryz.zeroValue246
@[reducible,instance]def iZer275:=Zer.mk Tryz.zeroValue275
@[reducible,instance]def iZer311:=Zer.mk Tryz.zeroValue311
open Go.Proofs.Tryz
instance:cGa 13:=.mk call13
instance:cGa 14:=.mk call14
instance:cGa 15:=.mk call15
instance:cGa 16:=.mk call16
instance:cGa 18:=.mk call18
instance:cGa 20:=.mk call20
instance:cGa 21:=.mk call21
instance:cGa 25:=.mk call25
instance:cGa 26:=.mk call26
instance:cGa 27:=.mk call27
instance:cGa 28:=.mk call28
instance:cGa 29:=.mk call29
instance:cGa 34:=.mk call34
instance:cGa 48:=.mk call48
instance:cGa 49:=.mk call49
instance:cGa 50:=.mk call50
instance:cGa 51:=.mk call51
instance:cGa 52:=.mk call52
instance:cGa 53:=.mk call53
instance:cGa 54:=.mk call54
instance:cGa 55:=.mk call55
instance:cGa 56:=.mk call56
instance:cGa 57:=.mk call57
instance:cGa 58:=.mk call58
instance:cGa 59:=.mk call59
instance:cGa 61:=.mk call61
instance:cGa 62:=.mk call62
instance:cGa 63:=.mk call63
instance:cGa 64:=.mk call64
instance:cGa 67:=.mk call67
instance:cGa 68:=.mk call68
instance:cGa 69:=.mk call69
instance:cGa 70:=.mk call70
instance:cGa 71:=.mk call71
instance:cGa 75:=.mk call75
instance:cGa 76:=.mk call76
instance:cGa 77:=.mk call77
instance:cGa 78:=.mk call78
instance:cGa 88:=.mk call88
instance:cGa 92:=.mk call92
instance:cGa 93:=.mk call93
instance:cGa 94:=.mk call94
instance:cGa 95:=.mk call95
instance:cGa 96:=.mk call96
instance:cGa 97:=.mk call97
instance:cGa 98:=.mk call98
instance:cGa 99:=.mk call99
instance:cGa 100:=.mk call100
instance:cGa 101:=.mk call101
instance:cGa 102:=.mk call102
instance:cGa 103:=.mk call103
instance:cGa 104:=.mk call104
instance:cGa 105:=.mk call105
instance:cGa 106:=.mk call106
instance:cGa 115:=.mk call115
instance:cGa 116:=.mk call116
instance:cGa 117:=.mk call117
instance:cGa 118:=.mk call118
instance:cGa 119:=.mk call119
instance:cGa 120:=.mk call120
instance:cGa 121:=.mk call121
instance:cGa 123:=.mk call123
instance:cGa 124:=.mk call124
instance:cGa 125:=.mk call125
instance:cGa 138:=.mk call138
instance:cGa 139:=.mk call139
instance:cGa 140:=.mk call140
instance:cGa 141:=.mk call141
instance:cGa 142:=.mk call142
instance:cGa 143:=.mk call143
instance:cGa 144:=.mk call144
instance:cGa 145:=.mk call145
instance:cGa 156:=.mk call156
instance:cGa 157:=.mk call157
instance:cGa 158:=.mk call158
instance:cGa 159:=.mk call159
instance:cGa 160:=.mk call160
instance:cGa 161:=.mk call161
instance:cGa 163:=.mk call163
instance:cGa 164:=.mk call164
instance:cGa 165:=.mk call165
instance:cGa 174:=.mk call174
instance:cGa 175:=.mk call175
instance:cGa 182:=.mk call182
instance:cGa 183:=.mk call183
instance:cGa 190:=.mk call190
instance:cGa 191:=.mk call191
instance:cGa 192:=.mk call192
instance:cGa 193:=.mk call193
instance:cGa 194:=.mk call194
instance:cGa 195:=.mk call195
instance:cGa 217:=.mk call217
instance:cGa 218:=.mk call218
instance:cGa 219:=.mk call219
instance:cGa 220:=.mk call220
instance:cGa 221:=.mk call221
instance:cGa 242:=.mk call242
instance:cGa 243:=.mk call243
instance:cGa 244:=.mk call244
instance:cGa 245:=.mk call245
instance:cGa 257:=.mk call257
instance:cGa 258:=.mk call258
instance:cGa 267:=.mk call267
instance:cGa 273:=.mk call273
instance:cGa 283:=.mk call283
open Go.Proofs.Tryz
set_option synthInstance.maxSize 100000
set_option maxRecDepth 20000
set_option linter.unusedSimpArgs false
theorem Yhz(v:Value)(xs:List Nat):Cal prog 150 #[v] [Yt 1 Mn v xs] true (G:=Unit) (λ_=>True) (λ_=>Gv v (tz xs).length) (λ_=>[Yt 1 Mn (Gv v (tz xs).length) (tz xs)]):=by
 refine Ze func150 ntmps150 λo n m c=>?_;refine Mm (Yjv (i:=1) J Zl) (λa=>?_);refine Mm (Fj (i:=1) J Zl) λl=>go 7 ?_;refine lp (G:=Nat) [] [0] (λk=>[(0,Gv v k)]) (λk=>[(1,Yt 1 Mn (Gv v k) (xs.take k))]) (λk=>(k<=xs.length)/\(tz (xs.take k)=tz xs)) (λk=>k) xs.length ⟨aI _,by rw [cK]⟩ ⟨by rw [a];rfl,aA⟩ ⟨by rw [a,cK];rfl,aA⟩ ?_;rintro k ⟨g,h⟩;have e:(xs.take k).length=k:=by rw [dX];omega
 refine go 7<|Zk 6 J (λj=>?_) (λj=>?_)
 .refine go 4 ⟨O1,?_⟩;refine Hz (Yk 1 (k-1) J J J J Zl Po Dl) J J<|go 5 ⟨O1,?_⟩;refine Zb J (λf=>?_) (λf=>?_)
  .have b:=Ym2 g O1 (by omega:(xs.take k).getD (k-1) 0=0);refine go 8 ⟨O1,?_⟩;refine dt (d_pre 1 (i:=k-1) J J J J Zl Po Dl)<|go 3 ?_;exact Xh (s_pre 1 1 (k-1) J J)<|Yj (k-1) ⟨O2,by rw [<-h,<-b]⟩ O2 ⟨by rw [<-Zd3 v k (k-1)];rfl,aA⟩ ⟨by rw [Zd3,kE,eQ O1];rfl,aA⟩
  .refine go 12 ?_;have d:tz xs=xs.take k:=by rw [<-h];exact Zo8 g O1
   exact Yv c () results150 (by rw [d,e]) aA (Kk 1 Za (by rw [d,e]))
 .refine go 23 ?_;have d:tz xs=xs.take k:=by rw [<-h];exact Zo8 g O1
  exact Yv c () results150 (by rw [d,e]) aA (Kk 1 Za (by rw [d,e]))
def Px:Cal prog 150 #[v] [Yt 1 Mn v xs] false (G:=Unit) (λ_=>True) (λ_=>Gv v (tz xs).length) (λ_=>[]):=(Yhz v xs).bare
theorem Yah(t:bl x<=4294967296)(I:bl y<=4294967296):Cal prog 153 #[v,w] [Dq v x,Dq w y] false (G:=Value) (λr=>True) (λr=>r) (λr=>[Dq r (x+y)]):=by
 refine Ze func153 ntmps153 λQ M n m=>?_;have F:=Mb x;have H:=Mb y;refine go 5 ?_;refine jn (G:=Value×Value×Nat×Nat) [] [0,1,2] (λq=>[(0,q.1),(1,q.2.1)]) (λq=>[(91,Dq q.1 q.2.2.1),(92,Dq q.2.1 q.2.2.2)]) (λq=>(q.2.2.1+q.2.2.2=x+y)/\((dg U q.2.2.2).length<=(dg U q.2.2.1).length)/\((dg U q.2.2.1).length<=1099511627776)) ?_ ?_
 .refine go 9<|Zb J (λg=>?_) (λg=>?_)
  .refine go 6<|Xh (Kn 2 91 J J J)<|Xh (Kn 1 92 J J J) ?_;exact Fb (w,v,y,x) ⟨O2,O2,O2⟩ K2 K2
  .refine go 1<|Xh (Kn 1 91 J J J)<|Xh (Kn 2 92 J J J) ?_;exact Fb (v,w,x,y) ⟨O2,O2,O2⟩ K2 K2
 .rintro⟨N,P,a,b⟩ ⟨hs,s,j⟩;dsimp only at hs s j;dsimp only;refine go 5 ⟨O1,?_⟩;refine tt (Dt 3 ((dg U a).length+1) 8 (enc:=Mn) 0 J J J J Po ti87 J pU.cells pU.pos J J J n.h) λv _=>go 17 ?_;refine lp (G:=Nat×List Nat×Nat) [0,1,5,21] [0,91,92,1,2] (λq=>[(22,.int .i64 (q.1:Int)),(6,.int .u64 (q.2.2:Int))]) (λq=>[(3,Nk 1 87 Mn v q.2.1)]) (λq=>(q.1<=(dg U a).length)/\(q.2.1.length=(dg U a).length+1)/\(∀d∈q.2.1,d<U)/\(q.2.2<=1)/\(val U (q.2.1.take q.1)+q.2.2*U^q.1=val U ((dg U a).take q.1)+val U ((dg U b).take q.1))) (λq=>(dg U a).length-q.1) (0,List.replicate ((dg U a).length+1) 0,0) ⟨O2,O8,Lk Xt,O2,by simp [val]⟩ K2 K1 ?_;rintro⟨k,o,c⟩ ⟨z,l,e,u,f⟩;dsimp only at z l e u f;dsimp only;refine go 6<|Zb J (λh=>?_) (λh=>?_)
  .refine go 15 ?_;refine jn (G:=Unit) [0,1,5,6,7,21,22] [0,3,91,92,1,2] (λ_=>[(8,.int .u64 ((dg U b).getD k 0:Int))]) (λ_=>[]) (λ_=>True) ?_ ?_
   .refine go 8<|Zb J (λi=>?_) (λi=>?_)
    .refine go 7 ⟨O3,O3,?_⟩
     try (have p:(dg U b).getD k 0=0:=by simp [List.getD,cW (by omega:(dg U b).length<=k)])
     exact Fb () aA ⟨by first|rfl|(rw [p];rfl),aA⟩ aA
    .refine go 1 ?_
     try (have p:(dg U b).getD k 0=0:=by simp [List.getD,cW (by omega:(dg U b).length<=k)])
     exact Fb () aA ⟨by first|rfl|(rw [p];rfl),aA⟩ aA
   .rintro _ -;refine go 9 ⟨O3,O3,?_⟩;refine dt (Zro _ J J J J O1 Zio)<|go 4 ⟨O3,?_⟩;refine tt (Lu 3 (enc:=Mn) J J J J J J pU J n.h O4 O3) (λ_ _=>?_);refine go 8 ⟨O1,?_⟩;exact Yj (k+1,_,_) ⟨O2,O10,Iy e _ _ (bK _ Xt),by have B:=Pn Xt (Fk Xp a) k;have D:=Pn Xt (Fk Xp b) k;simp only [U]at *;omega,Yl0 f O1⟩ O2 K2 K1
  .refine go 6 ?_;obtain rfl:k=(dg U a).length:=O1;refine go 6 ⟨O3,?_⟩;refine tt (Lu 3 (enc:=Mn) J J J J J J pU J n.h O4 O3) λ_ _=>go 5 ?_;refine cl 3 [3] Px λ_ _=>?_;refine Ng (Zk3 3 J J pU)<|go 4 ?_;have t:tz (o.set (dg U a).length c)=dg U (x+y):=by
    rw [<-Bf Xp _ (Iy e _ _ (by simp only [U];omega)),<-hs];congr 1
    conv=>rhs;rw [<-Fd Xp a,<-Fd Xp b]
    rw [cN (aI (dg U a).length),Iq U (dg U b) s]at f;rw [<-f,<-Bj U o c O1,Iq _ _ O10]
   exact Yv m _ results153 J aA (gow 3 Za t)
theorem Zgw(p:bl x<=4294967296)(j:y<=x:=by omega):Cal prog 155 #[v,w] [Dq v x,Dq w y] false (G:=Value) (λr=>True) (λr=>r) (λr=>[Dq r (x-y)]):=by
 refine Ze func155 ntmps155 λH F n h=>?_;have z:=Mb x;have B:=Mb y;have D:=Lq j;refine go 9 ?_;refine tt (Dt 3 ((dg U x).length) 8 (enc:=Mn) 0 J J J J Po ti87 J pU.cells pU.pos J J J n.h) λv _=>go 17 ?_;refine lp (G:=Nat×List Nat×Nat) [0,1,5,13] [0,1,2] (λq=>[(14,.int .i64 (q.1:Int)),(6,.int .u64 (q.2.2:Int))]) (λq=>[(3,Nk 1 87 Mn v q.2.1)]) (λq=>(q.1<=(dg U x).length)/\(q.2.1.length=(dg U x).length)/\(∀d∈q.2.1,d<U)/\(q.2.2<=1)/\(val U (q.2.1.take q.1)+val U ((dg U y).take q.1)=val U ((dg U x).take q.1)+q.2.2*U^q.1)) (λq=>(dg U x).length-q.1) (0,List.replicate ((dg U x).length) 0,0) ⟨O2,O8,Lk Xt,O2,by simp [val]⟩ K2 K1 ?_;rintro⟨k,o,c⟩ ⟨u,b,a,m,i⟩;dsimp only at u b a m i;dsimp only;refine go 6<|Zb J (λe=>?_) (λe=>?_)
 .refine go 15 ?_;refine jn (G:=Unit) [0,1,5,6,7,13,14] [0,3,1,2] (λ_=>[(8,.int .u64 ((dg U y).getD k 0:Int))]) (λ_=>[]) (λ_=>True) ?_ ?_
  .refine go 8<|Zb J (λf=>?_) (λf=>?_)
   .refine go 7 ⟨O3,O3,?_⟩
    try (have l:(dg U y).getD k 0=0:=by simp [List.getD,cW (by omega:(dg U y).length<=k)])
    exact Fb () aA ⟨by first|rfl|(rw [l];rfl),aA⟩ aA
   .refine go 1 ?_
    try (have l:(dg U y).getD k 0=0:=by simp [List.getD,cW (by omega:(dg U y).length<=k)])
    exact Fb () aA ⟨by first|rfl|(rw [l];rfl),aA⟩ aA
  .rintro _ -;refine go 9 ⟨O3,O3,?_⟩;refine dt (Yp5 J J J J O1 Ycr)<|go 4 ⟨O3,?_⟩;refine tt (Lu 3 (enc:=Mn) J J J J J J pU J n.h O4 O3) (λ_ _=>?_);refine go 8 ⟨O1,?_⟩;exact Yj (k+1,_,_) ⟨O2,O10,Iy a _ _ (bK _ Xt),brw_le,Yfi m (Pn Xt (Fk Xp x) k) (Pn Xt (Fk Xp y) k) i O1⟩ O2 K2 K1
 .refine go 8 ?_;refine cl 3 [3] Px λ_ _=>?_;refine Ng (Zk3 3 J J pU)<|go 4 ?_;obtain rfl:k=(dg U x).length:=O1;have p:tz o=dg U (x-y):=by rw [<-Bf Xp _ a];congr 1;have g:(dg U y).length<=(dg U x).length:=O1;rw [Iq U o O1,Iq U (dg U y) g,Iq U (dg U x) (aI _),Fd Xp,Fd Xp]at i;have t:=Zki Xt o a;rw [b]at t;have s:c=0\/c=1:=O1;rcases s with rfl|rfl<;>omega
  exact Yv h _ results155 J aA (gow 3 Za p)
theorem Zda(p:bl x<=4294967296)(q:bl y<=4294967296):Cal prog 154 #[v,w] [Dq v x,Dq w y] false (G:=Int) (λr=>(r<0↔x<y)/\(0<r↔y<x)) (λr=> .int .i64 r) (λr=>[]):=by
 refine Ze func154 ntmps154 λt s o a=>?_;have l:=Mb x;have m:=Mb y;refine go 15<|Zb J (λe=>?_) (λe=>?_)
 .refine go 12 ⟨O1,?_⟩;exact Yv a _ results154 J ⟨⟨λh=>Zon Xp O1,λh=>by have:=Lq (eD h);omega⟩,⟨λh=>Zon Xp O1,λh=>by have:=Lq (eD h);omega⟩⟩ Za
 .have c:(dg U x).length=(dg U y).length:=O1;refine go 12 ⟨O1,?_⟩;refine lp (G:=Nat) [0,1] [0,1,2] (λk=>[(5,.int .i64 ((k:Int)-1))]) (λk=>[]) (λk=>(k<=(dg U x).length)/\((dg U x).drop k=(dg U y).drop k)) (λk=>k) (dg U x).length ⟨O2,by rw [List.drop_length,c,List.drop_length]⟩ K1 aA ?_;rintro k ⟨n,d⟩;refine go 7<|Zb J (λf=>?_) (λf=>?_)
  .refine go 6<|Pg (λ_=>False) [(0,0),(1,0),(2,0),(3,0),(4,0),(5,0),(6,0),(7,0),(8,0),(9,0)]<|go 2 ?_;refine Qb J J (Pj (Yk 1 (k-1) J J J J Zl Po Dl))<|go 3 ⟨O3,?_⟩;refine Qb J J (Pj (Yk 2 (k-1) J J J J Zl Po Dl))<|go 5 ⟨O3,?_⟩;refine Zb J (λg=>?_) (λg=>?_)
   .refine go 12 ?_;have b:=Yk3 Xt (xs:=dg U x) (ys:=dg U y) (Fk Xp x) (k:=k-1) O1 O1 (by rw [show k-1+1=k by omega];exact d) O1;rw [Fd Xp,Fd Xp]at b;exact Yv a (-1) results154 J O1 Za
   .refine go 1<|Pg (λ_=>False) [(0,0),(1,0),(2,0),(3,0),(4,0),(5,0),(6,0),(7,0),(8,0),(9,0)]<|go 2 ?_;refine Qb J J (Pj (Yk 1 (k-1) J J J J Zl Po Dl))<|go 3 ⟨O3,?_⟩;refine Qb J J (Pj (Yk 2 (k-1) J J J J Zl Po Dl))<|go 5 ⟨O3,?_⟩;refine Zb J (λi=>?_) (λi=>?_)
    .refine go 12 ?_;have b:=Yk3 Xt (xs:=dg U y) (ys:=dg U x) (Fk Xp y) (k:=k-1) O1 O1 (by rw [show k-1+1=k by omega];exact d.symm) O1;rw [Fd Xp,Fd Xp]at b;exact Yv a 1 results154 J O1 Za
    .refine go 9 ⟨O1,?_⟩;exact Yj (k-1) ⟨O2,by have:=Zrl (xs:=dg U x) (ys:=dg U y) (k:=k-1) O1 O1 (by rw [show k-1+1=k by omega];exact d) O1;exact this⟩ O2 ⟨by rw [show(((k-1:Nat):Int)-1)=(k:Int)-1-1 by omega];rfl,aA⟩ aA
  .refine go 11 ?_;obtain rfl:k=0:=O1;have j:x=y:=(Zoo Xp).1 (by simpa using d);exact Yv a 0 results154 J O1 Za
theorem Ylm(b:x<U)(c:y<U):Xf prog 130 #[.int .u64 (x:Int),.int .u64 (y:Int)] [] (.tuple #[.int .u64 ((x*y/U:Nat):Int),.int .u64 ((x*y%U:Nat):Int)]):=by refine Ze func130 ntmps130 λf e d a=>?_;simp only [U]at b c;refine go 9 ?_;refine dt (Zsu J J J b)<|go 6 ?_;refine dt (Fu 4294967296 (n:=32) J J J J J)<|go 6 ?_;refine dt (Zsu J J J c)<|go 6 ?_;refine dt (Fu 4294967296 (n:=32) J J J J J)<|go 7 ?_;refine dt (Bh J J J)<|go 7 ?_;refine dt (Bh J J J)<|go 1 ?_;refine dt (Fu 4294967296 (n:=32) J J J J J)<|dt (Aj J J J)<|go 6 ?_;refine dt (Zsu J J J (bK _ Xt))<|go 6 ?_;refine dt (Fu 4294967296 (n:=32) J J J J J)<|go 8 ?_;refine dt (Bh J J J)<|dt (Aj J J J)<|go 7 ?_;refine dt (Bh J J J)<|go 1 ?_;refine dt (Aj J J J)<|go 1 ?_;refine dt (Fu 4294967296 (n:=32) J J J J J)<|dt (Aj J J J)<|go 7 ?_;refine dt (Bh J J J)<|go 4 ?_;exact Nn a () results130 (by rw [Yh1 b c rfl rfl]) aA Za
theorem Yaf(F:bl x<=4294967296)(P:bl y<=4294967296):Cal prog 187 #[v,w] [Dq v x,Dq w y] false (G:=Value) (λr=>True) (λr=>r) (λr=>[Dq r (x*y)]):=by
 refine Ze func187 ntmps187 λR Q B z=>?_;have M:=Mb x;have N:=Mb y;refine go 12 ⟨O1,?_⟩;refine tt (Dt 3 ((dg U x).length+(dg U y).length) 8 (enc:=Mn) 0 J J J J Po ti87 J pU.cells pU.pos J J J B.h) λv _=>go 12 ?_;refine lp (G:=Nat×List Nat) [1,5,20,21] [0,1,2] (λq=>[(22,.int .i64 (q.1:Int))]) (λq=>[(3,Nk 1 87 Mn v q.2)]) (λq=>(q.1<=(dg U x).length)/\(q.2.length=(dg U x).length+(dg U y).length)/\(∀d∈q.2,d<U)/\(∀j,q.1+(dg U y).length<=j->q.2.getD j 0=0)/\(val U (q.2.take (q.1+(dg U y).length))=val U ((dg U x).take q.1)*y)) (λq=>(dg U x).length-q.1) (0,List.replicate ((dg U x).length+(dg U y).length) 0) ⟨O2,O8,Lk Xt,λj _=>Dc _ j,by simp [val,mI,Cj]⟩ K1 K1 ?_;rintro⟨i,o⟩ ⟨hi,s,g,H,t⟩;dsimp only at hi s g H t;dsimp only;refine go 6<|Zb J (λm=>?_) (λm=>?_)
 .refine go 27 ⟨O3,O3,?_⟩;refine lp (G:=Nat×List Nat×Nat) [1,5,6,7,20,21,22,27,28] [0,1,2] (λq=>[(29,.int .i64 (q.1:Int)),(8,.int .u64 (q.2.2:Int))]) (λq=>[(3,Nk 1 87 Mn v q.2.1)]) (λq=>(q.1<=(dg U y).length)/\(q.2.1.length=(dg U x).length+(dg U y).length)/\(∀d∈q.2.1,d<U)/\(∀j,i+(dg U y).length<=j->q.2.1.getD j 0=0)/\(q.2.2<U)/\(val U (q.2.1.take (i+(dg U y).length))+q.2.2*U^(i+q.1)=val U ((dg U x).take i)*y+(dg U x).getD i 0*U^i*val U ((dg U y).take q.1))) (λq=>(dg U y).length-q.1) (0,o,0) ⟨O2,s,g,H,Xt,by rw [t];simp [val]⟩ K2 K1 ?_;rintro⟨k,p,c⟩ ⟨I,u,a,l,f,h⟩;dsimp only at I u a l f h;dsimp only;have b:=Ydi (Pn Xt (Fk Xp x) i) (Pn Xt (Fk Xp y) k) (Pn Xt a (i+k)) f;refine go 6<|Zb J (λn=>?_) (λn=>?_)
  .refine go 17 ⟨O3,O3,?_⟩;refine cl 3 [] (Ylm (Pn Xt (Fk Xp _) _) (Pn Xt (Fk Xp _) _)) λ_ _=>?_;refine go 14 ⟨O1,?_⟩;refine dt (Yk 3 (i+k) J J J J (Yu pU) Po Dl)<|go 1 ⟨O3,?_⟩;refine dt (Zro 0 J J J J O1 Zio)<|go 11 ?_;refine dt (Aj J J J)<|go 7 ?_;refine dt (Zro 0 J J J J O1 Zio)<|go 15 ⟨O1,?_⟩;refine dt (Aj J J J)<|dt (Yk 3 (i+k) J J J J (Yu pU) Po Dl)<|tt (Lu 3 (enc:=Mn) J J J J J J pU J B.h O4 O3) (λ_ _=>?_);refine go 8 ⟨O1,?_⟩;exact Yj (k+1,_,_) ⟨O2,O10,Iy a _ _ (bK _ Xt),λj D=>by rw [Ml O1,aF O1];exact l j D,b.2,Yh0 h O1 O1 b.1⟩ O2 K2 K1
  .refine go 5 ?_;obtain rfl:k=(dg U y).length:=O1;have e:=h;rw [cN (aI (dg U y).length),Fd Xp]at e;refine go 7 ⟨O1,?_⟩;refine dt (Yk 3 (i+(dg U y).length) J J J J (Yu pU) Po Dl)<|tt (Lu 3 (enc:=Mn) J J J J J J pU J B.h O4 O3) (λ_ _=>?_);refine go 7 ⟨O1,?_⟩;exact Yj (i+1,_) ⟨O2,O10,Iy a _ _ f,λj D=>by rw [Ml O1,aF O1];exact l j O1,by dsimp only;rw [show i+1+(dg U y).length=i+(dg U y).length+1 by omega,Bj _ _ _ O1,Oi,dO,<-e]⟩ O2 K1 K1
 .refine go 8 ?_;refine cl 3 [3] Px λ_ _=>?_;refine Ng (Zk3 3 J J pU)<|go 4 ?_;obtain rfl:i=(dg U x).length:=O1;have F:tz o=dg U (x*y):=by rw [<-Bf Xp _ g];congr 1;rw [Iq U o O1,cN (aI _),Fd Xp]at t;exact t
  exact Yv z _ results187 J aA (gow 3 Za F)
theorem Zv2(q:x<U):Xf prog 241 #[.int .u64 (x:Int)] [] (.int .i64 (bl x:Int)):=by
 refine Ze func241 ntmps241 λF D B g=>?_;simp only [U]at q;have c:=Gp x 32;have a:=Gp x 16;have l:=Gp x 8;have b:=Gp x 24;have d:=Gp x 40;have e:=Gp x 48;have f:=Gp x 56;have f32:=Zcp 32 x;have f16:=Zcp 16 x;have f8:=Zcp 8 x;have f24:=Zcp 24 x;have f40:=Zcp 40 x;have f48:=Zcp 48 x;have f56:=Zcp 56 x;have r:=aV x (2^32) (2^16);have s:=aV x (2^32) (2^8);have t:=aV x (2^16) (2^8);have u:=aV (x/2^32) (2^16) (2^8);have z:=aV x (2^32) (2^16*2^8);simp only [Nat.reducePow,Nat.reduceMul]at *;refine go 12<|Zb J (λm=>?_) (λm=>?_)
 .refine go 3 ?_;refine dt (Fu 4294967296 (n:=32) J J J J J)<|go 14 ?_;refine Zb J (λo=>?_) (λo=>?_)
  .refine go 3 ?_;refine dt (Fu 65536 (n:=16) J J J J J)<|go 16 ⟨O1,?_⟩;refine Zb J (λp=>?_) (λp=>?_)
   .refine go 3 ?_;refine dt (Fu 256 (n:=8) J J J J J)<|go 13 ⟨O1,?_⟩;refine dt (Zhh J J Zhr uT5)<|dt (Zi5 J J J uT9 J O1 O4 O9)<|dt (Zch J J uT5 uT3 Zas)<|go 5 ⟨Cy O1 O1,?_⟩;exact Yv g () results241 (Zaq x O1 (by first|omega|(simp only [aV,Nat.reduceMul,c,a,l,b,d,e,f];omega))).symm aA Za
   .refine go 6 ?_;refine dt (Zhh J J Zhr uT5)<|dt (Zi5 J J J uT9 J O1 O4 O9)<|dt (Zch J J uT5 uT3 Zas)<|go 5 ⟨Cy O1 O1,?_⟩;exact Yv g () results241 (Zaq x O1 (by first|omega|(simp only [aV,Nat.reduceMul,c,a,l,b,d,e,f];omega))).symm aA Za
  .refine go 9<|Zb J (λi=>?_) (λi=>?_)
   .refine go 3 ?_;refine dt (Fu 256 (n:=8) J J J J J)<|go 13 ⟨O1,?_⟩;refine dt (Zhh J J Zhr uT5)<|dt (Zi5 J J J uT9 J O1 O4 O9)<|dt (Zch J J uT5 uT3 Zas)<|go 5 ⟨Cy O1 O1,?_⟩;exact Yv g () results241 (Zaq x O1 (by first|omega|(simp only [aV,Nat.reduceMul,c,a,l,b,d,e,f];omega))).symm aA Za
   .refine go 6 ?_;refine dt (Zhh J J Zhr uT5)<|dt (Zi5 J J J uT9 J O1 O4 O9)<|dt (Zch J J uT5 uT3 Zas)<|go 5 ⟨Cy O1 O1,?_⟩;exact Yv g () results241 (Zaq x O1 (by first|omega|(simp only [aV,Nat.reduceMul,c,a,l,b,d,e,f];omega))).symm aA Za
 .refine go 9<|Zb J (λh=>?_) (λh=>?_)
  .refine go 3 ?_;refine dt (Fu 65536 (n:=16) J J J J J)<|go 16 ⟨O1,?_⟩;refine Zb J (λj=>?_) (λj=>?_)
   .refine go 3 ?_;refine dt (Fu 256 (n:=8) J J J J J)<|go 13 ⟨O1,?_⟩;refine dt (Zhh J J Zhr uT5)<|dt (Zi5 J J J uT9 J O1 O4 O9)<|dt (Zch J J uT5 uT3 Zas)<|go 5 ⟨Cy O1 O1,?_⟩;exact Yv g () results241 (Zaq x O1 (by first|omega|(simp only [aV,Nat.reduceMul,c,a,l,b,d,e,f];omega))).symm aA Za
   .refine go 6 ?_;refine dt (Zhh J J Zhr uT5)<|dt (Zi5 J J J uT9 J O1 O4 O9)<|dt (Zch J J uT5 uT3 Zas)<|go 5 ⟨Cy O1 O1,?_⟩;exact Yv g () results241 (Zaq x O1 (by first|omega|(simp only [aV,Nat.reduceMul,c,a,l,b,d,e,f];omega))).symm aA Za
  .refine go 9<|Zb J (λk=>?_) (λk=>?_)
   .refine go 3 ?_;refine dt (Fu 256 (n:=8) J J J J J)<|go 13 ⟨O1,?_⟩;refine dt (Zhh J J Zhr uT5)<|dt (Zi5 J J J uT9 J O1 O4 O9)<|dt (Zch J J uT5 uT3 Zas)<|go 5 ⟨Cy O1 O1,?_⟩;exact Yv g () results241 (Zaq x O1 (by first|omega|(simp only [aV,Nat.reduceMul,c,a,l,b,d,e,f];omega))).symm aA Za
   .refine go 6 ?_;refine dt (Zhh J J Zhr uT5)<|dt (Zi5 J J J uT9 J O1 O4 O9)<|dt (Zch J J uT5 uT3 Zas)<|go 5 ⟨Cy O1 O1,?_⟩;exact Yv g () results241 (Zaq x O1 (by first|omega|(simp only [aV,Nat.reduceMul,c,a,l,b,d,e,f];omega))).symm aA Za
theorem Zsa(b:x<U):Xf prog 216 #[.int .u64 (x:Int)] [] (.int .i64 ((64-bl x:Nat):Int)):=by refine Ze func216 ntmps216 λf e d a=>?_;have c:bl x<=64:=(Qs 64 x).2 b;refine go 8 ?_;refine cl 0 [] (Zv2 b) λ_ _=>?_;refine go 5 ⟨O1,?_⟩;exact Yv a () results216 (by congr 1;omega) aA Za
theorem Zls(g:bl x<=1099511627776:=by omega):Xf prog 185 #[v] [Dq v x] (.int .i64 (bl x:Int)):=by
 refine Ze func185 ntmps185 λj i f b=>?_;have e:=Mb x;refine go 13<|Zb J (λa=>?_) (λa=>?_)
 .refine go 7 ?_;have c:x=0:=(Ny Xp x).1 O1;exact Yv b () results185 (by rw [c];rfl) aA Za
 .have d:0<x:=by rcases bB x with rfl|h;(simp [Dg]at a);exact h
  obtain⟨k,l,m,n⟩:=Zzd d;refine go 11 ⟨O1,O1,?_⟩;refine dt (Yk 1 ((dg U x).length-1) J J J J Zl Po Dl)<|go 1 ⟨O3,?_⟩;refine cl 1 [] (Zsa (Pn Xt (Fk Xp _) _)) λ_ _=>?_;refine go 5 ⟨O1,?_⟩;exact Yv b () results185 (by congr 1;omega) aA Za
end Go.Sky

