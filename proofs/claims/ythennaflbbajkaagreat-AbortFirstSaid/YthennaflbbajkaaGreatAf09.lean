/- Rules, arithmetic and contracts: part 10. No conditions but those that each theorem names. -/
import Derived.Test.YthennaflbbajkaaGreatAf08
import Derived.MapKept
set_option linter.all false
namespace Go.Sky
variable{qs a b us:List Ze}{k i:Nat}{x:Int}{ts:List Int}
def jqP(fr g f:Int)(x y z:List Int)(c e d:Int)(h j l:List Int)(i:Nat):Prop:=qr (bgS (Yg i h j l)) (Av [d,e-c])=qr (enS (Yg i x y z)) (Av [f,g-fr])
def refS(o:Nat)(x y z:List Int):Nat->List Int
 | 0=>[]
 | i+1=>Zci (refS o x y z i) (Qx (dN o (tzl (Yg i x y z))) (dN o (tzl (Yg i x y z))))
def refC(o:Nat)(m c T:Int):Int:=m^2*c^2*T^(2*o)
def refF(o:Nat)(m c T:Int)(x y z:List Int):List Int:=Zbk (tzl [refC o m c T]) (Yy (refS o x y z 3) (1000^(2*o)))
def frB(ps:List Ze)(d c:Int)(i:Nat):Int:=
 if 0<i/\joG (ps.getD (i-1) G0) (ps.getD i G0)=false then 1 else if Zes (Yha 1 d (ps.getD i G0))=true then 2 else if Zes (Yha 2 c (ps.getD i G0))=true then 3 else 0
def fiB(ps:List Ze)(d c:Int):Option (Nat×Int):=((List.range ps.length).find? λi=>decide (frB ps d c i≠0)).map λi=>(i,frB ps d c i)
theorem tf(b:Bool):b=false\/b=true:=by cases b<;>simp
def fiI(o:Option (Nat×Int)):Int:=match o with
 | none=>0
 | some g=>g.1
def fiC(o:Option (Nat×Int)):Int:=match o with
 | none=>0
 | some g=>g.2
abbrev firV (o:Option (Nat×Int)):Value:= .tuple #[.agg #[.int .i64 (fiI o),.int .i64 (fiC o)],.bool o.isSome,.int .i64 0]
def spd(o:Nat)(x y z:List Int)(u:Rat):Rat:=Zc (refS o x y z 3) u
def lstB(o:Nat)(ps:List Ze):Nat:=Ykz (λn=>Ygk o ps (n:Int)) 14 0 10000
def lsV(o:Nat)(ps:List Ze):Nat:=if Ygk o ps 10000 then lstB o ps else 0
theorem Ya7(a b:Bool):a=false\/(a=true/\b=false)\/(a=true/\b=true):=by cases a<;>cases b<;>simp
def dR(o:Nat)(c:List Int)(u:Rat):Rat:=Zc (dN o (tzl c)) u
theorem Prt.num{q g:Ze}{G:Int}(h:Prt q g G):∃v s:Rat,0<=v/\0<s/\v+s<=1/\s*((g.1.2.1-g.1.1:Int):Rat)=((q.1.2.1-q.1.1:Int):Rat)/\v*((g.1.2.1-g.1.1:Int):Rat)=((q.1.1-g.1.1:Int):Rat)/\(0:Rat)<((g.1.2.1-g.1.1:Int):Rat)/\
  ∀i (u:Rat),Zc (Yg i q.2.1.2 q.2.2.1.2 q.2.2.2.2) u*(G:Rat)=((g.1.2.1-g.1.1:Int):Rat)^5*Zc (Yg i g.2.1.2 g.2.2.1.2 g.2.2.2.2) (v+s*u):=by
 have j:=h.a0;have l:=h.b0;have m:=h.ab;have o:=h.x;generalize g.1.2.1-g.1.1=d at *;generalize q.1.2.1-q.1.1=b at *;generalize q.1.1-g.1.1=a at *;have c:(0:Rat)<(d):=by exact_mod_cast (show 0<d by omega)
 have p:(0:Rat)<=(a):=by exact_mod_cast j
 have r:(0)<(b:Rat):=by exact_mod_cast l
 have n:(a:Rat)+(b)<=(d):=by exact_mod_cast m
 have hi:=fD.2 c;have e:(a:Rat)/d*d=a:=lS O4;have f:(b:Rat)/d*d=b:=lS O4;refine⟨(a)/d,(b)/d,?_,?_,?_,f,e,c,λi u=>o i _ u (by grind)⟩
 .grind [Rat.div_def,Rat.mul_nonneg,Rat.le_of_lt]
 .grind [Rat.div_def,Rat.mul_pos]
 .have:((a:Rat)/d+b/d)*d<=1*d:=O4;exact Rat.le_of_mul_le_mul_right this c
theorem lh_pat{fr d:Int}{ps:List Ze}(hi:∀g∈ps,Gin g)(f:Xc ps=true)(h:spF ps<=fr/\fr<d/\d<=spL ps)(c:Pp fr d ps=true)(j:qs.map Ds=Be fr d ps):Pat fr d ps qs:=
 Yii hi f c (j.trans (aO c)) (Zwq (Ea hi f).1 (λe=>by have:=(Oi f).2.1;grind) h.1 h.2.1 h.2.2)
def Zws{fr c:Int}{ps:List Ze}(h:Pp fr c ps=true):Zcy fr c ps=0:=aO h
def Yim{fr c:Int}{ps:List Ze}(h:Pp fr c ps=false):Zcy fr c ps=7:=aJ O4
def Ymd{fr d:Int}{ps:List Ze}(hi:∀g∈ps,Gin g)(e:Xc ps=true):∀g∈ps,Lp fr d g=true->MdG fr d g:=λg c f=>Yf8 (hi g c) ((Ea hi e).2.1 g c) f
def inn(fr c:Int)(ps:List Ze):List Int:=(ps.filter λg=>decide (fr<g.1.1) && decide (g.1.1<c)).map λg=>g.1.1
theorem inn_t{fr c:Int}{ps:List Ze}(f:k<ps.length)(d:fr<(ps.getD k G0).1.1)(e:(ps.getD k G0).1.1<c):inn fr c (ps.take (k+1))=inn fr c (ps.take k) ++ [(ps.getD k G0).1.1]:=by unfold inn;rw [Zoc (x:=ps.getD k G0) O4];grind
theorem inn_f{fr c:Int}{ps:List Ze}(d:k<ps.length)(h:¬(fr<(ps.getD k G0).1.1/\(ps.getD k G0).1.1<c)):inn fr c (ps.take (k+1))=inn fr c (ps.take k):=by unfold inn;rw [Zoc (x:=ps.getD k G0) O4];grind
theorem Zpl(fr c:Int)(ps:List Ze):(inn fr c ps).length<=ps.length:=by unfold inn;grind
theorem Zyz{fr c:Int}{ps:List Ze} : x∈inn fr c ps↔∃g∈ps,g.1.1=x/\fr<x/\x<c:=by
 unfold inn;constructor
 .grind
 .rintro⟨g,f,rfl,d,e⟩;grind
def cmF(a b:List Ze):Int:=max (spF a) (spF b)
def cmL(a b:List Ze):Int:=min (spL a) (spL b)
def Zeh(a b:List Ze)(i:Nat):List Int:=cmF a b::cmL a b::((if 1<=i then inn (cmF a b) (cmL a b) a else []) ++ (if 2<=i then inn (cmF a b) (cmL a b) b else []))
def Hk(a b:List Ze):List Int:=Zro (Zeh a b 2)
def Cb{α:Type _}(i:Nat)(a b:α):α:=if i=0 then a else b
theorem tms_s(h:i<2):Zeh a b (i+1)=Zeh a b i ++ inn (cmF a b) (cmL a b) (Cb i a b):=by
 match i,h with
 | 0,_=>simp [Zeh,Cb]
 | 1,_=>simp [Zeh,Cb]
theorem Ziv : x∈Hk a b↔x=cmF a b\/x=cmL a b\/(cmF a b<x/\x<cmL a b/\((∃g∈a,g.1.1=x)\/∃g∈b,g.1.1=x)):=by
 unfold Hk;rw [Zkv];show x∈cmF a b::cmL a b::(inn _ _ a ++ inn _ _ b)↔_;rw [aU,aU,cW,Zyz,Zyz];constructor
 .rintro(h|h|⟨g,c,d,e,f⟩|⟨g,c,d,e,f⟩)
  .exact .inl h
  .exact .inr (.inl h)
  .exact .inr (.inr ⟨e,f,.inl ⟨g,c,d⟩⟩)
  .exact .inr (.inr ⟨e,f,.inr ⟨g,c,d⟩⟩)
 .rintro(h|h|⟨e,f,⟨g,c,d⟩|⟨g,c,d⟩⟩)
  .exact .inl h
  .exact .inr (.inl h)
  .exact .inr (.inr (.inl ⟨g,c,d,e,f⟩))
  .exact .inr (.inr (.inr ⟨g,c,d,e,f⟩))
def Yoc(a b:List Ze):Sst (Hk a b) (Hk a b).length:=Zxr (Zk5 _)
theorem Zs7(x:Int):∀l:List Int,(Zk4 x l).length<=l.length+1
 | []=>aI _
 | y::l=>by have:=Zs7 x l;unfold Zk4;grind
theorem Zs5:∀l:List Int,(Zro l).length<=l.length
 | []=>aI _
 | x::l=>by have:=Zs5 l;have:=Zs7 x (Zro l);show(Zk4 x (Zro l)).length<=_;simp only [dX];omega
theorem Zpk(a b:List Ze)(i:Nat):(Zeh a b i).length<=2+a.length+b.length:=by have c:=Zpl (cmF a b) (cmL a b) a;have d:=Zpl (cmF a b) (cmL a b) b;unfold Zeh;split<;>split<;>simp<;>omega
theorem Zy8(a b:List Ze):(Hk a b).length<=2+a.length+b.length:=aB (Zs5 _) (Zpk a b 2)
structure Bks (a b:List Ze):Prop where
 two:2<=(Hk a b).length
 hd:(Hk a b).getD 0 0=cmF a b
 ls:(Hk a b).getD ((Hk a b).length-1) 0=cmL a b
 lt:∀k,k+1<(Hk a b).length->cmF a b<=(Hk a b).getD k 0/\(Hk a b).getD k 0<(Hk a b).getD (k+1) 0/\(Hk a b).getD (k+1) 0<=cmL a b
 no:∀k,k+1<(Hk a b).length->∀g,g∈a\/g∈b->¬((Hk a b).getD k 0<g.1.1/\g.1.1<(Hk a b).getD (k+1) 0)
theorem bks (a:List Ze)(b:List Ze)(h:cmF a b<cmL a b):Bks a b:=by
 have hs:=Yoc a b;have p:cmF a b∈Hk a b:=Ziv.2 (.inl rfl);have r:cmL a b∈Hk a b:=Ziv.2 (.inr (.inl rfl));have l:∀x∈Hk a b,cmF a b<=x/\x<=cmL a b:=λx v=>by rcases Ziv.1 v with f|f|⟨f,o,_⟩<;>omega
 obtain⟨i,hi,y⟩:=Ec.1 p;obtain⟨j,G,z⟩:=Ec.1 r;have n:2<=(Hk a b).length:=by grind
 have s:(Hk a b).getD 0 0=cmF a b:=by
  by_cases e:i=0
  .grind
  .have f:=hs 0 i O hi;grind [Zk]
 have w:(Hk a b).getD ((Hk a b).length-1) 0=cmL a b:=by
  by_cases e:j=(Hk a b).length-1
  .grind
  .have f:=hs j ((Hk a b).length-1) O O;grind [Zk]
 refine⟨n,s,w,λk m=>⟨(l _ (Zk O)).1,hs k (k+1) O7 m,(l _ (Zk m)).2⟩,λk m g F D=>?_⟩;have f:=(l _ (Zk (i:=k) (d:=0) O)).1;have o:=(l _ (Zk (i:=k+1) (d:=0) m)).2;have t:g.1.1∈Hk a b:=Ziv.2 (.inr (.inr ⟨O,O,by grind⟩))
 obtain⟨q,u,B⟩:=Ec.1 t;rcases mH q k with c|c|c
 .have:=hs q k c O;omega
 .grind
 .rcases mH q (k+1)with d|d|d
  .omega
  .grind
  .have:=hs (k+1) q d u;omega
theorem Yac{fr c:Int}{g:Ze}(h:Lp fr c g=true):fr<g.1.2.1/\g.1.1<c:=by unfold Lp cA cB at h;grind
theorem Yab{fr c:Int}{ps:List Ze}(e:Chn ps)(f:ps≠[])(m:spF ps<=fr)(n:fr<c)(o:c<=spL ps)(q:∀g∈ps,¬(fr<g.1.1/\g.1.1<c)):(ps.filter (Lp fr c)).length=1:=by
 have p:=Zwq e f m n o;have h:=aL.2 p;rcases aW 1 (ps.filter _).length with d|d
 .have j:=aM h;have l:=aM d;obtain⟨i,f1,f2⟩:=Zi1 e 0 _ _ j l;have r:=(fM.1 (iV h)).2;have s:=(fM.1 (iV d)).2;have v:=e.eq i _ _ f1 f2;have t:=Yac r;have u:=Yac s;grind
 omega
def Ze1(ts:List Int)(ps:List Ze):Nat->List Zht
 | 0=>[]
 | n+1=>Ze1 ts ps n ++ Be (ts.getD n 0) (ts.getD (n+1) 0) ps
def Ej(ts:List Int)(a b:List Ze):Nat->Bool
 | 0=>true
 | n+1=>Ej ts a b n && (Pp (ts.getD n 0) (ts.getD (n+1) 0) a && Pp (ts.getD n 0) (ts.getD (n+1) 0) b)
def Zwu(a b:List Ze):Bool:=Ej (Hk a b) a b ((Hk a b).length-1)
def Bw(a b:List Ze):Int:=if cmF a b>=cmL a b then 9 else if Zwu a b then 0 else 7
def Iv(a b ps:List Ze):List Zht:=if Bw a b=0 then Ze1 (Hk a b) ps ((Hk a b).length-1)else []
theorem Zuf{ts:List Int}{a b:List Ze} : ∀{n m:Nat},n<=m->Ej ts a b m=true->Ej ts a b n=true
 | n,0,h,d=>O4
 | n,m+1,h,d=>by
  rcases aW m n with c|c
  .grind
  .refine Zuf c ?_;have:Ej ts a b (m+1)=(Ej ts a b m && (Pp _ _ a && Pp _ _ b)):=rfl;grind
def tik(a b:List Ze)(i k:Nat):List Int:=Zeh a b i ++ inn (cmF a b) (cmL a b) ((Cb i a b).take k)
theorem tik_0(a b:List Ze)(i:Nat):tik a b i 0=Zeh a b i:=by exact iE _
theorem tik_t(e:k<(Cb i a b).length)(c:cmF a b<((Cb i a b).getD k G0).1.1)(d:((Cb i a b).getD k G0).1.1<cmL a b):tik a b i (k+1)=tik a b i k ++ [((Cb i a b).getD k G0).1.1]:=by unfold tik;grind [inn_t,List.append_assoc]
theorem tik_f(c:k<(Cb i a b).length)(h:¬(cmF a b<((Cb i a b).getD k G0).1.1/\((Cb i a b).getD k G0).1.1<cmL a b)):tik a b i (k+1)=tik a b i k:=by unfold tik;grind [inn_f]
theorem tik_e(hi:i<2):tik a b i (Cb i a b).length=Zeh a b (i+1):=by unfold tik;rw [cE,tms_s hi]
theorem Zs6(a b:List Ze)(i:Nat):(Cb i a b).length<=a.length+b.length:=by unfold Cb;split<;>omega
theorem Ymf(a b:List Ze)(i k:Nat):(tik a b i k).length<=2+2*(a.length+b.length):=by have c:=Zpk a b i;have d:=Zpl (cmF a b) (cmL a b) ((Cb i a b).take k);have e:=Zs6 a b i;unfold tik;grind
def tms_ne(a b:List Ze)(i:Nat):Zeh a b i≠[]:=λh=>nomatch h
theorem tms_2(a b:List Ze)(i:Nat):2<=(Zeh a b i).length:=by unfold Zeh;simp
section
variable {P:Program} {N:Nat} {sc:Nat->Prop} {env:Qk} {H:Hp}
theorem Ylg{e f sd:SL}(i j k n:Nat)(g:lk H j=some (Xp 6 Pw qG (Yx e) a))(l:lk H k=some (Xp 6 Pw qG (Yx f) b))(c:Nat.beq j 0=false)(d:Nat.beq k 0=false)(hi:i<2) :
  ∀a' w,Sat N sc env H a' w->Sat N sc env ((n,Xp 6 Pw qG (Yx ([e,f].getD i sd)) (Cb i a b))::H) a' w:=by
 match i,hi with
 | 0,_=>exact Zcb j n g c rfl (λ_ h=>h) (λ_ h=>h) rfl
 | 1,_=>exact Zcb k n l d rfl (λ_ h=>h) (λ_ h=>h) rfl
end
theorem Yio(h:cmF a b>=cmL a b)(ps:List Ze):Bw a b=9/\Iv a b ps=[]:=by have e:Bw a b=9:=aO h;exact⟨e,by unfold Iv;grind⟩
theorem Zns(h:¬cmF a b>=cmL a b){n:Nat}(g:n+1<(Hk a b).length)(f:(Pp ((Hk a b).getD n 0) ((Hk a b).getD (n+1) 0) a && Pp ((Hk a b).getD n 0) ((Hk a b).getD (n+1) 0) b)=false)(ps:List Ze):Bw a b=7/\Iv a b ps=[]:=by
 have k:Zwu a b=false:=by
  cases hk:Zwu a b with
  | false=>rfl
  | true=>
   have c:=Zuf (n:=n+1) O hk;have d:Ej _ a b (n+1)=(Ej (Hk a b) a b n && (Pp _ _ a && Pp _ _ b)):=rfl;grind
 have e:Bw a b=7:=by unfold Bw;grind
 exact⟨e,by unfold Iv;grind⟩
theorem Yip(h:¬cmF a b>=cmL a b){n:Nat}(d:n+1=(Hk a b).length)(c:Ej (Hk a b) a b n=true):Bw a b=0/\∀ps,Iv a b ps=Ze1 (Hk a b) ps n:=by
 have k:Zwu a b=true:=by unfold Zwu;grind
 have e:Bw a b=0:=by unfold Bw;grind
 exact⟨e,λps=>by unfold Iv;grind⟩
theorem com_k{n:Nat}(h:Ej (Hk a b) a b n=true)(c:Pp ((Hk a b).getD n 0) ((Hk a b).getD (n+1) 0) a=true)(d:Pp ((Hk a b).getD n 0) ((Hk a b).getD (n+1) 0) b=true):Ej (Hk a b) a b (n+1)=true:=by show(Ej _ a b n && (_ && _))=true;grind
theorem com_z{ps zs:List Ze}{n:Nat}(h:zs.map Ds=Ze1 ts ps n)(c:us.map Ds=Be (ts.getD n 0) (ts.getD (n+1) 0) ps):(zs ++ us).map Ds=Ze1 ts ps (n+1):=by rw [dW,h,c];rfl
theorem com_u{ps:List Ze}{fr c:Int}(hi:∀g∈ps,Gin g)(h:Xc ps=true)(j:spF ps<=fr)(l:fr<c)(m:c<=spL ps)(d:∀g∈ps,¬(fr<g.1.1/\g.1.1<c))(p:Pp fr c ps=true)(n:us.map Ds=Be fr c ps):us.length=1:=by have q:=(Oi h).2.1;have o:=Yab (Ea hi h).1 (λe=>O4) j l m d;have f:=aE List.length n;rw [bJ]at f;rw [f];unfold Be;grind
theorem com_ua{n:Nat}(hi:∀g∈a,Gin g)(h:Xc a=true)(B:Bks a b)(c:n+1<(Hk a b).length)(j:Pp ((Hk a b).getD n 0) ((Hk a b).getD (n+1) 0) a=true)(m:us.map Ds=Be ((Hk a b).getD n 0) ((Hk a b).getD (n+1) 0) a):us.length=1:=by obtain⟨d,e,f⟩:=B.lt n c;unfold cmF at d;unfold cmL at f;exact com_u hi h O e O (λg l=>B.no n c g (.inl l)) j m
theorem com_ub{n:Nat}(hi:∀g∈b,Gin g)(h:Xc b=true)(B:Bks a b)(c:n+1<(Hk a b).length)(j:Pp ((Hk a b).getD n 0) ((Hk a b).getD (n+1) 0) b=true)(m:us.map Ds=Be ((Hk a b).getD n 0) ((Hk a b).getD (n+1) 0) b):us.length=1:=by obtain⟨d,e,f⟩:=B.lt n c;unfold cmF at d;unfold cmL at f;exact com_u hi h O e O (λg l=>B.no n c g (.inr l)) j m
def Zxd{a b:Bool}(h:a=false):(a && b)=false:=O4
def Zxc{a b:Bool}(h:b=false):(a && b)=false:=O4
end Go.Sky
namespace Go.Sky
variable{c p q ns:List Int}{x M:Nat}{f:Nat->List Int}
section
variable {P:Program} {N:Nat} {sc:Nat->Prop} {env:Qk} {H:Hp}
end
def KA:Nat:=360287970189639680
theorem AxC.ka{a:Int}(h:AxC c a)(b:1<=a)(d:a<=4294967296):Ab KA (tzl c):=λk=>by have:=h.cg k;rw [Hc];unfold KA;omega
def BG:Nat:=2^250*2^250
def bl_two{a b:Nat}(h:x<2^a*2^b):bl x<=a+b:=(Qs _ x).2 O4
theorem Yi9(h:x<BG):bl x<=500:=bl_two h
def Ab.sg(h:Ab M p)(a:M<BG):Sz 500 p:=λi=>Yi9 (aY (h i) a)
theorem Zby(h:Ab M p)(a:M<BG)(d:Tr p)(b:p.length<=25):Vp p:=⟨(h.sg a).mono O,d,b⟩
theorem Zr1{c:Int}(h:Ab M p)(b:M*c.natAbs<BG)(i:Nat):bl (cf p i*c).natAbs<=65536:=by have a:=Ac h c i;grind [Qn,Nat.le_trans,Yi9,Nat.lt_of_le_of_lt]
theorem ad_ab{K:Nat}(h:Ab M p)(d:Ab K q)(e:M+K<BG)(i:Nat):bl (cf p i+cf q i).natAbs<=65536/\bl (cf p i-cf q i).natAbs<=65536:=by have a:=h i;have b:=d i;grind [Nat.le_trans,Yi9,Nat.lt_of_le_of_lt]
theorem mf_ab(h:Ab M p)(b:M<BG)(d:p.length<=11):¬Ax p p:=λa=>by have m:=Oc (h.sg b);rcases a.2.2 with w|w<;>omega
def dfP(p q:List Int)(a b:Int):List Int:=Zbk (Yy (tzl p) b) (Yy (tzl q) a)
def dfK(p q:List Int)(a b k:Int):List Int:=Yy (dfP p q a b) k
def sqK(p q:List Int)(a b k:Int):List Int:=Qx (dfK p q a b k) (dfK p q a b k)
def sqP(p q:List Int)(a b:Int):List Int:=Qx (dfP p q a b) (dfP p q a b)
def KD:Nat:=KA*4294967296+KA*4294967296
structure FmX (p q:List Int) (a b k:Int):Prop where
 v1:Vp (tzl p)
 v2:Vp (tzl q)
 b1:bl b.natAbs<=65536
 a1:bl a.natAbs<=65536
 k1:bl k.natAbs<=65536
 s1:∀i,bl (cf (tzl p) i*b).natAbs<=65536
 s2:∀i,bl (cf (tzl q) i*a).natAbs<=65536
 v3:Vp (Yy (tzl p) b)
 v4:Vp (Yy (tzl q) a)
 s3:∀i,bl (cf (Yy (tzl p) b) i-cf (Yy (tzl q) a) i).natAbs<=65536
 v5:Vp (dfP p q a b)
 s4:∀i,bl (cf (dfP p q a b) i*k).natAbs<=65536
 v6:Vp (dfK p q a b k)
 m6:¬Ax (dfK p q a b k) (dfK p q a b k)
 v7:Vp (sqK p q a b k)
 ab:Ab (6*((KD*100)*(KD*100))) (sqK p q a b k)
 l:(sqK p q a b k).length<=11
 m5:¬Ax (dfP p q a b) (dfP p q a b)
 v8:Vp (sqP p q a b)
 ab8:Ab (6*((KD*100)*(KD*100))) (sqP p q a b)
 l8:(sqP p q a b).length<=11
theorem fmX{a b k:Int}(l:Ab KA (tzl p))(m:Ab KA (tzl q))(lp:p.length<=6)(I:q.length<=6)(w:1<=a/\a<=4294967296)(y:1<=b/\b<=4294967296)(Q:1<=k/\k<=100):FmX p q a b k:=by
 have o:=aB (Hm p) lp;have r:=aB (Hm q) I;have s:Ab (KA*4294967296) _:=(Ac l b).mono (bB _ O);have t:Ab (KA*4294967296) _:=(Ac m a).mono (bB _ O);have d:Ab KD _:=ab_sub s t;have e:Ab (KD*100) _:=(Ac d k).mono (bB _ O);have j:Ab (KD*100) _:=d.mono O;have l3:(Yy (tzl p) b).length<=6:=aB Lv o;have G:(Yy (tzl q) a).length<=6:=aB Lv r;have g:(dfP p q a b).length<=6:=Ymj l3 G;have n:(dfK p q a b k).length<=6:=aB Lv g;have t5:Tr (dfP p q a b):=Qp _;have t6:Tr (dfK p q a b k):=Qp _;have u:=Yjt e e n;have v:=Yjt j j g;have z:=Zy9 t6 t6 n n;have B:=Zy9 t5 t5 g g;have h:∀c:Int,1<=c/\c<=4294967296->bl c.natAbs<=65536:=λc F=>aB ((Qs 40 _).2 O) O;have D:∀c:Int,1<=c/\c<=4294967296->KA*c.natAbs<BG:=λc F=>aY (bB KA (by omega:c.natAbs<=4294967296)) O3;exact⟨Zby l O3 (Qp _) O,Zby m O3 (Qp _) O,h b y,h a w,h k O,Zr1 l (D b y),Zr1 m (D a w),
  Zby s O3 (Qp _) O,Zby t O3 (Qp _) O,λi=>(ad_ab s t O3 i).2,Zby d O3 t5 O,
  Zr1 d (aY (bB KD (by omega:k.natAbs<=100)) O3),Zby e O3 t6 O,mf_ab e O3 O,Zby u O3 (Qo _ _) (by have:(sqK p q a b k).length<=_:=z;omega),u,z,
  mf_ab j O3 O,Zby v O3 (Qo _ _) (by have:(sqP p q a b).length<=_:=B;omega),v,B⟩
def ngC(ns:List Int):Nat->List Int
 | 0=>[-1]
 | i+1=>Yy (Yy (ngC ns i) (ns.getD i 0)) (ns.getD i 0)
def sqN(ns:List Int):Nat->Nat
 | 0=>1
 | i+1=>sqN ns i*(ns.getD i 0).natAbs*(ns.getD i 0).natAbs
theorem Zo9(ns:List Int):∀i,Ab (sqN ns i) (ngC ns i)/\(ngC ns i).length<=1/\Tr (ngC ns i)
 | 0=>⟨λi=>by
   match i with
   | 0=>show(cf [-1] 0).natAbs<=1;decide
   | i+1=>show(cf [-1] _).natAbs<=1;grind [Yw],Nat.le_refl _,show Tr [-1]from .inr O3⟩
 | i+1=>by obtain⟨a,b,d⟩:=Zo9 ns i;exact⟨Ac (Ac a _) _,aB Lv (aB Lv b),Qp _⟩
theorem Yd3{ns:List Int}{B:Nat}(h:∀i,(ns.getD i 0).natAbs<=B):∀i,sqN ns i<=(B*B)^i
 | 0=>aI _
 | i+1=>by rw [dD,<-eR];exact aS (aS (Yd3 h i) (h i)) (h i)
structure NgX (ns:List Int) (i:Nat):Prop where
 b:bl (ns.getD i 0).natAbs<=65536
 inn:My (ns.getD i 0)
 v:Vp (ngC ns i)
 s:∀k,bl (cf (ngC ns i) k*ns.getD i 0).natAbs<=65536
 v2:Vp (Yy (ngC ns i) (ns.getD i 0))
 s2:∀k,bl (cf (Yy (ngC ns i) (ns.getD i 0)) k*ns.getD i 0).natAbs<=65536
theorem ngX(h:∀i,(ns.getD i 0).natAbs<=4294967296){i:Nat}(hi:i<=4):NgX ns i:=by obtain⟨j,n,k⟩:=Zo9 ns i;have e:=Yd3 h i;have g:(4294967296*4294967296)^i<=(4294967296*4294967296)^4:=cY O hi;have a:=j.mono (aB e g);have b:=h i;have d:=(Ac a _).mono (bB _ b);have l:(4294967296*4294967296)^4*(ns.getD i 0).natAbs<BG:=aY (bB _ b) O3;have m:(4294967296*4294967296)^4*4294967296*(ns.getD i 0).natAbs<BG:=aY (bB _ b) O3;exact⟨aB ((Qs 40 _).2 O) O,⟨O,O⟩,Zby a O3 k O,Zr1 a l,Zby d O3 (Qp _) (aB Lv O),Zr1 d m⟩
def smP(c:List Int)(f:Nat->List Int):Nat->List Int
 | 0=>c
 | i+1=>Zci (smP c f i) (f i)
theorem Yec{c:List Int}{f:Nat->List Int}{C F:Nat}(a:Ab C c)(d:c.length<=11)(g:Tr c)(b:∀i,Ab F (f i))(e:∀i,(f i).length<=11):∀i,Ab (C+i*F) (smP c f i)/\(smP c f i).length<=11/\Tr (smP c f i)
 | 0=>⟨by rw [gR];exact a,d,g⟩
 | i+1=>by obtain⟨h,j,k⟩:=Yec a d g b e i;exact⟨by rw [eT,<-iD];exact ab_add h (b i),Ymk j (e i),Qp _⟩
structure SmX (c:List Int) (f:Nat->List Int):Prop where
 v:∀i,i<=3->Vp (smP c f i)
 s:∀i,i<3->∀k,bl (cf (smP c f i) k+cf (f i) k).natAbs<=65536
 d:Cvd (Yu (smP c f 3))
theorem smX(l:Ab (2^190) c)(o:c.length<=1)(n:Tr c)(h:∀i,Ab (6*((KD*100)*(KD*100))) (f i))(m:∀i,(f i).length<=11):SmX c f:=by
 have a:=Yec l O n h m;have d:∀i,i<=3->2^190+i*(6*((KD*100)*(KD*100)))<2^205:=λi hi=>aY (Nat.add_le_add_left (aP _ hi) _) O3;have e:(2)^205<BG:=O3;refine⟨λi hi=>?_,λi hi k=>?_,?_⟩
 .grind [Zby,Nat.lt_trans]
 .obtain⟨b,j,g⟩:=a i;refine(ad_ab b (h i) ?_ k).1;have:=d _ hi;grind
 .obtain⟨b,j,g⟩:=a 3;have hs:=b.sz (d 3 (aI _));exact⟨Im (Zby b (jG (d 3 (aI _)) e) g O),Ca hs,by simp_all [Yo]⟩
end Go.Sky
namespace Go.Sky
variable{m ov D d:Int}{x y z:List Int}{a b xs:List Ze}
theorem fillG{g h j c e f:Value}:Instr.fill (λi=>some (i*3,3)) ((List.range (1*3)).map ((Value.agg #[g,h,j]).cells[· % (Value.agg #[g,h,j]).cells.size]!)).toArray [(0,.agg #[c,e,f])]=some #[c,e,f]:=by rfl
def Zmd(m:Int)(l:List Int):Bool:=l.all λx=>decide (-m<=x) && decide (x<=m)
theorem insB_t{l:List Int}(h:∀i,i<l.length->-m<=l.getD i 0/\l.getD i 0<=m):Zmd m l=true:=bA.2 λx c=>by grind [Ec,decide_eq_true]
theorem Ygn (i:Nat){l:List Int}(hi:i<l.length)(h:¬(-m<=l.getD i 0/\l.getD i 0<=m)):Zmd m l=false:=by
 cases hb:Zmd m l with
 | false=>rfl
 | true=>
  have:=bA.1 hb _ (Zk (d:=0) hi);grind
def ptB(x y z:Int):Bool:=Zmd 1048576 [x,y,z]
theorem Ai{x y z:Int}(h:ptB x y z=true):(-1048576<=x/\x<=1048576)/\(-1048576<=y/\y<=1048576)/\(-1048576<=z/\z<=1048576):=by unfold ptB Zmd at h;grind
def znB(D n d:Int):Bool:=decide (1<=D/\D<=4194304/\1<=n/\n<=d/\d<=100)
def ptsB(e f g h c i D n d:Int):Bool:=decide (D*d*(D*d)<=(e-h)*d*((e-h)*d)+(f-c)*d*((f-c)*d)+(g-i)*n*((g-i)*n))
def fqZ(n d ov c:Int)(x y z e f g:List Int)(i:Nat):List Int:=sqK (Yg i x y z) (Yg i e f g) ov c (Yg i d d n)
def cnZ(D d ov c:Int):List Int:=ngC [D,d,ov,c] 4
def smZ(D n d ov c:Int)(x y z e f g:List Int)(i:Nat):List Int:=smP (cnZ D d ov c) (fqZ n d ov c x y z e f g) i
def fmZ(D n d ov c:Int)(x y z e f g:List Int):List Int:=Yu (smZ D n d ov c x y z e f g 3)
structure FzX (D n d ov ov2:Int) (x y z x2 y2 z2:List Int):Prop where
 X:∀i,FmX (Yg i x y z) (Yg i x2 y2 z2) ov ov2 (Yg i d d n)
 K:∀i,My (Yg i d d n)
 N:∀i,i<=4->NgX [D,d,ov,ov2] i
 Q:SmX (cnZ D d ov ov2) (fqZ n d ov ov2 x y z x2 y2 z2)
theorem Zok{fr k:Int}(h:Zap fr k ov x y z=true)(i:Nat):Ab KA (tzl (Yg i x y z)):=by unfold Zap Zu5 at h;simp only [aQ,cS]at h;obtain⟨⟨⟨⟨⟨⟨⟨⟨n,o⟩,q⟩,c⟩,e⟩,f⟩,g⟩,j⟩,-⟩:=h;exact Bn (p:=λl=>Ab KA _) ((AxC.of f).ka c e) ((AxC.of g).ka c e) ((AxC.of j).ka c e)
theorem tzlm1:(if 25<(tzl [(-1:Int)]).length then []else tzl [-1])=[-1]:=by rfl
abbrev GpT:=(Int×Int)×(SL×List Int)
abbrev Zct (g:GpT):Value:= .agg #[.int .i64 g.1.1,.int .i64 g.1.2,Yx g.2.1]
abbrev qGp (g:GpT):Pc:=Yn 2 wv (Yx g.2.1) g.2.2
abbrev Gp0:GpT:=((0,0),((none,0,0),[]))
abbrev GpU:=Int×Int×List Int
def unP(g:GpT):GpU:=(g.1.1,g.1.2,g.2.2)
def gpZ(D n d:Int)(g h:Zht):GpU:=(g.1.1,g.1.2.1,fmZ D n d g.1.2.2 h.1.2.2 g.2.1 g.2.2.1 g.2.2.2 h.2.1 h.2.2.1 h.2.2.2)
def Gi(D n d:Int)(a b:List Ze):List GpU:=List.zipWith (gpZ D n d) (Iv a b a) (Iv a b b)
def Eg(a b:List Ze):Int:=if Bw a b=9 then 0 else Bw a b
def Yiq(h:Bw a b≠0)(ps:List Ze):Iv a b ps=[]:=aJ h
theorem gapZ_0{n:Int}(h:Bw a b≠0):Gi D n d a b=[]:=by unfold Gi;simp_all [Yiq]
theorem Zk3{c:List Int}{a b ps:List Ze}(e:∀k,Pp (c.getD k 0) (c.getD (k+1) 0) a=true->Pp (c.getD k 0) (c.getD (k+1) 0) b=true->k+1<c.length->(Be (c.getD k 0) (c.getD (k+1) 0) ps).length=1):∀n,n+1<=c.length->Ej c a b n=true->(Ze1 c ps n).length=n
 | 0,_,_=>rfl
 | n+1,h,f=>by have g:Ej c a b (n+1)=(Ej c a b n && (Pp _ _ a && Pp _ _ b)):=rfl;rw [g,aQ,aQ]at f;show(Ze1 c ps n ++ Be _ _ ps).length=_;rw [cF,Zk3 e n O f.1,e n f.2.1 f.2.2 O]
theorem Yil{ps:List Ze}{fr c:Int}(hi:∀g∈ps,Gin g)(h:Xc ps=true)(i:spF ps<=fr)(j:fr<c)(k:c<=spL ps)(f:∀g∈ps,¬(fr<g.1.1/\g.1.1<c))(l:Pp fr c ps=true):(Be fr c ps).length=1:=by have n:=(Oi h).2.1;unfold Be;rw [aO l,bJ,Yab (Ea hi h).1 (λe=>O4) i j k f]
theorem comE_0(h:Bw a b=0):¬cmF a b>=cmL a b/\Zwu a b=true:=by unfold Bw at h;grind
theorem Ynr(p:∀g∈a,Gin g)(q:∀g∈b,Gin g)(l:Xc a=true)(n:Xc b=true):(Iv a b a).length=(Iv a b b).length/\(Iv a b a).length<=2+a.length+b.length:=by
 by_cases h:Bw a b=0
 .obtain⟨v,r⟩:=comE_0 h;have B:=bks a b O;have u:=B.two;have e:∀ps,Iv a b ps=Ze1 _ ps _:=λps=>aO h;have w:=Zk3 (λk s t c=>by obtain⟨f,i,j⟩:=B.lt k c;unfold cmF at f;unfold cmL at j;exact Yil p l O i O (λg o=>B.no k c g (.inl o)) s) _ O r
  have F:=Zk3 (λk s t c=>by obtain⟨f,i,j⟩:=B.lt k c;unfold cmF at f;unfold cmL at j;exact Yil q n O i O (λg o=>B.no k c g (.inr o)) t) _ O r
  grind [Zy8]
 simp_all [Yiq,bH]
theorem Zqg{ps zs:List Ze}(hi:∀g∈ps,Gin g)(r:Xc ps=true)(v:zs.map Ds=Iv a b ps):∀q∈zs,Gin q/\seB q=true:=by
 have k:∀n,∀u∈Ze1 _ ps n,∃(fr e:Int) (g:Ze),g∈ps/\Lp fr e g=true/\Zgj fr e g=true/\u=Zwr fr e g:=λn=>by
  induction n with
  | zero=>intro u j;cases j
  | succ n w=>
   intro u j;rcases cW.1 (show u∈Ze1 (Hk a b) ps n ++ _ from j)with h|h
   .grind
   .unfold Be at h;split at h
    .rename_i s;obtain⟨g,l,rfl⟩:=eJ.1 h;obtain⟨c,f⟩:=fM.1 l;exact⟨_,_,g,c,f,bA.1 s g l,rfl⟩
    grind
 intro q t;have i:Ds q∈Iv a b ps:=O4;unfold Iv at i;split at i
 .obtain⟨fr,e,g,c,f,o,p⟩:=k _ _ i;have:=Yaa (hi g c) ((Ea hi r).2.1 g c) f o p;grind
 grind
theorem zip_s{α β γ:Type}{f:α->β->γ} : ∀{l:List α} {m:List β} {k:Nat} {x:α} {y:β},l[k]? = some x->m[k]? = some y->(List.zipWith f l m).take (k+1)=(List.zipWith f l m).take k ++ [f x y]
 | [],_,_,_,_,h,_=>O4
 | _::_,[],_,_,_,_,h=>O4
 | a::l,b::m,0,x,y,h,h2=>O10
 | a::l,b::m,k+1,x,y,h,h2=>by have:=zip_s (f:=f) (by simpa using h) (by simpa using h2);simp only [List.zipWith_cons_cons,jB,this,gQ]
def gpY(q:Ze)(g:SL×List Int):GpT:=((q.1.1,q.1.2.1),g)
theorem Ymu{n:Int}{ys:List Ze}{zs:List GpT}{k:Nat}{g:SL×List Int}(l:xs.map Ds=Iv a b a)(o:ys.map Ds=Iv a b b)(h:zs.map unP=(Gi D n d a b).take k)(j:k<xs.length)(f:k<ys.length)(i:g.2=fmZ D n d (xs.getD k G0).1.2.2 (ys.getD k G0).1.2.2 (xs.getD k G0).2.1.2 (xs.getD k G0).2.2.1.2 (xs.getD k G0).2.2.2.2 (ys.getD k G0).2.1.2 (ys.getD k G0).2.2.1.2 (ys.getD k G0).2.2.2.2) :
  (zs ++ [gpY (xs.getD k G0) g]).map unP=(Gi D n d a b).take (k+1):=by
 have c:(Iv a b a)[k]? = some (Ds (xs.getD k G0)):=O4;have e:(Iv a b b)[k]? = some (Ds (ys.getD k G0)):=O4;unfold Gi at h ⊢;rw [zip_s c e,dW,cI];simp only [gpY,unP,gpZ,Ds];grind
theorem gp_all{n:Int}{zs:List GpT}(e:xs.map Ds=Iv a b a)(c:(Iv a b a).length=(Iv a b b).length)(h:zs.map unP=(Gi D n d a b).take xs.length):zs.map unP=Gi D n d a b:=by rw [h];unfold Gi;grind
def gapE_9(h:Bw a b=9):Eg a b=0:=aO h
def gapE_n(h:¬Bw a b=9):Eg a b=Bw a b:=aJ h
theorem Znc{fr c:Int}(h:Sgo fr c ov x y z):My ov:=⟨by have:=h.o1;omega,by have:=h.o2;omega⟩
def Ym2(l:List GpU):Option GpU:=l.find? λg=>Zes g.2.2
def Zie(l:List GpU):Int×Int×Bool:=match Ym2 l with
 | some g=>(g.1,g.2.1,true)
 | none=>(0,0,false)
theorem fst_n{l:List GpU}(h:∀i,i<l.length->Zes (l.getD i (0,0,[])).2.2=false):Zie l=(0,0,false):=by
 have:Ym2 l=none:=lT.2 λg c=>by obtain⟨i,hi,rfl⟩:=dG.1 c;grind
 unfold Zie;grind
theorem Ydg(zs:List GpT)(k:Nat):(zs.map unP).getD k (0,0,[])=unP (zs.getD k Gp0):=by rw [aN,gJ,aN];cases zs[k]?<;>rfl
def mkS(u:Zht):Ze:=(u.1,((none,0,0),u.2.1),((none,0,0),u.2.2.1),((none,0,0),u.2.2.2))
theorem un_mk(l:List Zht):(l.map mkS).map Ds=l:=by rw [fZ];exact List.map_id' _
theorem fst_no{l:List GpU}{zs:List GpT}(h:zs.map unP=l)(c:∀i,i<zs.length->Zes (zs.getD i Gp0).2.2=false):Zie l=(0,0,false):=by subst h;exact fst_n λi hi=>by rw [Ydg];exact c i O4
def apZ(D n d:Int)(a b:List Ze):Bool:=decide (Eg a b=0) && !(Zie (Gi D n d a b)).2.2
theorem ap_f{n:Int}(h:¬Eg a b=0):apZ D n d a b=false:=by unfold apZ;grind
def tmL(a b k:Int):List Int:=if b-a=0\/k=2 then [a]else if k=1 then [a,b-a]else [a,0,0,10*(b-a),-15*(b-a),6*(b-a)]
def lineG(k:Int)(s:SL×SL×SL):Ze:=((0,1000,1),(s.1,tmL 0 300 k),(s.2.1,tmL 0 400 k),(s.2.2,tmL 0 0 k))
def stayG(s:SL×SL×SL):Ze:=((1000,2000,1),(s.1,tmL 0 0 2),(s.2.1,tmL 0 0 2),(s.2.2,tmL 0 0 2))
theorem Zhg{l:List Int}(h:l.all (λa=>decide (-9223372036854775808<=a/\a<=9223372036854775807))=true):∀a∈l,My a:=λa c=>by have:=bA.1 h a c;simp only [cS]at this;exact this
def litb(l:List Int):Bool:=(l.all λx=>decide (-1000000<=x) && decide (x<=1000000)) && (decide (tzl l=l) && decide (l.length<=25))
instance eokDec:∀f a b,Decidable (eok f a b)
 | 0,_,b=>inferInstanceAs (Decidable (b=[]))
 | f+1,a,b=>@instDecidableOr _ _ _ (@instDecidableAnd _ _ _ (eokDec f b (Yu (Qr a b))))
def legZ(e f g h c i k:Int)(s:SL×SL×SL):Ze:=((0,1000,1),(s.1,tmL e h k),(s.2.1,tmL f c k),(s.2.2,tmL g i k))
abbrev TzT:=SL×List (Int×SL)
def sqF(ov c:Int)(x y z e f g:List Int)(i:Nat):List Int:=sqP (Yg i x y z) (Yg i e f g) ov c
def sqR(ov c:Int)(x y z e f g:List Int):Nat->List (List Int)
 | 0=>[]
 | i+1=>sqR ov c x y z e f g i ++ [sqF ov c x y z e f g i]
def ovW(ov c:Int):Int:=ov*c*(ov*c)
def rfL(i h ov c:Int)(x y z e f g:List Int):List Int:=Zci (Yy (Zci (sqF ov c x y z e f g 0) (sqF ov c x y z e f g 1)) (h*h)) (Yy (sqF ov c x y z e f g 2) (i*i))
def rfW(e f ov c:Int):Int:=e*e*(f*f)*ovW ov c
def rfZ(i j e ov c:Int)(x y z f g h:List Int):List Int:=Zbk (rfL j e ov c x y z f g h) (tzl [rfW i e ov c])
structure RfX (zd zn ze ov ov2:Int) (x y z x2 y2 z2:List Int):Prop where
 v0:∀i,Vp (sqF ov ov2 x y z x2 y2 z2 i)
 v1:Vp (Zci (sqF ov ov2 x y z x2 y2 z2 0) (sqF ov ov2 x y z x2 y2 z2 1))
 v2:Vp (Yy (Zci (sqF ov ov2 x y z x2 y2 z2 0) (sqF ov ov2 x y z x2 y2 z2 1)) (ze*ze))
 v3:Vp (Yy (sqF ov ov2 x y z x2 y2 z2 2) (zn*zn))
 v4:Vp (rfL zn ze ov ov2 x y z x2 y2 z2)
 v5:Vp (tzl [rfW zd ze ov ov2])
 v6:Vp (rfZ zd zn ze ov ov2 x y z x2 y2 z2)
 wb:bl (rfW zd ze ov ov2).natAbs<=1000000
 ob:bl (ov*ov2).natAbs<=1000
 oW:bl (ovW ov ov2).natAbs<=1000
 eb:bl (ze*ze).natAbs<=1000
 nb:bl (zn*zn).natAbs<=1000
 db:bl (zd*zd).natAbs<=1000
 xb:bl (zd*zd*(ze*ze)).natAbs<=1000
def tpI(n k:Nat):Nat:=n/1000000000^k
def gcR(o:Int)(X Y Z:List Int):Nat->Int
 | 0=>o
 | i+1=>(Int.gcd (gcR o X Y Z i) (Xs (Yg i X Y Z)):Int)
structure Row3 (ws:List TzT) (X Y Z:List Int):Prop where
 l:ws.length=3
 e:∀i,i<3->ints (ws.getD i T0).2=Yg i X Y Z
def segY(fr c:Int)(g:Ze)(r:SL×SL×SL):Ze:=((cA fr g,cB c g,cO g/cG fr c g),(r.1,Cl (cX fr c g g.2.1.2) (cG fr c g)),(r.2.1,Cl (cX fr c g g.2.2.1.2) (cG fr c g)),(r.2.2,Cl (cX fr c g g.2.2.2.2) (cG fr c g)))
def nxF(t c:Int)(ps:List Ze):Nat->Int
 | 0=>c
 | i+1=>if t<(ps.getD i G0).1.1 then min (nxF t c ps i) (ps.getD i G0).1.1 else nxF t c ps i
def bdI:List GpU->Int
 | []=>-1
 | g::l=>if Zes g.2.2 then 0 else if bdI l<0 then -1 else bdI l+1
open Go Go.MapKept
variable {P:Program} {N:Nat} {sc:Nat->Prop} {env env':Qk} {H H':Hp} {Q Q':Exit->Act->World->Prop} {M:Nat->Prop}
abbrev PT:=SL×List Ze
abbrev PT0:PT:=((none,0,0),[])
abbrev encP (x:PT):Value:=Yx x.1
abbrev qP (x:PT):Pc:=Xp 6 Pw qG (Yx x.1) x.2
def mpc(b:Nat)(c:Array MapEntry)(n:Nat):Pc:=
 {own:=true,fp:=λk=>k=b,holds:=λw=>w.heap[b]? = some (.map c n)
  lt:=λw k h f=>by subst f;exact(aK.1 h).1
  stable:=λw i h e=>by rw [<-h];exact e.block b (aK.1 h).1 (λg=>g rfl) }
def fewsB(m k:Nat)(c:List PT):Bool:=decide (c.length<=m) && c.all λx=>fewB x.2 k
def valsB(c:List PT):Bool:=c.all λx=>Xc x.2
abbrev ClT:=(Int×Int×Int×Int)×Bool×Int
abbrev clE (r:ClT):Value:= .tuple #[.agg #[.int .i64 r.1.1,.int .i64 r.1.2.1,.int .i64 r.1.2.2.1,.int .i64 r.1.2.2.2],.bool r.2.1,.int .i64 r.2.2]
def pth(ps:List PT)(i:Nat):List Ze:=(ps.getD i PT0).2
def clV(D n d:Int)(ps:List PT)(i k:Nat):ClT:=
 (if(Zie (Gi D n d (pth ps i) (pth ps k))).2.2=true then((i:Int),(k:Int),(Zie (Gi D n d (pth ps i) (pth ps k))).1,(Zie (Gi D n d (pth ps i) (pth ps k))).2.1)else(0,0,0,0),(Zie (Gi D n d (pth ps i) (pth ps k))).2.2,Eg (pth ps i) (pth ps k))
def ClA(D n d:Int)(ps:List PT)(i:Nat):Prop:=∀j k,j<k->k<ps.length->j<i->apZ D n d (pth ps j) (pth ps k)=true
def ClB(D n d:Int)(ps:List PT)(i m:Nat):Prop:=∀k,i<k->k<m->apZ D n d (pth ps i) (pth ps k)=true
def ClR(D n d:Int)(ps:List PT)(r:ClT):Prop:=
 (r=((0,0,0,0),false,0)/\ClA D n d ps ps.length)\/∃i k,i<k/\k<ps.length/\ClA D n d ps i/\ClB D n d ps i k/\apZ D n d (pth ps i) (pth ps k)=false/\r=clV D n d ps i k
theorem ap_no{n:Int}(h:(Zie (Gi D n d a b)).2.2=false)(c:Eg a b=0):apZ D n d a b=true:=by unfold apZ;grind
theorem ap_is{n:Int}(h:(Zie (Gi D n d a b)).2.2=true):apZ D n d a b=false:=by unfold apZ;grind
theorem ap_e{n:Int}(c:Eg a b≠0):apZ D n d a b=false:=by unfold apZ;grind
end Go.Sky
namespace Go.Sky
open Go Go.MapKept
variable{o:Oper}{t:TypeId}{w0:World}{M0:Nat->Prop}{es:List (Int×Value)}
variable {P:Program} {N:Nat} {sc:Nat->Prop} {env env':Qk} {H H':Hp} {Q Q':Exit->Act->World->Prop} {M:Nat->Prop}
def mpe(a:Array MapEntry)(es:List (Int×Value)):Prop:=a.toList.map (λe=>(e.key,e.val))=es.map λp=>(Value.int .i64 p.1,p.2)
def mpi(b:Nat)(es:List (Int×Value)):Pc:=
 {own:=true,fp:=λk=>k=b,holds:=λw=>∃a n,w.heap[b]? = some (.map a n)/\mpe a es
  lt:=λw k h f=>by subst f;obtain⟨_,_,h,_⟩:=h;exact(aK.1 h).1
  stable:=λw i h e=>by obtain⟨a,n,c,d⟩:=h;exact⟨a,n,(e.block b (aK.1 c).1 (λg=>g rfl)).trans c,d⟩ }
def mfi:List (Int×Value)->Int->Nat->Option (Nat×Value)
 | [],_,_=>none
 | (a,v)::r,k,i=>if k=a then some (i,v)else mfi r k (i+1)
theorem fn_i(k:Int):∀(l:List MapEntry) (es:List (Int×Value)) (i:Nat),l.map (λe=>(e.key,e.val))=es.map (λp=>(Value.int .i64 p.1,p.2))->Instr.findNow (.int .i64) (.int .i64 k) l i=some (mfi es k i)
 | [],[],_,_=>rfl
 | [],_::_,_,h=>by cases h
 | _::_,[],_,h=>by cases h
 | e::l,(a,v)::es,i,h=>by
  simp only [cI,List.cons.injEq,Prod.mk.injEq]at h;obtain⟨⟨c,d⟩,f⟩:=h;by_cases b:k=a
  .subst b;simp [Instr.findNow,c,d,Instr.sameNow,mfi]
  .have g:(k == a)=false:=by simpa using b
   simp [Instr.findNow,c,Instr.sameNow,g,mfi,b,fn_i k l es (i+1) f]
theorem t_mmi   {d i:Nat}   (j:o.op= .makeMap t none) (h:o.dst=some d) (f:Nat.blt d N=true)
  (c:lk H 0=some (Zt w0 M0)) (l:∀b,w0.heap.size<=b->sc b) :
  T P N sc M o env H (G:=Nat) (λ_=>True) (λb=>(d,.map (some b))::env) (λb=>(i,mpi b [])::H):=λa w hs K Q e=>by
 have k:(execOp a.eval o).run P w= .ok (.value (.map (some w.heap.size))) (w.alloc (.map #[] 0)):=by simp only [execOp,j,Sem.run_bind,Option.map_none];rfl
 unfold Oper.wp;rw [k];show K (a.put o.dst _) _;rw [h];exact e w.heap.size _ _ aA ((hs.new c l i (mpi w.heap.size []) (.map #[] 0) ⟨#[],0,heap_alloc_new w _,rfl⟩ (λb g=>g)).put d _ f) (Chg.alloc _ _ _)
theorem Ydn (i:Nat)  {kt B:TypeId} {x y z:Operand} {b:Nat} {k:Int} {v:Value}    (V:o.op= .insert t x y z) (R:o.dst=none)
  (Z:ev env x=some (.map (some b))) (hy:ev env y=some (.int .i64 k)) (hz:ev env z=some v) (p:lk H i=some (mpi b es)) (m:mfi es k 0=none) (j:i≠0) (S:P.underlying t=some (.map kt B)) (d:P.underlying kt=some (.int .i64))
  (D:lk H 0=some (Zt w0 M0)) (Y:∀b,w0.heap.size<=b->sc b) (I:M b) :
  T P N sc M o env H (G:=Unit) (λ_=>True) (λ_=>env) (λ_=>(i,mpi b (es ++ [(k,v)]))::H):=λa w hs K Q F=>by
 obtain⟨c,n,h,s⟩:∃c n,w.heap[b]? = some (.map c n)/\mpe c es:=hs.hold i _ p;have l:b<w.heap.size:=(aK.1 h).1;have u:=fn_i k _ _ 0 s;rw [m]at u;have W:(execOp a.eval o).run P w= .ok .skip { w with heap:=w.heap.setIfInBounds b (.map (c.push ⟨.int .i64 k,v,n⟩) (n+1)) }:=by simp [execOp,V,hs.ev Z,hs.ev hy,hs.ev hz,Instr.mapUpdate,run_underlying S,Go.MapKept.run_getObj_map h,run_checkKey d (show IsKey (.int .i64) (.int .i64 k)from rfl),run_findKey d u,Go.MapKept.run_setObj_map _ h]
 unfold Oper.wp;rw [W];show K (a.put o.dst _) _;rw [R];have r:∀f:Nat->Prop,f b->Chg f w { w with heap:=w.heap.setIfInBounds b (.map (c.push ⟨.int .i64 k,v,n⟩) (n+1)) }:=λf g=>
  ⟨rfl,rfl,rfl,O7,λk d m=>by have:b≠k:=λe=>m (e▸g);simp [jA,this]⟩
 exact F () _ _ aA ((hs.upd p rfl j (q:=mpi b (es ++ [(k,v)])) (r (λk=>k=b) rfl) ⟨_,_,by simp only [jA,l,iW];rfl,by unfold mpe at *;simp [s]⟩ (λk d=> .inl d) D Y).put_none undef) (r _ I)
end Go.Sky
namespace Go.Sky
def Zao(a b:Int)(c:List Int):List Int:=a::(if a=b then []else c.map λf=>f*(b-a))
abbrev Zzg:List Int:=[0,0,10,-15,6]
def glC(a b:Int):List Int:=Zao a b Zzg
def Yg4{a:Int} : glC a a=[a]:=by unfold glC Zao;rw [aO rfl]
def glC_ne{a b:Int}(h:a≠b):glC a b=[a,0,0,10*(b-a),(-15)*(b-a),6*(b-a)]:=by unfold glC Zao;rw [aJ h];simp
abbrev d2V (a b c e d f:Int):Int:=(a-e)*(a-e)+(b-d)*(b-d)+(c-f)*(c-f)
abbrev uNear:Rat:=(1-57735026918962576/100000000000000000)/2
def Yg6:∀(l:List Int),Lm 1 l=1
 | []=>rfl
 | x::r=>by show Lm ((Int.gcd 1 x:Nat):Int) r=1;rw [Int.gcd_one_left];exact Yg6 r
def Zv8{a b:Int}(e:-1048576<=a/\a<=1048576)(f:-1048576<=b/\b<=1048576):axB (glC a b) 1=true:=by
 by_cases h:a=b
 .subst h;rw [Yg4];have d:ctl [a] 0 1=a*60:=by simp [ctl,Yf,w60,Oa]
  have:Zhn [a] 1=true:=Zqr λj c=>by
   obtain rfl:j=0:=by simp at c;omega
   rw [d];omega
  unfold axB;rw [this];simp
 .rw [glC_ne h];have d:∀j,j<6->ctl [a,0,0,10*(b-a),(-15)*(b-a),6*(b-a)] j (j+1)=if j<3 then a*60 else b*60:=λj c=>by
   match j,c with
   | 0,_=>simp [ctl,Yf,w60,Oa]
   | 1,_=>simp [ctl,Yf,w60,Oa]
   | 2,_=>simp [ctl,Yf,w60,Oa]
   | 3,_=>simp [ctl,Yf,w60,Oa];omega
   | 4,_=>simp [ctl,Yf,w60,Oa];omega
   | 5,_=>simp [ctl,Yf,w60,Oa];omega
  have:Zhn [a,0,0,10*(b-a),(-15)*(b-a),6*(b-a)] 1=true:=Zqr λj c=>by rw [d j (by simpa using c)];split<;>omega
  unfold axB;rw [this];simp;omega
structure GlS (g:Ze) (T ax ay az bx b2 bz:Int):Prop where
 f:g.1.1=0
 t:g.1.2.1=T
 o:g.1.2.2=1
 x:g.2.1.2=glC ax bx
 y:g.2.2.1.2=glC ay b2
 z:g.2.2.2.2=glC az bz
section
variable {g:Ze} {T ax ay az bx b2 bz:Int} (hg:GlS g T ax ay az bx b2 bz) (hT:1<=T/\T<=3600000) (ha:ptB ax ay az=true) (hb:ptB bx b2 bz=true)
include hg hT ha hb
end
end Go.Sky
namespace Go.Sky
open Go.RowKit Below
variable {P:Program} {N:Nat} {sc:Nat->Prop} {env env':Qk} {H H':Hp} {Q Q':Exit->Act->World->Prop} {M:Nat->Prop}
end Go.Sky

