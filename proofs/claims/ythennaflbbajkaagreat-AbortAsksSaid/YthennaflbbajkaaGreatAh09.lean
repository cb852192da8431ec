/- Rules, arithmetic and contracts: part 10. No conditions but those that each theorem names. -/
import Derived.Test.YthennaflbbajkaaGreatAh08
import Derived.MapKept
set_option linter.all false
namespace Go.Sky
variable{qs a b us:List Ze}{k i:Nat}{x:Int}{ts:List Int}
def jqP(fr g f:Int)(x y z:List Int)(c e d:Int)(h j l:List Int)(i:Nat):Prop:=qr (bgS (Yi i h j l)) (Ax [d,e-c])=qr (enS (Yi i x y z)) (Ax [f,g-fr])
def refS(o:Nat)(x y z:List Int):Nat->List Int
 | 0=>[]
 | i+1=>Zcl (refS o x y z i) (Pa (dN o (tzl (Yi i x y z))) (dN o (tzl (Yi i x y z))))
def refC(o:Nat)(m c T:Int):Int:=m^2*c^2*T^(2*o)
def refF(o:Nat)(m c T:Int)(x y z:List Int):List Int:=Zbo (tzl [refC o m c T]) (Yy (refS o x y z 3) (1000^(2*o)))
def frB(ps:List Ze)(d c:Int)(i:Nat):Int:=
 if 0<i/\joG (ps.getD (i-1) G0) (ps.getD i G0)=false then 1 else if Zey (Yhl 1 d (ps.getD i G0))=true then 2 else if Zey (Yhl 2 c (ps.getD i G0))=true then 3 else 0
def fiB(ps:List Ze)(d c:Int):Option (Nat×Int):=((List.range ps.length).find? λi=>decide (frB ps d c i≠0)).map λi=>(i,frB ps d c i)
theorem tf(b:Bool):b=false\/b=true:=by cases b<;>simp
def fiI(o:Option (Nat×Int)):Int:=match o with
 | none=>0
 | some g=>g.1
def fiC(o:Option (Nat×Int)):Int:=match o with
 | none=>0
 | some g=>g.2
abbrev firV (o:Option (Nat×Int)):Value:= .tuple #[.agg #[.int .i64 (fiI o),.int .i64 (fiC o)],.bool o.isSome,.int .i64 0]
def spd(o:Nat)(x y z:List Int)(u:Rat):Rat:=Zc (refS o x y z 3) u
def lstB(o:Nat)(ps:List Ze):Nat:=Yli (λn=>Ygv o ps (n:Int)) 14 0 10000
def lsV(o:Nat)(ps:List Ze):Nat:=if Ygv o ps 10000 then lstB o ps else 0
theorem Ybc(a b:Bool):a=false\/(a=true/\b=false)\/(a=true/\b=true):=by cases a<;>cases b<;>simp
def dR(o:Nat)(c:List Int)(u:Rat):Rat:=Zc (dN o (tzl c)) u
theorem Prt.num{q g:Ze}{G:Int}(h:Prt q g G):∃v s:Rat,0<=v/\0<s/\v+s<=1/\s*((g.1.2.1-g.1.1:Int):Rat)=((q.1.2.1-q.1.1:Int):Rat)/\v*((g.1.2.1-g.1.1:Int):Rat)=((q.1.1-g.1.1:Int):Rat)/\(0:Rat)<((g.1.2.1-g.1.1:Int):Rat)/\
  ∀i (u:Rat),Zc (Yi i q.2.1.2 q.2.2.1.2 q.2.2.2.2) u*(G:Rat)=((g.1.2.1-g.1.1:Int):Rat)^5*Zc (Yi i g.2.1.2 g.2.2.1.2 g.2.2.2.2) (v+s*u):=by
 have j:=h.a0;have l:=h.b0;have m:=h.ab;have o:=h.x;generalize g.1.2.1-g.1.1=d at *;generalize q.1.2.1-q.1.1=b at *;generalize q.1.1-g.1.1=a at *;have c:(0:Rat)<(d):=by exact_mod_cast (show 0<d by omega)
 have p:(0:Rat)<=(a):=by exact_mod_cast j
 have r:(0)<(b:Rat):=by exact_mod_cast l
 have n:(a:Rat)+(b)<=(d):=by exact_mod_cast m
 have hi:=fD.2 c;have e:(a:Rat)/d*d=a:=lQ O4;have f:(b:Rat)/d*d=b:=lQ O4;refine⟨(a)/d,(b)/d,?_,?_,?_,f,e,c,λi u=>o i _ u (by grind)⟩
 .grind [Rat.div_def,Rat.mul_nonneg,Rat.le_of_lt]
 .grind [Rat.div_def,Rat.mul_pos]
 .have:((a:Rat)/d+b/d)*d<=1*d:=O4;exact Rat.le_of_mul_le_mul_right this c
theorem lh_pat{fr d:Int}{ps:List Ze}(hi:∀g∈ps,Gin g)(f:Xp ps=true)(h:spF ps<=fr/\fr<d/\d<=spL ps)(c:Ps fr d ps=true)(j:qs.map Ds=Be fr d ps):Pat fr d ps qs:=
 Yiu hi f c (j.trans (aO c)) (Zwu (Eb hi f).1 (λe=>by have:=(On f).2.1;grind) h.1 h.2.1 h.2.2)
def Zww{fr c:Int}{ps:List Ze}(h:Ps fr c ps=true):Zc2 fr c ps=0:=aO h
def Yiy{fr c:Int}{ps:List Ze}(h:Ps fr c ps=false):Zc2 fr c ps=7:=aJ O4
def Ymw{fr d:Int}{ps:List Ze}(hi:∀g∈ps,Gin g)(e:Xp ps=true):∀g∈ps,Lq fr d g=true->MdG fr d g:=λg c f=>Ygj (hi g c) ((Eb hi e).2.1 g c) f
def inn(fr c:Int)(ps:List Ze):List Int:=(ps.filter λg=>decide (fr<g.1.1) && decide (g.1.1<c)).map λg=>g.1.1
theorem inn_t{fr c:Int}{ps:List Ze}(f:k<ps.length)(d:fr<(ps.getD k G0).1.1)(e:(ps.getD k G0).1.1<c):inn fr c (ps.take (k+1))=inn fr c (ps.take k) ++ [(ps.getD k G0).1.1]:=by unfold inn;rw [Zom (x:=ps.getD k G0) O4];grind
theorem inn_f{fr c:Int}{ps:List Ze}(d:k<ps.length)(h:¬(fr<(ps.getD k G0).1.1/\(ps.getD k G0).1.1<c)):inn fr c (ps.take (k+1))=inn fr c (ps.take k):=by unfold inn;rw [Zom (x:=ps.getD k G0) O4];grind
theorem Zpv(fr c:Int)(ps:List Ze):(inn fr c ps).length<=ps.length:=by unfold inn;grind
theorem Zy6{fr c:Int}{ps:List Ze} : x∈inn fr c ps↔∃g∈ps,g.1.1=x/\fr<x/\x<c:=by
 unfold inn;constructor
 .grind
 .rintro⟨g,f,rfl,d,e⟩;grind
def cmF(a b:List Ze):Int:=max (spF a) (spF b)
def cmL(a b:List Ze):Int:=min (spL a) (spL b)
def Zen(a b:List Ze)(i:Nat):List Int:=cmF a b::cmL a b::((if 1<=i then inn (cmF a b) (cmL a b) a else []) ++ (if 2<=i then inn (cmF a b) (cmL a b) b else []))
def Hl(a b:List Ze):List Int:=Zrv (Zen a b 2)
def Cb{α:Type _}(i:Nat)(a b:α):α:=if i=0 then a else b
theorem tms_s(h:i<2):Zen a b (i+1)=Zen a b i ++ inn (cmF a b) (cmL a b) (Cb i a b):=by
 match i,h with
 | 0,_=>simp [Zen,Cb]
 | 1,_=>simp [Zen,Cb]
theorem Zi4 : x∈Hl a b↔x=cmF a b\/x=cmL a b\/(cmF a b<x/\x<cmL a b/\((∃g∈a,g.1.1=x)\/∃g∈b,g.1.1=x)):=by
 unfold Hl;rw [Zk4];show x∈cmF a b::cmL a b::(inn _ _ a ++ inn _ _ b)↔_;rw [aU,aU,cY,Zy6,Zy6];constructor
 .rintro(h|h|⟨g,c,d,e,f⟩|⟨g,c,d,e,f⟩)
  .exact .inl h
  .exact .inr (.inl h)
  .exact .inr (.inr ⟨e,f,.inl ⟨g,c,d⟩⟩)
  .exact .inr (.inr ⟨e,f,.inr ⟨g,c,d⟩⟩)
 .rintro(h|h|⟨e,f,⟨g,c,d⟩|⟨g,c,d⟩⟩)
  .exact .inl h
  .exact .inr (.inl h)
  .exact .inr (.inr (.inl ⟨g,c,d,e,f⟩))
  .exact .inr (.inr (.inr ⟨g,c,d,e,f⟩))
def Yox(a b:List Ze):Sst (Hl a b) (Hl a b).length:=Zxy (Zlf _)
theorem Ztd(x:Int):∀l:List Int,(Zle x l).length<=l.length+1
 | []=>aI _
 | y::l=>by have:=Ztd x l;unfold Zle;grind
theorem Ztb:∀l:List Int,(Zrv l).length<=l.length
 | []=>aI _
 | x::l=>by have:=Ztb l;have:=Ztd x (Zrv l);show(Zle x (Zrv l)).length<=_;simp only [dJ];omega
theorem Zpu(a b:List Ze)(i:Nat):(Zen a b i).length<=2+a.length+b.length:=by have c:=Zpv (cmF a b) (cmL a b) a;have d:=Zpv (cmF a b) (cmL a b) b;unfold Zen;split<;>split<;>simp<;>omega
theorem Zzf(a b:List Ze):(Hl a b).length<=2+a.length+b.length:=aB (Ztb _) (Zpu a b 2)
structure Bks (a b:List Ze):Prop where
 two:2<=(Hl a b).length
 hd:(Hl a b).getD 0 0=cmF a b
 ls:(Hl a b).getD ((Hl a b).length-1) 0=cmL a b
 lt:∀k,k+1<(Hl a b).length->cmF a b<=(Hl a b).getD k 0/\(Hl a b).getD k 0<(Hl a b).getD (k+1) 0/\(Hl a b).getD (k+1) 0<=cmL a b
 no:∀k,k+1<(Hl a b).length->∀g,g∈a\/g∈b->¬((Hl a b).getD k 0<g.1.1/\g.1.1<(Hl a b).getD (k+1) 0)
theorem bks (a:List Ze)(b:List Ze)(h:cmF a b<cmL a b):Bks a b:=by
 have hs:=Yox a b;have p:cmF a b∈Hl a b:=Zi4.2 (.inl rfl);have r:cmL a b∈Hl a b:=Zi4.2 (.inr (.inl rfl));have l:∀x∈Hl a b,cmF a b<=x/\x<=cmL a b:=λx v=>by rcases Zi4.1 v with f|f|⟨f,o,_⟩<;>omega
 obtain⟨i,hi,y⟩:=Ee.1 p;obtain⟨j,G,z⟩:=Ee.1 r;have n:2<=(Hl a b).length:=by grind
 have s:(Hl a b).getD 0 0=cmF a b:=by
  by_cases e:i=0
  .grind
  .have f:=hs 0 i O hi;grind [Zl]
 have w:(Hl a b).getD ((Hl a b).length-1) 0=cmL a b:=by
  by_cases e:j=(Hl a b).length-1
  .grind
  .have f:=hs j ((Hl a b).length-1) O O;grind [Zl]
 refine⟨n,s,w,λk m=>⟨(l _ (Zl O)).1,hs k (k+1) O7 m,(l _ (Zl m)).2⟩,λk m g F D=>?_⟩;have f:=(l _ (Zl (i:=k) (d:=0) O)).1;have o:=(l _ (Zl (i:=k+1) (d:=0) m)).2;have t:g.1.1∈Hl a b:=Zi4.2 (.inr (.inr ⟨O,O,by grind⟩))
 obtain⟨q,u,B⟩:=Ee.1 t;rcases mF q k with c|c|c
 .have:=hs q k c O;omega
 .grind
 .rcases mF q (k+1)with d|d|d
  .omega
  .grind
  .have:=hs (k+1) q d u;omega
theorem Yag{fr c:Int}{g:Ze}(h:Lq fr c g=true):fr<g.1.2.1/\g.1.1<c:=by unfold Lq cA cB at h;grind
theorem Yaf{fr c:Int}{ps:List Ze}(e:Chn ps)(f:ps≠[])(m:spF ps<=fr)(n:fr<c)(o:c<=spL ps)(q:∀g∈ps,¬(fr<g.1.1/\g.1.1<c)):(ps.filter (Lq fr c)).length=1:=by
 have p:=Zwu e f m n o;have h:=aL.2 p;rcases aW 1 (ps.filter _).length with d|d
 .have j:=aM h;have l:=aM d;obtain⟨i,f1,f2⟩:=Zi9 e 0 _ _ j l;have r:=(fM.1 (iW h)).2;have s:=(fM.1 (iW d)).2;have v:=e.eq i _ _ f1 f2;have t:=Yag r;have u:=Yag s;grind
 omega
def Ze7(ts:List Int)(ps:List Ze):Nat->List Zh2
 | 0=>[]
 | n+1=>Ze7 ts ps n ++ Be (ts.getD n 0) (ts.getD (n+1) 0) ps
def Em(ts:List Int)(a b:List Ze):Nat->Bool
 | 0=>true
 | n+1=>Em ts a b n && (Ps (ts.getD n 0) (ts.getD (n+1) 0) a && Ps (ts.getD n 0) (ts.getD (n+1) 0) b)
def Zwy(a b:List Ze):Bool:=Em (Hl a b) a b ((Hl a b).length-1)
def Bx(a b:List Ze):Int:=if cmF a b>=cmL a b then 9 else if Zwy a b then 0 else 7
def Ix(a b ps:List Ze):List Zh2:=if Bx a b=0 then Ze7 (Hl a b) ps ((Hl a b).length-1)else []
theorem Zul{ts:List Int}{a b:List Ze} : ∀{n m:Nat},n<=m->Em ts a b m=true->Em ts a b n=true
 | n,0,h,d=>O4
 | n,m+1,h,d=>by
  rcases aW m n with c|c
  .grind
  .refine Zul c ?_;have:Em ts a b (m+1)=(Em ts a b m && (Ps _ _ a && Ps _ _ b)):=rfl;grind
def tik(a b:List Ze)(i k:Nat):List Int:=Zen a b i ++ inn (cmF a b) (cmL a b) ((Cb i a b).take k)
theorem tik_0(a b:List Ze)(i:Nat):tik a b i 0=Zen a b i:=by exact iE _
theorem tik_t(e:k<(Cb i a b).length)(c:cmF a b<((Cb i a b).getD k G0).1.1)(d:((Cb i a b).getD k G0).1.1<cmL a b):tik a b i (k+1)=tik a b i k ++ [((Cb i a b).getD k G0).1.1]:=by unfold tik;grind [inn_t,List.append_assoc]
theorem tik_f(c:k<(Cb i a b).length)(h:¬(cmF a b<((Cb i a b).getD k G0).1.1/\((Cb i a b).getD k G0).1.1<cmL a b)):tik a b i (k+1)=tik a b i k:=by unfold tik;grind [inn_f]
theorem tik_e(hi:i<2):tik a b i (Cb i a b).length=Zen a b (i+1):=by unfold tik;rw [cF,tms_s hi]
theorem Ztc(a b:List Ze)(i:Nat):(Cb i a b).length<=a.length+b.length:=by unfold Cb;split<;>omega
theorem Ymy(a b:List Ze)(i k:Nat):(tik a b i k).length<=2+2*(a.length+b.length):=by have c:=Zpu a b i;have d:=Zpv (cmF a b) (cmL a b) ((Cb i a b).take k);have e:=Ztc a b i;unfold tik;grind
def tms_ne(a b:List Ze)(i:Nat):Zen a b i≠[]:=λh=>nomatch h
theorem tms_2(a b:List Ze)(i:Nat):2<=(Zen a b i).length:=by unfold Zen;simp
section
variable {P:Program} {N:Nat} {sc:Nat->Prop} {env:Qm} {H:Hp}
theorem Ylz{e f sd:SL}(i j k n:Nat)(g:lk H j=some (Xl 6 Pj qG (Yr e) a))(l:lk H k=some (Xl 6 Pj qG (Yr f) b))(c:Nat.beq j 0=false)(d:Nat.beq k 0=false)(hi:i<2) :
  ∀a' w,Sat N sc env H a' w->Sat N sc env ((n,Xl 6 Pj qG (Yr ([e,f].getD i sd)) (Cb i a b))::H) a' w:=by
 match i,hi with
 | 0,_=>exact Zce j n g c rfl (λ_ h=>h) (λ_ h=>h) rfl
 | 1,_=>exact Zce k n l d rfl (λ_ h=>h) (λ_ h=>h) rfl
end
theorem Yi0(h:cmF a b>=cmL a b)(ps:List Ze):Bx a b=9/\Ix a b ps=[]:=by have e:Bx a b=9:=aO h;exact⟨e,by unfold Ix;grind⟩
theorem Znz(h:¬cmF a b>=cmL a b){n:Nat}(g:n+1<(Hl a b).length)(f:(Ps ((Hl a b).getD n 0) ((Hl a b).getD (n+1) 0) a && Ps ((Hl a b).getD n 0) ((Hl a b).getD (n+1) 0) b)=false)(ps:List Ze):Bx a b=7/\Ix a b ps=[]:=by
 have k:Zwy a b=false:=by
  cases hk:Zwy a b with
  | false=>rfl
  | true=>
   have c:=Zul (n:=n+1) O hk;have d:Em _ a b (n+1)=(Em (Hl a b) a b n && (Ps _ _ a && Ps _ _ b)):=rfl;grind
 have e:Bx a b=7:=by unfold Bx;grind
 exact⟨e,by unfold Ix;grind⟩
theorem Yi1(h:¬cmF a b>=cmL a b){n:Nat}(d:n+1=(Hl a b).length)(c:Em (Hl a b) a b n=true):Bx a b=0/\∀ps,Ix a b ps=Ze7 (Hl a b) ps n:=by
 have k:Zwy a b=true:=by unfold Zwy;grind
 have e:Bx a b=0:=by unfold Bx;grind
 exact⟨e,λps=>by unfold Ix;grind⟩
theorem com_k{n:Nat}(h:Em (Hl a b) a b n=true)(c:Ps ((Hl a b).getD n 0) ((Hl a b).getD (n+1) 0) a=true)(d:Ps ((Hl a b).getD n 0) ((Hl a b).getD (n+1) 0) b=true):Em (Hl a b) a b (n+1)=true:=by show(Em _ a b n && (_ && _))=true;grind
theorem com_z{ps zs:List Ze}{n:Nat}(h:zs.map Ds=Ze7 ts ps n)(c:us.map Ds=Be (ts.getD n 0) (ts.getD (n+1) 0) ps):(zs ++ us).map Ds=Ze7 ts ps (n+1):=by rw [dX,h,c];rfl
theorem com_u{ps:List Ze}{fr c:Int}(hi:∀g∈ps,Gin g)(h:Xp ps=true)(j:spF ps<=fr)(l:fr<c)(m:c<=spL ps)(d:∀g∈ps,¬(fr<g.1.1/\g.1.1<c))(p:Ps fr c ps=true)(n:us.map Ds=Be fr c ps):us.length=1:=by have q:=(On h).2.1;have o:=Yaf (Eb hi h).1 (λe=>O4) j l m d;have f:=aF List.length n;rw [bJ]at f;rw [f];unfold Be;grind
theorem com_ua{n:Nat}(hi:∀g∈a,Gin g)(h:Xp a=true)(B:Bks a b)(c:n+1<(Hl a b).length)(j:Ps ((Hl a b).getD n 0) ((Hl a b).getD (n+1) 0) a=true)(m:us.map Ds=Be ((Hl a b).getD n 0) ((Hl a b).getD (n+1) 0) a):us.length=1:=by obtain⟨d,e,f⟩:=B.lt n c;unfold cmF at d;unfold cmL at f;exact com_u hi h O e O (λg l=>B.no n c g (.inl l)) j m
theorem com_ub{n:Nat}(hi:∀g∈b,Gin g)(h:Xp b=true)(B:Bks a b)(c:n+1<(Hl a b).length)(j:Ps ((Hl a b).getD n 0) ((Hl a b).getD (n+1) 0) b=true)(m:us.map Ds=Be ((Hl a b).getD n 0) ((Hl a b).getD (n+1) 0) b):us.length=1:=by obtain⟨d,e,f⟩:=B.lt n c;unfold cmF at d;unfold cmL at f;exact com_u hi h O e O (λg l=>B.no n c g (.inr l)) j m
def Zxh{a b:Bool}(h:a=false):(a && b)=false:=O4
def Zxg{a b:Bool}(h:b=false):(a && b)=false:=O4
end Go.Sky
namespace Go.Sky
variable{c p q ns:List Int}{x M:Nat}{f:Nat->List Int}
section
variable {P:Program} {N:Nat} {sc:Nat->Prop} {env:Qm} {H:Hp}
end
def KA:Nat:=360287970189639680
theorem AxC.ka{a:Int}(h:AxC c a)(b:1<=a)(d:a<=4294967296):Ab KA (tzl c):=λk=>by have:=h.cg k;rw [Hd];unfold KA;omega
def BG:Nat:=2^250*2^250
def bl_two{a b:Nat}(h:x<2^a*2^b):bl x<=a+b:=(Qt _ x).2 O4
theorem Yjp(h:x<BG):bl x<=500:=bl_two h
def Ab.sg(h:Ab M p)(a:M<BG):Sz 500 p:=λi=>Yjp (aY (h i) a)
theorem Zb3(h:Ab M p)(a:M<BG)(d:Tr p)(b:p.length<=25):Vp p:=⟨(h.sg a).mono O,d,b⟩
theorem Zr7{c:Int}(h:Ab M p)(b:M*c.natAbs<BG)(i:Nat):bl (cf p i*c).natAbs<=65536:=by have a:=Ae h c i;grind [Qo,Nat.le_trans,Yjp,Nat.lt_of_le_of_lt]
theorem ad_ab{K:Nat}(h:Ab M p)(d:Ab K q)(e:M+K<BG)(i:Nat):bl (cf p i+cf q i).natAbs<=65536/\bl (cf p i-cf q i).natAbs<=65536:=by have a:=h i;have b:=d i;grind [Nat.le_trans,Yjp,Nat.lt_of_le_of_lt]
theorem mf_ab(h:Ab M p)(b:M<BG)(d:p.length<=11):¬Az p p:=λa=>by have m:=Oi (h.sg b);rcases a.2.2 with w|w<;>omega
def dfP(p q:List Int)(a b:Int):List Int:=Zbo (Yy (tzl p) b) (Yy (tzl q) a)
def dfK(p q:List Int)(a b k:Int):List Int:=Yy (dfP p q a b) k
def sqK(p q:List Int)(a b k:Int):List Int:=Pa (dfK p q a b k) (dfK p q a b k)
def sqP(p q:List Int)(a b:Int):List Int:=Pa (dfP p q a b) (dfP p q a b)
def KD:Nat:=KA*4294967296+KA*4294967296
structure FmX (p q:List Int) (a b k:Int):Prop where
 v1:Vp (tzl p)
 v2:Vp (tzl q)
 b1:bl b.natAbs<=65536
 a1:bl a.natAbs<=65536
 k1:bl k.natAbs<=65536
 s1:∀i,bl (cf (tzl p) i*b).natAbs<=65536
 s2:∀i,bl (cf (tzl q) i*a).natAbs<=65536
 v3:Vp (Yy (tzl p) b)
 v4:Vp (Yy (tzl q) a)
 s3:∀i,bl (cf (Yy (tzl p) b) i-cf (Yy (tzl q) a) i).natAbs<=65536
 v5:Vp (dfP p q a b)
 s4:∀i,bl (cf (dfP p q a b) i*k).natAbs<=65536
 v6:Vp (dfK p q a b k)
 m6:¬Az (dfK p q a b k) (dfK p q a b k)
 v7:Vp (sqK p q a b k)
 ab:Ab (6*((KD*100)*(KD*100))) (sqK p q a b k)
 l:(sqK p q a b k).length<=11
 m5:¬Az (dfP p q a b) (dfP p q a b)
 v8:Vp (sqP p q a b)
 ab8:Ab (6*((KD*100)*(KD*100))) (sqP p q a b)
 l8:(sqP p q a b).length<=11
theorem fmX{a b k:Int}(l:Ab KA (tzl p))(m:Ab KA (tzl q))(lp:p.length<=6)(I:q.length<=6)(w:1<=a/\a<=4294967296)(y:1<=b/\b<=4294967296)(Q:1<=k/\k<=100):FmX p q a b k:=by
 have o:=aB (Ho p) lp;have r:=aB (Ho q) I;have s:Ab (KA*4294967296) _:=(Ae l b).mono (bA _ O);have t:Ab (KA*4294967296) _:=(Ae m a).mono (bA _ O);have d:Ab KD _:=ab_sub s t;have e:Ab (KD*100) _:=(Ae d k).mono (bA _ O);have j:Ab (KD*100) _:=d.mono O;have l3:(Yy (tzl p) b).length<=6:=aB Ly o;have G:(Yy (tzl q) a).length<=6:=aB Ly r;have g:(dfP p q a b).length<=6:=Ym2 l3 G;have n:(dfK p q a b k).length<=6:=aB Ly g;have t5:Tr (dfP p q a b):=Qq _;have t6:Tr (dfK p q a b k):=Qq _;have u:=Ykb e e n;have v:=Ykb j j g;have z:=Zzg t6 t6 n n;have B:=Zzg t5 t5 g g;have h:∀c:Int,1<=c/\c<=4294967296->bl c.natAbs<=65536:=λc F=>aB ((Qt 40 _).2 O) O;have D:∀c:Int,1<=c/\c<=4294967296->KA*c.natAbs<BG:=λc F=>aY (bA KA (by omega:c.natAbs<=4294967296)) O3;exact⟨Zb3 l O3 (Qq _) O,Zb3 m O3 (Qq _) O,h b y,h a w,h k O,Zr7 l (D b y),Zr7 m (D a w),
  Zb3 s O3 (Qq _) O,Zb3 t O3 (Qq _) O,λi=>(ad_ab s t O3 i).2,Zb3 d O3 t5 O,
  Zr7 d (aY (bA KD (by omega:k.natAbs<=100)) O3),Zb3 e O3 t6 O,mf_ab e O3 O,Zb3 u O3 (Qp _ _) (by have:(sqK p q a b k).length<=_:=z;omega),u,z,
  mf_ab j O3 O,Zb3 v O3 (Qp _ _) (by have:(sqP p q a b).length<=_:=B;omega),v,B⟩
def ngC(ns:List Int):Nat->List Int
 | 0=>[-1]
 | i+1=>Yy (Yy (ngC ns i) (ns.getD i 0)) (ns.getD i 0)
def sqN(ns:List Int):Nat->Nat
 | 0=>1
 | i+1=>sqN ns i*(ns.getD i 0).natAbs*(ns.getD i 0).natAbs
theorem Zpj(ns:List Int):∀i,Ab (sqN ns i) (ngC ns i)/\(ngC ns i).length<=1/\Tr (ngC ns i)
 | 0=>⟨λi=>by
   match i with
   | 0=>show(cf [-1] 0).natAbs<=1;decide
   | i+1=>show(cf [-1] _).natAbs<=1;grind [Yx],Nat.le_refl _,show Tr [-1]from .inr O3⟩
 | i+1=>by obtain⟨a,b,d⟩:=Zpj ns i;exact⟨Ae (Ae a _) _,aB Ly (aB Ly b),Qq _⟩
theorem Yed{ns:List Int}{B:Nat}(h:∀i,(ns.getD i 0).natAbs<=B):∀i,sqN ns i<=(B*B)^i
 | 0=>aI _
 | i+1=>by rw [dE,<-eR];exact aS (aS (Yed h i) (h i)) (h i)
structure NgX (ns:List Int) (i:Nat):Prop where
 b:bl (ns.getD i 0).natAbs<=65536
 inn:My (ns.getD i 0)
 v:Vp (ngC ns i)
 s:∀k,bl (cf (ngC ns i) k*ns.getD i 0).natAbs<=65536
 v2:Vp (Yy (ngC ns i) (ns.getD i 0))
 s2:∀k,bl (cf (Yy (ngC ns i) (ns.getD i 0)) k*ns.getD i 0).natAbs<=65536
theorem ngX(h:∀i,(ns.getD i 0).natAbs<=4294967296){i:Nat}(hi:i<=4):NgX ns i:=by obtain⟨j,n,k⟩:=Zpj ns i;have e:=Yed h i;have g:(4294967296*4294967296)^i<=(4294967296*4294967296)^4:=cZ O hi;have a:=j.mono (aB e g);have b:=h i;have d:=(Ae a _).mono (bA _ b);have l:(4294967296*4294967296)^4*(ns.getD i 0).natAbs<BG:=aY (bA _ b) O3;have m:(4294967296*4294967296)^4*4294967296*(ns.getD i 0).natAbs<BG:=aY (bA _ b) O3;exact⟨aB ((Qt 40 _).2 O) O,⟨O,O⟩,Zb3 a O3 k O,Zr7 a l,Zb3 d O3 (Qq _) (aB Ly O),Zr7 d m⟩
def smP(c:List Int)(f:Nat->List Int):Nat->List Int
 | 0=>c
 | i+1=>Zcl (smP c f i) (f i)
theorem Yem{c:List Int}{f:Nat->List Int}{C F:Nat}(a:Ab C c)(d:c.length<=11)(g:Tr c)(b:∀i,Ab F (f i))(e:∀i,(f i).length<=11):∀i,Ab (C+i*F) (smP c f i)/\(smP c f i).length<=11/\Tr (smP c f i)
 | 0=>⟨by rw [gR];exact a,d,g⟩
 | i+1=>by obtain⟨h,j,k⟩:=Yem a d g b e i;exact⟨by rw [eT,<-iD];exact ab_add h (b i),Ym3 j (e i),Qq _⟩
structure SmX (c:List Int) (f:Nat->List Int):Prop where
 v:∀i,i<=3->Vp (smP c f i)
 s:∀i,i<3->∀k,bl (cf (smP c f i) k+cf (f i) k).natAbs<=65536
 d:Cvd (Yv (smP c f 3))
theorem smX(l:Ab (2^190) c)(o:c.length<=1)(n:Tr c)(h:∀i,Ab (6*((KD*100)*(KD*100))) (f i))(m:∀i,(f i).length<=11):SmX c f:=by
 have a:=Yem l O n h m;have d:∀i,i<=3->2^190+i*(6*((KD*100)*(KD*100)))<2^205:=λi hi=>aY (Nat.add_le_add_left (aP _ hi) _) O3;have e:(2)^205<BG:=O3;refine⟨λi hi=>?_,λi hi k=>?_,?_⟩
 .grind [Zb3,Nat.lt_trans]
 .obtain⟨b,j,g⟩:=a i;refine(ad_ab b (h i) ?_ k).1;have:=d _ hi;grind
 .obtain⟨b,j,g⟩:=a 3;have hs:=b.sz (d 3 (aI _));exact⟨Ir (Zb3 b (jK (d 3 (aI _)) e) g O),Ca hs,by simp_all [Yp]⟩
end Go.Sky
namespace Go.Sky
variable{m ov D d:Int}{x y z:List Int}{a b xs:List Ze}
theorem fillG{g h j c e f:Value}:Instr.fill (λi=>some (i*3,3)) ((List.range (1*3)).map ((Value.agg #[g,h,j]).cells[· % (Value.agg #[g,h,j]).cells.size]!)).toArray [(0,.agg #[c,e,f])]=some #[c,e,f]:=by rfl
def Zmm(m:Int)(l:List Int):Bool:=l.all λx=>decide (-m<=x) && decide (x<=m)
theorem insB_t{l:List Int}(h:∀i,i<l.length->-m<=l.getD i 0/\l.getD i 0<=m):Zmm m l=true:=aZ.2 λx c=>by grind [Ee,decide_eq_true]
theorem Ygy (i:Nat){l:List Int}(hi:i<l.length)(h:¬(-m<=l.getD i 0/\l.getD i 0<=m)):Zmm m l=false:=by
 cases hb:Zmm m l with
 | false=>rfl
 | true=>
  have:=aZ.1 hb _ (Zl (d:=0) hi);grind
def ptB(x y z:Int):Bool:=Zmm 1048576 [x,y,z]
theorem Ak{x y z:Int}(h:ptB x y z=true):(-1048576<=x/\x<=1048576)/\(-1048576<=y/\y<=1048576)/\(-1048576<=z/\z<=1048576):=by unfold ptB Zmm at h;grind
def znB(D n d:Int):Bool:=decide (1<=D/\D<=4194304/\1<=n/\n<=d/\d<=100)
def ptsB(e f g h c i D n d:Int):Bool:=decide (D*d*(D*d)<=(e-h)*d*((e-h)*d)+(f-c)*d*((f-c)*d)+(g-i)*n*((g-i)*n))
def fqZ(n d ov c:Int)(x y z e f g:List Int)(i:Nat):List Int:=sqK (Yi i x y z) (Yi i e f g) ov c (Yi i d d n)
def cnZ(D d ov c:Int):List Int:=ngC [D,d,ov,c] 4
def smZ(D n d ov c:Int)(x y z e f g:List Int)(i:Nat):List Int:=smP (cnZ D d ov c) (fqZ n d ov c x y z e f g) i
def fmZ(D n d ov c:Int)(x y z e f g:List Int):List Int:=Yv (smZ D n d ov c x y z e f g 3)
structure FzX (D n d ov ov2:Int) (x y z x2 y2 z2:List Int):Prop where
 X:∀i,FmX (Yi i x y z) (Yi i x2 y2 z2) ov ov2 (Yi i d d n)
 K:∀i,My (Yi i d d n)
 N:∀i,i<=4->NgX [D,d,ov,ov2] i
 Q:SmX (cnZ D d ov ov2) (fqZ n d ov ov2 x y z x2 y2 z2)
theorem Zou{fr k:Int}(h:Zar fr k ov x y z=true)(i:Nat):Ab KA (tzl (Yi i x y z)):=by unfold Zar Zvc at h;simp only [aQ,cT]at h;obtain⟨⟨⟨⟨⟨⟨⟨⟨n,o⟩,q⟩,c⟩,e⟩,f⟩,g⟩,j⟩,-⟩:=h;exact Bo (p:=λl=>Ab KA _) ((AxC.of f).ka c e) ((AxC.of g).ka c e) ((AxC.of j).ka c e)
theorem tzlm1:(if 25<(tzl [(-1:Int)]).length then []else tzl [-1])=[-1]:=by rfl
abbrev GpT:=(Int×Int)×(SL×List Int)
abbrev Zcw (g:GpT):Value:= .agg #[.int .i64 g.1.1,.int .i64 g.1.2,Yr g.2.1]
abbrev qGp (g:GpT):Pc:=Yn 2 wv (Yr g.2.1) g.2.2
abbrev Gp0:GpT:=((0,0),((none,0,0),[]))
abbrev GpU:=Int×Int×List Int
def unP(g:GpT):GpU:=(g.1.1,g.1.2,g.2.2)
def gpZ(D n d:Int)(g h:Zh2):GpU:=(g.1.1,g.1.2.1,fmZ D n d g.1.2.2 h.1.2.2 g.2.1 g.2.2.1 g.2.2.2 h.2.1 h.2.2.1 h.2.2.2)
def Gj(D n d:Int)(a b:List Ze):List GpU:=List.zipWith (gpZ D n d) (Ix a b a) (Ix a b b)
def Ei(a b:List Ze):Int:=if Bx a b=9 then 0 else Bx a b
def Yi2(h:Bx a b≠0)(ps:List Ze):Ix a b ps=[]:=aJ h
theorem gapZ_0{n:Int}(h:Bx a b≠0):Gj D n d a b=[]:=by unfold Gj;simp_all [Yi2]
theorem Zlc{c:List Int}{a b ps:List Ze}(e:∀k,Ps (c.getD k 0) (c.getD (k+1) 0) a=true->Ps (c.getD k 0) (c.getD (k+1) 0) b=true->k+1<c.length->(Be (c.getD k 0) (c.getD (k+1) 0) ps).length=1):∀n,n+1<=c.length->Em c a b n=true->(Ze7 c ps n).length=n
 | 0,_,_=>rfl
 | n+1,h,f=>by have g:Em c a b (n+1)=(Em c a b n && (Ps _ _ a && Ps _ _ b)):=rfl;rw [g,aQ,aQ]at f;show(Ze7 c ps n ++ Be _ _ ps).length=_;rw [cH,Zlc e n O f.1,e n f.2.1 f.2.2 O]
theorem Yix{ps:List Ze}{fr c:Int}(hi:∀g∈ps,Gin g)(h:Xp ps=true)(i:spF ps<=fr)(j:fr<c)(k:c<=spL ps)(f:∀g∈ps,¬(fr<g.1.1/\g.1.1<c))(l:Ps fr c ps=true):(Be fr c ps).length=1:=by have n:=(On h).2.1;unfold Be;rw [aO l,bJ,Yaf (Eb hi h).1 (λe=>O4) i j k f]
theorem comE_0(h:Bx a b=0):¬cmF a b>=cmL a b/\Zwy a b=true:=by unfold Bx at h;grind
theorem Yn9(p:∀g∈a,Gin g)(q:∀g∈b,Gin g)(l:Xp a=true)(n:Xp b=true):(Ix a b a).length=(Ix a b b).length/\(Ix a b a).length<=2+a.length+b.length:=by
 by_cases h:Bx a b=0
 .obtain⟨v,r⟩:=comE_0 h;have B:=bks a b O;have u:=B.two;have e:∀ps,Ix a b ps=Ze7 _ ps _:=λps=>aO h;have w:=Zlc (λk s t c=>by obtain⟨f,i,j⟩:=B.lt k c;unfold cmF at f;unfold cmL at j;exact Yix p l O i O (λg o=>B.no k c g (.inl o)) s) _ O r
  have F:=Zlc (λk s t c=>by obtain⟨f,i,j⟩:=B.lt k c;unfold cmF at f;unfold cmL at j;exact Yix q n O i O (λg o=>B.no k c g (.inr o)) t) _ O r
  grind [Zzf]
 simp_all [Yi2,bH]
theorem Zqp{ps zs:List Ze}(hi:∀g∈ps,Gin g)(r:Xp ps=true)(v:zs.map Ds=Ix a b ps):∀q∈zs,Gin q/\seB q=true:=by
 have k:∀n,∀u∈Ze7 _ ps n,∃(fr e:Int) (g:Ze),g∈ps/\Lq fr e g=true/\Zgq fr e g=true/\u=Zwv fr e g:=λn=>by
  induction n with
  | zero=>intro u j;cases j
  | succ n w=>
   intro u j;rcases cY.1 (show u∈Ze7 (Hl a b) ps n ++ _ from j)with h|h
   .grind
   .unfold Be at h;split at h
    .rename_i s;obtain⟨g,l,rfl⟩:=eI.1 h;obtain⟨c,f⟩:=fM.1 l;exact⟨_,_,g,c,f,aZ.1 s g l,rfl⟩
    grind
 intro q t;have i:Ds q∈Ix a b ps:=O4;unfold Ix at i;split at i
 .obtain⟨fr,e,g,c,f,o,p⟩:=k _ _ i;have:=Yae (hi g c) ((Eb hi r).2.1 g c) f o p;grind
 grind
theorem zip_s{α β γ:Type}{f:α->β->γ} : ∀{l:List α} {m:List β} {k:Nat} {x:α} {y:β},l[k]? = some x->m[k]? = some y->(List.zipWith f l m).take (k+1)=(List.zipWith f l m).take k ++ [f x y]
 | [],_,_,_,_,h,_=>O4
 | _::_,[],_,_,_,_,h=>O4
 | a::l,b::m,0,x,y,h,h2=>O11
 | a::l,b::m,k+1,x,y,h,h2=>by have:=zip_s (f:=f) (by simpa using h) (by simpa using h2);simp only [List.zipWith_cons_cons,jE,this,gQ]
def gpY(q:Ze)(g:SL×List Int):GpT:=((q.1.1,q.1.2.1),g)
theorem Ynd{n:Int}{ys:List Ze}{zs:List GpT}{k:Nat}{g:SL×List Int}(l:xs.map Ds=Ix a b a)(o:ys.map Ds=Ix a b b)(h:zs.map unP=(Gj D n d a b).take k)(j:k<xs.length)(f:k<ys.length)(i:g.2=fmZ D n d (xs.getD k G0).1.2.2 (ys.getD k G0).1.2.2 (xs.getD k G0).2.1.2 (xs.getD k G0).2.2.1.2 (xs.getD k G0).2.2.2.2 (ys.getD k G0).2.1.2 (ys.getD k G0).2.2.1.2 (ys.getD k G0).2.2.2.2) :
  (zs ++ [gpY (xs.getD k G0) g]).map unP=(Gj D n d a b).take (k+1):=by
 have c:(Ix a b a)[k]? = some (Ds (xs.getD k G0)):=O4;have e:(Ix a b b)[k]? = some (Ds (ys.getD k G0)):=O4;unfold Gj at h ⊢;rw [zip_s c e,dX,cJ];simp only [gpY,unP,gpZ,Ds];grind
theorem gp_all{n:Int}{zs:List GpT}(e:xs.map Ds=Ix a b a)(c:(Ix a b a).length=(Ix a b b).length)(h:zs.map unP=(Gj D n d a b).take xs.length):zs.map unP=Gj D n d a b:=by rw [h];unfold Gj;grind
def gapE_9(h:Bx a b=9):Ei a b=0:=aO h
def gapE_n(h:¬Bx a b=9):Ei a b=Bx a b:=aJ h
theorem Znj{fr c:Int}(h:Sgo fr c ov x y z):My ov:=⟨by have:=h.o1;omega,by have:=h.o2;omega⟩
def Ynl(l:List GpU):Option GpU:=l.find? λg=>Zey g.2.2
def Zio(l:List GpU):Int×Int×Bool:=match Ynl l with
 | some g=>(g.1,g.2.1,true)
 | none=>(0,0,false)
theorem fst_n{l:List GpU}(h:∀i,i<l.length->Zey (l.getD i (0,0,[])).2.2=false):Zio l=(0,0,false):=by
 have:Ynl l=none:=lS.2 λg c=>by obtain⟨i,hi,rfl⟩:=dH.1 c;grind
 unfold Zio;grind
theorem Ydq(zs:List GpT)(k:Nat):(zs.map unP).getD k (0,0,[])=unP (zs.getD k Gp0):=by rw [aN,gJ,aN];cases zs[k]?<;>rfl
def mkS(u:Zh2):Ze:=(u.1,((none,0,0),u.2.1),((none,0,0),u.2.2.1),((none,0,0),u.2.2.2))
theorem un_mk(l:List Zh2):(l.map mkS).map Ds=l:=by rw [fZ];exact List.map_id' _
theorem fst_no{l:List GpU}{zs:List GpT}(h:zs.map unP=l)(c:∀i,i<zs.length->Zey (zs.getD i Gp0).2.2=false):Zio l=(0,0,false):=by subst h;exact fst_n λi hi=>by rw [Ydq];exact c i O4
def apZ(D n d:Int)(a b:List Ze):Bool:=decide (Ei a b=0) && !(Zio (Gj D n d a b)).2.2
theorem ap_f{n:Int}(h:¬Ei a b=0):apZ D n d a b=false:=by unfold apZ;grind
def tmL(a b k:Int):List Int:=if b-a=0\/k=2 then [a]else if k=1 then [a,b-a]else [a,0,0,10*(b-a),-15*(b-a),6*(b-a)]
def lineG(k:Int)(s:SL×SL×SL):Ze:=((0,1000,1),(s.1,tmL 0 300 k),(s.2.1,tmL 0 400 k),(s.2.2,tmL 0 0 k))
def stayG(s:SL×SL×SL):Ze:=((1000,2000,1),(s.1,tmL 0 0 2),(s.2.1,tmL 0 0 2),(s.2.2,tmL 0 0 2))
theorem Zhn{l:List Int}(h:l.all (λa=>decide (-9223372036854775808<=a/\a<=9223372036854775807))=true):∀a∈l,My a:=λa c=>by have:=aZ.1 h a c;simp only [cT]at this;exact this
def litb(l:List Int):Bool:=(l.all λx=>decide (-1000000<=x) && decide (x<=1000000)) && (decide (tzl l=l) && decide (l.length<=25))
instance eokDec:∀f a b,Decidable (eok f a b)
 | 0,_,b=>inferInstanceAs (Decidable (b=[]))
 | f+1,a,b=>@instDecidableOr _ _ _ (@instDecidableAnd _ _ _ (eokDec f b (Yv (Qs a b))))
def legZ(e f g h c i k:Int)(s:SL×SL×SL):Ze:=((0,1000,1),(s.1,tmL e h k),(s.2.1,tmL f c k),(s.2.2,tmL g i k))
abbrev TzT:=SL×List (Int×SL)
def sqF(ov c:Int)(x y z e f g:List Int)(i:Nat):List Int:=sqP (Yi i x y z) (Yi i e f g) ov c
def sqR(ov c:Int)(x y z e f g:List Int):Nat->List (List Int)
 | 0=>[]
 | i+1=>sqR ov c x y z e f g i ++ [sqF ov c x y z e f g i]
def ovW(ov c:Int):Int:=ov*c*(ov*c)
def rfL(i h ov c:Int)(x y z e f g:List Int):List Int:=Zcl (Yy (Zcl (sqF ov c x y z e f g 0) (sqF ov c x y z e f g 1)) (h*h)) (Yy (sqF ov c x y z e f g 2) (i*i))
def rfW(e f ov c:Int):Int:=e*e*(f*f)*ovW ov c
def rfZ(i j e ov c:Int)(x y z f g h:List Int):List Int:=Zbo (rfL j e ov c x y z f g h) (tzl [rfW i e ov c])
structure RfX (zd zn ze ov ov2:Int) (x y z x2 y2 z2:List Int):Prop where
 v0:∀i,Vp (sqF ov ov2 x y z x2 y2 z2 i)
 v1:Vp (Zcl (sqF ov ov2 x y z x2 y2 z2 0) (sqF ov ov2 x y z x2 y2 z2 1))
 v2:Vp (Yy (Zcl (sqF ov ov2 x y z x2 y2 z2 0) (sqF ov ov2 x y z x2 y2 z2 1)) (ze*ze))
 v3:Vp (Yy (sqF ov ov2 x y z x2 y2 z2 2) (zn*zn))
 v4:Vp (rfL zn ze ov ov2 x y z x2 y2 z2)
 v5:Vp (tzl [rfW zd ze ov ov2])
 v6:Vp (rfZ zd zn ze ov ov2 x y z x2 y2 z2)
 wb:bl (rfW zd ze ov ov2).natAbs<=1000000
 ob:bl (ov*ov2).natAbs<=1000
 oW:bl (ovW ov ov2).natAbs<=1000
 eb:bl (ze*ze).natAbs<=1000
 nb:bl (zn*zn).natAbs<=1000
 db:bl (zd*zd).natAbs<=1000
 xb:bl (zd*zd*(ze*ze)).natAbs<=1000
def tpI(n k:Nat):Nat:=n/1000000000^k
def gcR(o:Int)(X Y Z:List Int):Nat->Int
 | 0=>o
 | i+1=>(Int.gcd (gcR o X Y Z i) (Xu (Yi i X Y Z)):Int)
structure Row3 (ws:List TzT) (X Y Z:List Int):Prop where
 l:ws.length=3
 e:∀i,i<3->ints (ws.getD i T0).2=Yi i X Y Z
def segY(fr c:Int)(g:Ze)(r:SL×SL×SL):Ze:=((cA fr g,cB c g,cO g/cG fr c g),(r.1,Cl (cX fr c g g.2.1.2) (cG fr c g)),(r.2.1,Cl (cX fr c g g.2.2.1.2) (cG fr c g)),(r.2.2,Cl (cX fr c g g.2.2.2.2) (cG fr c g)))
def nxF(t c:Int)(ps:List Ze):Nat->Int
 | 0=>c
 | i+1=>if t<(ps.getD i G0).1.1 then min (nxF t c ps i) (ps.getD i G0).1.1 else nxF t c ps i
def bdI:List GpU->Int
 | []=>-1
 | g::l=>if Zey g.2.2 then 0 else if bdI l<0 then -1 else bdI l+1
open Go Go.MapKept
variable {P:Program} {N:Nat} {sc:Nat->Prop} {env env':Qm} {H H':Hp} {Q Q':Exit->Act->World->Prop} {M:Nat->Prop}
abbrev PT:=SL×List Ze
abbrev PT0:PT:=((none,0,0),[])
abbrev encP (x:PT):Value:=Yr x.1
abbrev qP (x:PT):Pc:=Xl 6 Pj qG (Yr x.1) x.2
def mpc(b:Nat)(c:Array MapEntry)(n:Nat):Pc:=
 {own:=true,fp:=λk=>k=b,holds:=λw=>w.heap[b]? = some (.map c n)
  lt:=λw k h f=>by subst f;exact(aK.1 h).1
  stable:=λw i h e=>by rw [<-h];exact e.block b (aK.1 h).1 (λg=>g rfl) }
def fewsB(m k:Nat)(c:List PT):Bool:=decide (c.length<=m) && c.all λx=>fewB x.2 k
def valsB(c:List PT):Bool:=c.all λx=>Xp x.2
abbrev ClT:=(Int×Int×Int×Int)×Bool×Int
abbrev clE (r:ClT):Value:= .tuple #[.agg #[.int .i64 r.1.1,.int .i64 r.1.2.1,.int .i64 r.1.2.2.1,.int .i64 r.1.2.2.2],.bool r.2.1,.int .i64 r.2.2]
def pth(ps:List PT)(i:Nat):List Ze:=(ps.getD i PT0).2
def clV(D n d:Int)(ps:List PT)(i k:Nat):ClT:=
 (if(Zio (Gj D n d (pth ps i) (pth ps k))).2.2=true then((i:Int),(k:Int),(Zio (Gj D n d (pth ps i) (pth ps k))).1,(Zio (Gj D n d (pth ps i) (pth ps k))).2.1)else(0,0,0,0),(Zio (Gj D n d (pth ps i) (pth ps k))).2.2,Ei (pth ps i) (pth ps k))
def ClA(D n d:Int)(ps:List PT)(i:Nat):Prop:=∀j k,j<k->k<ps.length->j<i->apZ D n d (pth ps j) (pth ps k)=true
def ClB(D n d:Int)(ps:List PT)(i m:Nat):Prop:=∀k,i<k->k<m->apZ D n d (pth ps i) (pth ps k)=true
def ClR(D n d:Int)(ps:List PT)(r:ClT):Prop:=
 (r=((0,0,0,0),false,0)/\ClA D n d ps ps.length)\/∃i k,i<k/\k<ps.length/\ClA D n d ps i/\ClB D n d ps i k/\apZ D n d (pth ps i) (pth ps k)=false/\r=clV D n d ps i k
theorem ap_no{n:Int}(h:(Zio (Gj D n d a b)).2.2=false)(c:Ei a b=0):apZ D n d a b=true:=by unfold apZ;grind
theorem ap_is{n:Int}(h:(Zio (Gj D n d a b)).2.2=true):apZ D n d a b=false:=by unfold apZ;grind
theorem ap_e{n:Int}(c:Ei a b≠0):apZ D n d a b=false:=by unfold apZ;grind
end Go.Sky
namespace Go.Sky
open Go Go.MapKept
variable{o:Oper}{t:TypeId}{w0:World}{M0:Nat->Prop}{es:List (Int×Value)}
variable {P:Program} {N:Nat} {sc:Nat->Prop} {env env':Qm} {H H':Hp} {Q Q':Exit->Act->World->Prop} {M:Nat->Prop}
def mpe(a:Array MapEntry)(es:List (Int×Value)):Prop:=a.toList.map (λe=>(e.key,e.val))=es.map λp=>(Value.int .i64 p.1,p.2)
def mpi(b:Nat)(es:List (Int×Value)):Pc:=
 {own:=true,fp:=λk=>k=b,holds:=λw=>∃a n,w.heap[b]? = some (.map a n)/\mpe a es
  lt:=λw k h f=>by subst f;obtain⟨_,_,h,_⟩:=h;exact(aK.1 h).1
  stable:=λw i h e=>by obtain⟨a,n,c,d⟩:=h;exact⟨a,n,(e.block b (aK.1 c).1 (λg=>g rfl)).trans c,d⟩ }
def mfi:List (Int×Value)->Int->Nat->Option (Nat×Value)
 | [],_,_=>none
 | (a,v)::r,k,i=>if k=a then some (i,v)else mfi r k (i+1)
theorem fn_i(k:Int):∀(l:List MapEntry) (es:List (Int×Value)) (i:Nat),l.map (λe=>(e.key,e.val))=es.map (λp=>(Value.int .i64 p.1,p.2))->Instr.findNow (.int .i64) (.int .i64 k) l i=some (mfi es k i)
 | [],[],_,_=>rfl
 | [],_::_,_,h=>by cases h
 | _::_,[],_,h=>by cases h
 | e::l,(a,v)::es,i,h=>by
  simp only [cJ,List.cons.injEq,Prod.mk.injEq]at h;obtain⟨⟨c,d⟩,f⟩:=h;by_cases b:k=a
  .subst b;simp [Instr.findNow,c,d,Instr.sameNow,mfi]
  .have g:(k == a)=false:=by simpa using b
   simp [Instr.findNow,c,Instr.sameNow,g,mfi,b,fn_i k l es (i+1) f]
theorem t_mmi   {d i:Nat}   (j:o.op= .makeMap t none) (h:o.dst=some d) (f:Nat.blt d N=true)
  (c:lk H 0=some (Zy w0 M0)) (l:∀b,w0.heap.size<=b->sc b) :
  T P N sc M o env H (G:=Nat) (λ_=>True) (λb=>(d,.map (some b))::env) (λb=>(i,mpi b [])::H):=λa w hs K Q e=>by
 have k:(execOp a.eval o).run P w= .ok (.value (.map (some w.heap.size))) (w.alloc (.map #[] 0)):=by simp only [execOp,j,Sem.run_bind,Option.map_none];rfl
 unfold Oper.wp;rw [k];show K (a.put o.dst _) _;rw [h];exact e w.heap.size _ _ aA ((hs.new c l i (mpi w.heap.size []) (.map #[] 0) ⟨#[],0,heap_alloc_new w _,rfl⟩ (λb g=>g)).put d _ f) (Chg.alloc _ _ _)
theorem Ydx (i:Nat)  {kt B:TypeId} {x y z:Operand} {b:Nat} {k:Int} {v:Value}    (V:o.op= .insert t x y z) (R:o.dst=none)
  (Z:ev env x=some (.map (some b))) (hy:ev env y=some (.int .i64 k)) (hz:ev env z=some v) (p:lk H i=some (mpi b es)) (m:mfi es k 0=none) (j:i≠0) (S:P.underlying t=some (.map kt B)) (d:P.underlying kt=some (.int .i64))
  (D:lk H 0=some (Zy w0 M0)) (Y:∀b,w0.heap.size<=b->sc b) (I:M b) :
  T P N sc M o env H (G:=Unit) (λ_=>True) (λ_=>env) (λ_=>(i,mpi b (es ++ [(k,v)]))::H):=λa w hs K Q F=>by
 obtain⟨c,n,h,s⟩:∃c n,w.heap[b]? = some (.map c n)/\mpe c es:=hs.hold i _ p;have l:b<w.heap.size:=(aK.1 h).1;have u:=fn_i k _ _ 0 s;rw [m]at u;have W:(execOp a.eval o).run P w= .ok .skip { w with heap:=w.heap.setIfInBounds b (.map (c.push ⟨.int .i64 k,v,n⟩) (n+1)) }:=by simp [execOp,V,hs.ev Z,hs.ev hy,hs.ev hz,Instr.mapUpdate,run_underlying S,Go.MapKept.run_getObj_map h,run_checkKey d (show IsKey (.int .i64) (.int .i64 k)from rfl),run_findKey d u,Go.MapKept.run_setObj_map _ h]
 unfold Oper.wp;rw [W];show K (a.put o.dst _) _;rw [R];have r:∀f:Nat->Prop,f b->Chg f w { w with heap:=w.heap.setIfInBounds b (.map (c.push ⟨.int .i64 k,v,n⟩) (n+1)) }:=λf g=>
  ⟨rfl,rfl,rfl,O7,λk d m=>by have:b≠k:=λe=>m (e▸g);simp [jD,this]⟩
 exact F () _ _ aA ((hs.upd p rfl j (q:=mpi b (es ++ [(k,v)])) (r (λk=>k=b) rfl) ⟨_,_,by simp only [jD,l,iX];rfl,by unfold mpe at *;simp [s]⟩ (λk d=> .inl d) D Y).put_none undef) (r _ I)
end Go.Sky
namespace Go.Sky
def Zaq(a b:Int)(c:List Int):List Int:=a::(if a=b then []else c.map λf=>f*(b-a))
abbrev Zzn:List Int:=[0,0,10,-15,6]
def glC(a b:Int):List Int:=Zaq a b Zzn
def Yhg{a:Int} : glC a a=[a]:=by unfold glC Zaq;rw [aO rfl]
def glC_ne{a b:Int}(h:a≠b):glC a b=[a,0,0,10*(b-a),(-15)*(b-a),6*(b-a)]:=by unfold glC Zaq;rw [aJ h];simp
abbrev d2V (a b c e d f:Int):Int:=(a-e)*(a-e)+(b-d)*(b-d)+(c-f)*(c-f)
abbrev uNear:Rat:=(1-57735026918962576/100000000000000000)/2
def Yhi:∀(l:List Int),Lo 1 l=1
 | []=>rfl
 | x::r=>by show Lo ((Int.gcd 1 x:Nat):Int) r=1;rw [Int.gcd_one_left];exact Yhi r
def Zwc{a b:Int}(e:-1048576<=a/\a<=1048576)(f:-1048576<=b/\b<=1048576):axB (glC a b) 1=true:=by
 by_cases h:a=b
 .subst h;rw [Yhg];have d:ctl [a] 0 1=a*60:=by simp [ctl,Yh,w60,Of]
  have:Zhv [a] 1=true:=Zqz λj c=>by
   obtain rfl:j=0:=by simp at c;omega
   rw [d];omega
  unfold axB;rw [this];simp
 .rw [glC_ne h];have d:∀j,j<6->ctl [a,0,0,10*(b-a),(-15)*(b-a),6*(b-a)] j (j+1)=if j<3 then a*60 else b*60:=λj c=>by
   match j,c with
   | 0,_=>simp [ctl,Yh,w60,Of]
   | 1,_=>simp [ctl,Yh,w60,Of]
   | 2,_=>simp [ctl,Yh,w60,Of]
   | 3,_=>simp [ctl,Yh,w60,Of];omega
   | 4,_=>simp [ctl,Yh,w60,Of];omega
   | 5,_=>simp [ctl,Yh,w60,Of];omega
  have:Zhv [a,0,0,10*(b-a),(-15)*(b-a),6*(b-a)] 1=true:=Zqz λj c=>by rw [d j (by simpa using c)];split<;>omega
  unfold axB;rw [this];simp;omega
structure GlS (g:Ze) (T ax ay az bx b2 bz:Int):Prop where
 f:g.1.1=0
 t:g.1.2.1=T
 o:g.1.2.2=1
 x:g.2.1.2=glC ax bx
 y:g.2.2.1.2=glC ay b2
 z:g.2.2.2.2=glC az bz
section
variable {g:Ze} {T ax ay az bx b2 bz:Int} (hg:GlS g T ax ay az bx b2 bz) (hT:1<=T/\T<=3600000) (ha:ptB ax ay az=true) (hb:ptB bx b2 bz=true)
include hg hT ha hb
end
end Go.Sky
namespace Go.Sky
open Go.RowKit Below
variable {P:Program} {N:Nat} {sc:Nat->Prop} {env env':Qm} {H H':Hp} {Q Q':Exit->Act->World->Prop} {M:Nat->Prop}
end Go.Sky

