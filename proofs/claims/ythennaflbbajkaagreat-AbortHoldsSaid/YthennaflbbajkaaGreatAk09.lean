/- Rules, arithmetic and contracts: part 10. No conditions but those that each theorem names. -/
import Derived.Test.YthennaflbbajkaaGreatAk08
import Derived.MapKept
set_option linter.all false
namespace Go.Sky
variable{a b qs us:List Zd}{p ts:List Int}{k i:Nat}{x:Int}
theorem bl_dl{a b:Int}{n:Nat}(h:bl a.natAbs<=n):bl (a/b).natAbs<=n:=by rw [Qs]at h ⊢;exact aY (iT a b) h
def jqP(fr to f:Int)(x y z:List Int)(c e d:Int)(g h j:List Int)(i:Nat):Prop:=qr (bgS (Ya i g h j)) (Zal [d,e-c])=qr (enS (Ya i x y z)) (Zal [f,to-fr])
def refS(o:Nat)(x y z:List Int):Nat->List Int
 | 0=>[]
 | i+1=>Za7 (refS o x y z i) (Pa (dN o (tzl (Ya i x y z))) (dN o (tzl (Ya i x y z))))
def refC(o:Nat)(m c T:Int):Int:=m^2*c^2*T^(2*o)
def refF(o:Nat)(m c T:Int)(x y z:List Int):List Int:=Bq (tzl [refC o m c T]) (Yo (refS o x y z 3) (1000^(2*o)))
def frB(ps:List Zd)(d c:Int)(i:Nat):Int:=
 if 0<i/\joG (ps.getD (i-1) G0) (ps.getD i G0)=false then 1 else if Zcq (Yjc 1 d (ps.getD i G0))=true then 2 else if Zcq (Yjc 2 c (ps.getD i G0))=true then 3 else 0
def fiB(ps:List Zd)(d c:Int):Option (Nat×Int):=((List.range ps.length).find? λi=>decide (frB ps d c i≠0)).map λi=>(i,frB ps d c i)
theorem tf(b:Bool):b=false\/b=true:=by cases b<;>simp
def fiI(o:Option (Nat×Int)):Int:=match o with
 | none=>0
 | some g=>g.1
def fiC(o:Option (Nat×Int)):Int:=match o with
 | none=>0
 | some g=>g.2
abbrev firV (o:Option (Nat×Int)):Value:= .tuple #[.agg #[.int .i64 (fiI o),.int .i64 (fiC o)],.bool o.isSome,.int .i64 0]
theorem Zla(p q:List Int)(x:Rat):Zc (Za7 p q) x=Zc p x+Zc q x:=by rw [<-Xd];exact Ol x _ _ λi=>by rw [Zry,Me]
theorem Zk8(p q:List Int)(x:Rat):Zc (Bq p q) x=Zc p x-Zc q x:=by
 have:Zc (Bq p q) x=Zc (Mc p (q.map λa=>-1*a)) x:=Ol x _ _ λi=>by rw [Bx,Me,Qr];omega
 grind [Xd,Zi]
theorem Ygt(p:List Int)(x:Rat):Zc p x=(Xq p:Rat)*Zc (Yw p) x:=by rw [<-Zi];grind [Ol,Qr,Int.mul_comm,Gw]
theorem Ykw(h:Tr p)(c:p≠[]):(0:Rat)<(Xq p:Rat):=by have d:=Ap h c;have e:=Ma p;exact_mod_cast (show 0<Xq p by omega)
theorem Zt8(h:Tr p)(x:Rat):Zc (Yw p) x<0↔Zc p x<0:=by
 by_cases c:p=[]
 .subst c;rfl
 .have d:=Ykw h c;rw [Ygt p];constructor
  .intro h;have:=Rat.mul_lt_mul_of_pos_left h d;grind
  grind [Rat.mul_nonneg,Rat.le_of_lt,Rat.not_lt,Rat.not_le]
def spd(o:Nat)(x y z:List Int)(u:Rat):Rat:=Zc (refS o x y z 3) u
def lstB(o:Nat)(ps:List Zd):Nat:=Ynd (λn=>Yin o ps (n:Int)) 14 0 10000
def lsV(o:Nat)(ps:List Zd):Nat:=if Yin o ps 10000 then lstB o ps else 0
theorem Yco(a b:Bool):a=false\/(a=true/\b=false)\/(a=true/\b=true):=by cases a<;>cases b<;>simp
def dR(o:Nat)(c:List Int)(u:Rat):Rat:=Zc (dN o (tzl c)) u
theorem Prt.num{q g:Zd}{G:Int}(h:Prt q g G):∃v s:Rat,0<=v/\0<s/\v+s<=1/\s*((g.1.2.1-g.1.1:Int):Rat)=((q.1.2.1-q.1.1:Int):Rat)/\v*((g.1.2.1-g.1.1:Int):Rat)=((q.1.1-g.1.1:Int):Rat)/\(0:Rat)<((g.1.2.1-g.1.1:Int):Rat)/\
  ∀i (u:Rat),Zc (Ya i q.2.1.2 q.2.2.1.2 q.2.2.2.2) u*(G:Rat)=((g.1.2.1-g.1.1:Int):Rat)^5*Zc (Ya i g.2.1.2 g.2.2.1.2 g.2.2.2.2) (v+s*u):=by
 have j:=h.a0;have l:=h.b0;have m:=h.ab;have o:=h.x;generalize g.1.2.1-g.1.1=d at *;generalize q.1.2.1-q.1.1=b at *;generalize q.1.1-g.1.1=a at *;have c:(0:Rat)<(d):=by exact_mod_cast (show 0<d by omega)
 have r:(0:Rat)<=(a):=by exact_mod_cast j
 have t:(0)<(b:Rat):=by exact_mod_cast l
 have n:(a:Rat)+(b)<=(d):=by exact_mod_cast m
 have hi:=fP.2 c;have e:(a:Rat)/d*d=a:=eE O5;have f:(b:Rat)/d*d=b:=eE O5;refine⟨(a)/d,(b)/d,?_,?_,?_,f,e,c,λi u=>o i _ u (by grind)⟩
 .grind [Rat.div_def,Rat.mul_nonneg,Rat.le_of_lt]
 .grind [Rat.div_def,Rat.mul_pos]
 .have:((a:Rat)/d+b/d)*d<=1*d:=O5;exact Rat.le_of_mul_le_mul_right this c
theorem lh_pat{fr to:Int}{ps:List Zd}(hi:∀g∈ps,Gin g)(d:Yg ps=true)(f:Ac ps<=fr/\fr<to/\to<=Bi ps)(c:Qu fr to ps=true)(h:qs.map Ei=Gy fr to ps):Pat fr to ps qs:=
 Ykp hi d c (h.trans (aO c)) (Zx6 (Ez hi d).1 (λe=>by have:=(Xb d).2.1;grind) f.1 f.2.1 f.2.2)
def Zx7{fr to:Int}{ps:List Zd}(h:Qu fr to ps=true):Zci fr to ps=0:=aO h
def Ykt{fr to:Int}{ps:List Zd}(h:Qu fr to ps=false):Zci fr to ps=7:=aF O5
def lh_M{fr to:Int}{ps:List Zd}(hi:∀g∈ps,Gin g)(d:Yg ps=true):∀g∈ps,Nz fr to g=true->MdG fr to g:=λg c e=>Yh7 (hi g c) ((Ez hi d).2.1 g c) e
def inn(fr to:Int)(ps:List Zd):List Int:=(ps.filter λg=>decide (fr<g.1.1) && decide (g.1.1<to)).map λg=>g.1.1
theorem inn_t{fr to:Int}{ps:List Zd}(e:k<ps.length)(c:fr<(ps.getD k G0).1.1)(d:(ps.getD k G0).1.1<to):inn fr to (ps.take (k+1))=inn fr to (ps.take k) ++ [(ps.getD k G0).1.1]:=by unfold inn;rw [Zpa (x:=ps.getD k G0) O5];grind
theorem inn_f{fr to:Int}{ps:List Zd}(c:k<ps.length)(h:¬(fr<(ps.getD k G0).1.1/\(ps.getD k G0).1.1<to)):inn fr to (ps.take (k+1))=inn fr to (ps.take k):=by unfold inn;rw [Zpa (x:=ps.getD k G0) O5];grind
theorem Zqp(fr to:Int)(ps:List Zd):(inn fr to ps).length<=ps.length:=by unfold inn;grind
theorem Yai{fr to:Int}{ps:List Zd} : x∈inn fr to ps↔∃g∈ps,g.1.1=x/\fr<x/\x<to:=by
 unfold inn;constructor
 .grind
 .rintro⟨g,e,rfl,c,d⟩;grind
def Ag(a b:List Zd):Int:=max (Ac a) (Ac b)
def Af(a b:List Zd):Int:=min (Bi a) (Bi b)
def Ze9(a b:List Zd)(i:Nat):List Int:=Ag a b::Af a b::((if 1<=i then inn (Ag a b) (Af a b) a else []) ++ (if 2<=i then inn (Ag a b) (Af a b) b else []))
def Lg(a b:List Zd):List Int:=Zs5 (Ze9 a b 2)
def Ct{α:Type _}(i:Nat)(a b:α):α:=if i=0 then a else b
theorem tms_s(h:i<2):Ze9 a b (i+1)=Ze9 a b i ++ inn (Ag a b) (Af a b) (Ct i a b):=by
 match i,h with
 | 0,_=>simp [Ze9,Ct]
 | 1,_=>simp [Ze9,Ct]
theorem Zjt : x∈Lg a b↔x=Ag a b\/x=Af a b\/(Ag a b<x/\x<Af a b/\((∃g∈a,g.1.1=x)\/∃g∈b,g.1.1=x)):=by
 unfold Lg;rw [Zlz];show x∈Ag a b::Af a b::(inn _ _ a ++ inn _ _ b)↔_;rw [aW,aW,dB,Yai,Yai];constructor
 .rintro(h|h|⟨g,c,d,e,f⟩|⟨g,c,d,e,f⟩)
  .exact .inl h
  .exact .inr (.inl h)
  .exact .inr (.inr ⟨e,f,.inl ⟨g,c,d⟩⟩)
  .exact .inr (.inr ⟨e,f,.inr ⟨g,c,d⟩⟩)
 .rintro(h|h|⟨e,f,⟨g,c,d⟩|⟨g,c,d⟩⟩)
  .exact .inl h
  .exact .inr (.inl h)
  .exact .inr (.inr (.inl ⟨g,c,d,e,f⟩))
  .exact .inr (.inr (.inr ⟨g,c,d,e,f⟩))
def Yqz(a b:List Zd):Sst (Lg a b) (Lg a b).length:=Zy8 (Zl8 _)
theorem Zul(x:Int):∀l:List Int,(Zl7 x l).length<=l.length+1
 | []=>aI _
 | y::l=>by have:=Zul x l;unfold Zl7;grind
theorem Zuj:∀l:List Int,(Zs5 l).length<=l.length
 | []=>aI _
 | x::l=>by have:=Zuj l;have:=Zul x (Zs5 l);show(Zl7 x (Zs5 l)).length<=_;simp only [eF];omega
theorem Zqo(a b:List Zd)(i:Nat):(Ze9 a b i).length<=2+a.length+b.length:=by have c:=Zqp (Ag a b) (Af a b) a;have d:=Zqp (Ag a b) (Af a b) b;unfold Ze9;split<;>split<;>simp<;>omega
theorem Yar(a b:List Zd):(Lg a b).length<=2+a.length+b.length:=aB (Zuj _) (Zqo a b 2)
structure Bks (a b:List Zd):Prop where
 two:2<=(Lg a b).length
 hd:(Lg a b).getD 0 0=Ag a b
 ls:(Lg a b).getD ((Lg a b).length-1) 0=Af a b
 lt:∀k,k+1<(Lg a b).length->Ag a b<=(Lg a b).getD k 0/\(Lg a b).getD k 0<(Lg a b).getD (k+1) 0/\(Lg a b).getD (k+1) 0<=Af a b
 no:∀k,k+1<(Lg a b).length->∀g,g∈a\/g∈b->¬((Lg a b).getD k 0<g.1.1/\g.1.1<(Lg a b).getD (k+1) 0)
theorem bks (a:List Zd)(b:List Zd)(h:Ag a b<Af a b):Bks a b:=by
 have hs:=Yqz a b;have r:Ag a b∈Lg a b:=Zjt.2 (.inl rfl);have s:Af a b∈Lg a b:=Zjt.2 (.inr (.inl rfl));have l:∀x∈Lg a b,Ag a b<=x/\x<=Af a b:=λx w=>by rcases Zjt.1 w with f|f|⟨f,o,_⟩<;>omega
 obtain⟨i,hi,z⟩:=Db.1 r;obtain⟨j,H,B⟩:=Db.1 s;have n:2<=(Lg a b).length:=by grind
 have t:(Lg a b).getD 0 0=Ag a b:=by
  by_cases e:i=0
  .grind
  .have f:=hs 0 i O1 hi;grind [Zg]
 have y:(Lg a b).getD ((Lg a b).length-1) 0=Af a b:=by
  by_cases e:j=(Lg a b).length-1
  .grind
  .have f:=hs j ((Lg a b).length-1) O1 O1;grind [Zg]
 refine⟨n,t,y,λk m=>⟨(l _ (Zg O1)).1,hs k (k+1) O8 m,(l _ (Zg m)).2⟩,λk m g G F=>?_⟩;have f:=(l _ (Zg (i:=k) (d:=0) O1)).1;have o:=(l _ (Zg (i:=k+1) (d:=0) m)).2;have u:g.1.1∈Lg a b:=Zjt.2 (.inr (.inr ⟨O1,O1,by grind⟩))
 obtain⟨q,v,D⟩:=Db.1 u;rcases kS q k with c|c|c
 .have:=hs q k c O1;omega
 .grind
 .rcases kS q (k+1)with d|d|d
  .omega
  .grind
  .have:=hs (k+1) q d v;omega
theorem Ybs{fr to:Int}{g:Zd}(h:Nz fr to g=true):fr<g.1.2.1/\g.1.1<to:=by unfold Nz cA cB at h;grind
theorem Zrq{fr to:Int}{ps:List Zd}(d:Chn ps)(e:ps≠[])(l:Ac ps<=fr)(m:fr<to)(n:to<=Bi ps)(q:∀g∈ps,¬(fr<g.1.1/\g.1.1<to)):(ps.filter (Nz fr to)).length=1:=by
 have o:=Zx6 d e l m n;have f:=aN.2 o;rcases bA 1 (ps.filter _).length with c|c
 .have h:=aL f;have j:=aL c;obtain⟨i,f1,f2⟩:=Zjx d 0 _ _ h j;have r:=(fN.1 (jP f)).2;have s:=(fN.1 (jP c)).2;have v:=d.eq i _ _ f1 f2;have t:=Ybs r;have u:=Ybs s;grind
 omega
def Zcs(ts:List Int)(ps:List Zd):Nat->List Zck
 | 0=>[]
 | n+1=>Zcs ts ps n ++ Gy (ts.getD n 0) (ts.getD (n+1) 0) ps
def Fc(ts:List Int)(a b:List Zd):Nat->Bool
 | 0=>true
 | n+1=>Fc ts a b n && (Qu (ts.getD n 0) (ts.getD (n+1) 0) a && Qu (ts.getD n 0) (ts.getD (n+1) 0) b)
def Zx9(a b:List Zd):Bool:=Fc (Lg a b) a b ((Lg a b).length-1)
def Bg(a b:List Zd):Int:=if Ag a b>=Af a b then 9 else if Zx9 a b then 0 else 7
def Lt(a b ps:List Zd):List Zck:=if Bg a b=0 then Zcs (Lg a b) ps ((Lg a b).length-1)else []
theorem Zvu{ts:List Int}{a b:List Zd} : ∀{n m:Nat},n<=m->Fc ts a b m=true->Fc ts a b n=true
 | n,0,h,d=>O5
 | n,m+1,h,d=>by
  rcases bA m n with c|c
  .grind
  .refine Zvu c ?_;have:Fc ts a b (m+1)=(Fc ts a b m && (Qu _ _ a && Qu _ _ b)):=rfl;grind
def tik(a b:List Zd)(i k:Nat):List Int:=Ze9 a b i ++ inn (Ag a b) (Af a b) ((Ct i a b).take k)
theorem tik_0(a b:List Zd)(i:Nat):tik a b i 0=Ze9 a b i:=by exact iY _
theorem tik_t(e:k<(Ct i a b).length)(c:Ag a b<((Ct i a b).getD k G0).1.1)(d:((Ct i a b).getD k G0).1.1<Af a b):tik a b i (k+1)=tik a b i k ++ [((Ct i a b).getD k G0).1.1]:=by unfold tik;grind [inn_t,List.append_assoc]
theorem tik_f(c:k<(Ct i a b).length)(h:¬(Ag a b<((Ct i a b).getD k G0).1.1/\((Ct i a b).getD k G0).1.1<Af a b)):tik a b i (k+1)=tik a b i k:=by unfold tik;grind [inn_f]
theorem tik_e(hi:i<2):tik a b i (Ct i a b).length=Ze9 a b (i+1):=by unfold tik;rw [cK,tms_s hi]
theorem Zuk(a b:List Zd)(i:Nat):(Ct i a b).length<=a.length+b.length:=by unfold Ct;split<;>omega
theorem Yox(a b:List Zd)(i k:Nat):(tik a b i k).length<=2+2*(a.length+b.length):=by have c:=Zqo a b i;have d:=Zqp (Ag a b) (Af a b) ((Ct i a b).take k);have e:=Zuk a b i;unfold tik;grind
def tms_ne(a b:List Zd)(i:Nat):Ze9 a b i≠[]:=λh=>nomatch h
theorem tms_2(a b:List Zd)(i:Nat):2<=(Ze9 a b i).length:=by unfold Ze9;simp
section
variable {P:Program} {N:Nat} {sc:Nat->Prop} {env:Qm} {H:Hp}
theorem Ynu{e f sd:SL}(i j k n:Nat)(g:lk H j=some (Xv 6 Pt qG (Xa e) a))(l:lk H k=some (Xv 6 Pt qG (Xa f) b))(c:Nat.beq j 0=false)(d:Nat.beq k 0=false)(hi:i<2) :
  ∀a' w,Sat N sc env H a' w->Sat N sc env ((n,Xv 6 Pt qG (Xa ([e,f].getD i sd)) (Ct i a b))::H) a' w:=by
 match i,hi with
 | 0,_=>exact Zc0 j n g c rfl (λ_ h=>h) (λ_ h=>h) rfl
 | 1,_=>exact Zc0 k n l d rfl (λ_ h=>h) (λ_ h=>h) rfl
end
theorem Ykx(h:Ag a b>=Af a b)(ps:List Zd):Bg a b=9/\Lt a b ps=[]:=by have e:Bg a b=9:=aO h;exact⟨e,by unfold Lt;grind⟩
theorem Zot(h:¬Ag a b>=Af a b){n:Nat}(g:n+1<(Lg a b).length)(f:(Qu ((Lg a b).getD n 0) ((Lg a b).getD (n+1) 0) a && Qu ((Lg a b).getD n 0) ((Lg a b).getD (n+1) 0) b)=false)(ps:List Zd):Bg a b=7/\Lt a b ps=[]:=by
 have k:Zx9 a b=false:=by
  cases hk:Zx9 a b with
  | false=>rfl
  | true=>
   have c:=Zvu (n:=n+1) O1 hk;have d:Fc _ a b (n+1)=(Fc (Lg a b) a b n && (Qu _ _ a && Qu _ _ b)):=rfl;grind
 have e:Bg a b=7:=by unfold Bg;grind
 exact⟨e,by unfold Lt;grind⟩
theorem Yky(h:¬Ag a b>=Af a b){n:Nat}(d:n+1=(Lg a b).length)(c:Fc (Lg a b) a b n=true):Bg a b=0/\∀ps,Lt a b ps=Zcs (Lg a b) ps n:=by
 have k:Zx9 a b=true:=by unfold Zx9;grind
 have e:Bg a b=0:=by unfold Bg;grind
 exact⟨e,λps=>by unfold Lt;grind⟩
theorem com_k{n:Nat}(h:Fc (Lg a b) a b n=true)(c:Qu ((Lg a b).getD n 0) ((Lg a b).getD (n+1) 0) a=true)(d:Qu ((Lg a b).getD n 0) ((Lg a b).getD (n+1) 0) b=true):Fc (Lg a b) a b (n+1)=true:=by show(Fc _ a b n && (_ && _))=true;grind
theorem com_z{ps zs:List Zd}{n:Nat}(h:zs.map Ei=Zcs ts ps n)(c:us.map Ei=Gy (ts.getD n 0) (ts.getD (n+1) 0) ps):(zs ++ us).map Ei=Zcs ts ps (n+1):=by rw [dW,h,c];rfl
theorem com_u{ps:List Zd}{fr to:Int}(hi:∀g∈ps,Gin g)(f:Yg ps=true)(h:Ac ps<=fr)(j:fr<to)(l:to<=Bi ps)(c:∀g∈ps,¬(fr<g.1.1/\g.1.1<to))(o:Qu fr to ps=true)(m:us.map Ei=Gy fr to ps):us.length=1:=by have q:=(Xb f).2.1;have n:=Zrq (Ez hi f).1 (λe=>O5) h j l c;have d:=aH List.length m;rw [bM]at d;rw [d];unfold Gy;grind
theorem com_ua{n:Nat}(hi:∀g∈a,Gin g)(h:Yg a=true)(B:Bks a b)(c:n+1<(Lg a b).length)(j:Qu ((Lg a b).getD n 0) ((Lg a b).getD (n+1) 0) a=true)(m:us.map Ei=Gy ((Lg a b).getD n 0) ((Lg a b).getD (n+1) 0) a):us.length=1:=by obtain⟨d,e,f⟩:=B.lt n c;unfold Ag at d;unfold Af at f;exact com_u hi h O1 e O1 (λg l=>B.no n c g (.inl l)) j m
theorem com_ub{n:Nat}(hi:∀g∈b,Gin g)(h:Yg b=true)(B:Bks a b)(c:n+1<(Lg a b).length)(j:Qu ((Lg a b).getD n 0) ((Lg a b).getD (n+1) 0) b=true)(m:us.map Ei=Gy ((Lg a b).getD n 0) ((Lg a b).getD (n+1) 0) b):us.length=1:=by obtain⟨d,e,f⟩:=B.lt n c;unfold Ag at d;unfold Af at f;exact com_u hi h O1 e O1 (λg l=>B.no n c g (.inr l)) j m
def Zyt{a b:Bool}(h:a=false):(a && b)=false:=O5
def Zys{a b:Bool}(h:b=false):(a && b)=false:=O5
end Go.Sky
namespace Go.Sky
variable{c p q ns:List Int}{x M:Nat}{f:Nat->List Int}
section
variable {P:Program} {N:Nat} {sc:Nat->Prop} {env:Qm} {H:Hp}
end
def KA:Nat:=360287970189639680
theorem AxC.ka{a:Int}(h:AxC c a)(b:1<=a)(d:a<=4294967296):Ab KA (tzl c):=λk=>by have:=h.cg k;rw [Hm];unfold KA;omega
def BG:Nat:=2^250*2^250
def bl_two{a b:Nat}(h:x<2^a*2^b):bl x<=a+b:=(Qs _ x).2 O5
theorem Yll(h:x<BG):bl x<=500:=bl_two h
def Ab.sg(h:Ab M p)(a:M<BG):Sz 500 p:=λi=>Yll (aY (h i) a)
theorem Zcl(h:Ab M p)(a:M<BG)(d:Tr p)(b:p.length<=25):Vp p:=⟨(h.sg a).mono O1,d,b⟩
theorem Ztg{c:Int}(h:Ab M p)(b:M*c.natAbs<BG)(i:Nat):bl (cf p i*c).natAbs<=65536:=by have a:=Az h c i;grind [Qp,Nat.le_trans,Yll,Nat.lt_of_le_of_lt]
theorem ad_ab{K:Nat}(h:Ab M p)(d:Ab K q)(e:M+K<BG)(i:Nat):bl (cf p i+cf q i).natAbs<=65536/\bl (cf p i-cf q i).natAbs<=65536:=by have a:=h i;have b:=d i;grind [Nat.le_trans,Yll,Nat.lt_of_le_of_lt]
theorem mf_ab(h:Ab M p)(b:M<BG)(d:p.length<=11):¬Zao p p:=λa=>by have m:=Og (h.sg b);rcases a.2.2 with w|w<;>omega
def dfP(p q:List Int)(a b:Int):List Int:=Bq (Yo (tzl p) b) (Yo (tzl q) a)
def dfK(p q:List Int)(a b k:Int):List Int:=Yo (dfP p q a b) k
def sqK(p q:List Int)(a b k:Int):List Int:=Pa (dfK p q a b k) (dfK p q a b k)
def sqP(p q:List Int)(a b:Int):List Int:=Pa (dfP p q a b) (dfP p q a b)
def KD:Nat:=KA*4294967296+KA*4294967296
structure FmX (p q:List Int) (a b k:Int):Prop where
 v1:Vp (tzl p)
 v2:Vp (tzl q)
 b1:bl b.natAbs<=65536
 a1:bl a.natAbs<=65536
 k1:bl k.natAbs<=65536
 s1:∀i,bl (cf (tzl p) i*b).natAbs<=65536
 s2:∀i,bl (cf (tzl q) i*a).natAbs<=65536
 v3:Vp (Yo (tzl p) b)
 v4:Vp (Yo (tzl q) a)
 s3:∀i,bl (cf (Yo (tzl p) b) i-cf (Yo (tzl q) a) i).natAbs<=65536
 v5:Vp (dfP p q a b)
 s4:∀i,bl (cf (dfP p q a b) i*k).natAbs<=65536
 v6:Vp (dfK p q a b k)
 m6:¬Zao (dfK p q a b k) (dfK p q a b k)
 v7:Vp (sqK p q a b k)
 ab:Ab (6*((KD*100)*(KD*100))) (sqK p q a b k)
 l:(sqK p q a b k).length<=11
 m5:¬Zao (dfP p q a b) (dfP p q a b)
 v8:Vp (sqP p q a b)
 ab8:Ab (6*((KD*100)*(KD*100))) (sqP p q a b)
 l8:(sqP p q a b).length<=11
theorem fmX{a b k:Int}(l:Ab KA (tzl p))(m:Ab KA (tzl q))(lp:p.length<=6)(I:q.length<=6)(w:1<=a/\a<=4294967296)(y:1<=b/\b<=4294967296)(Q:1<=k/\k<=100):FmX p q a b k:=by
 have o:=aB (Ge p) lp;have r:=aB (Ge q) I;have s:Ab (KA*4294967296) _:=(Az l b).mono (bD _ O1);have t:Ab (KA*4294967296) _:=(Az m a).mono (bD _ O1);have d:Ab KD _:=ab_sub s t;have e:Ab (KD*100) _:=(Az d k).mono (bD _ O1);have j:Ab (KD*100) _:=d.mono O1;have l3:(Yo (tzl p) b).length<=6:=aB Kg o;have G:(Yo (tzl q) a).length<=6:=aB Kg r;have g:(dfP p q a b).length<=6:=Zqq l3 G;have n:(dfK p q a b k).length<=6:=aB Kg g;have t5:Tr (dfP p q a b):=Qt _;have t6:Tr (dfK p q a b k):=Qt _;have u:=Yl5 e e n;have v:=Yl5 j j g;have z:=Yas t6 t6 n n;have B:=Yas t5 t5 g g;have h:∀c:Int,1<=c/\c<=4294967296->bl c.natAbs<=65536:=λc F=>aB ((Qs 40 _).2 O1) O1;have D:∀c:Int,1<=c/\c<=4294967296->KA*c.natAbs<BG:=λc F=>aY (bD KA (by omega:c.natAbs<=4294967296)) O4;exact⟨Zcl l O4 (Qt _) O1,Zcl m O4 (Qt _) O1,h b y,h a w,h k O1,Ztg l (D b y),Ztg m (D a w),
  Zcl s O4 (Qt _) O1,Zcl t O4 (Qt _) O1,λi=>(ad_ab s t O4 i).2,Zcl d O4 t5 O1,
  Ztg d (aY (bD KD (by omega:k.natAbs<=100)) O4),Zcl e O4 t6 O1,mf_ab e O4 O1,Zcl u O4 (Qq _ _) (by have:(sqK p q a b k).length<=_:=z;omega),u,z,
  mf_ab j O4 O1,Zcl v O4 (Qq _ _) (by have:(sqP p q a b).length<=_:=B;omega),v,B⟩
def ngC(ns:List Int):Nat->List Int
 | 0=>[-1]
 | i+1=>Yo (Yo (ngC ns i) (ns.getD i 0)) (ns.getD i 0)
def sqN(ns:List Int):Nat->Nat
 | 0=>1
 | i+1=>sqN ns i*(ns.getD i 0).natAbs*(ns.getD i 0).natAbs
theorem Zqc(ns:List Int):∀i,Ab (sqN ns i) (ngC ns i)/\(ngC ns i).length<=1/\Tr (ngC ns i)
 | 0=>⟨λi=>by
   match i with
   | 0=>show(cf [-1] 0).natAbs<=1;decide
   | i+1=>show(cf [-1] _).natAbs<=1;grind [Yx],Nat.le_refl _,show Tr [-1]from .inr O4⟩
 | i+1=>by obtain⟨a,b,d⟩:=Zqc ns i;exact⟨Az (Az a _) _,aB Kg (aB Kg b),Qt _⟩
theorem Yft{ns:List Int}{B:Nat}(h:∀i,(ns.getD i 0).natAbs<=B):∀i,sqN ns i<=(B*B)^i
 | 0=>aI _
 | i+1=>by rw [dH,<-fB];exact aU (aU (Yft h i) (h i)) (h i)
structure NgX (ns:List Int) (i:Nat):Prop where
 b:bl (ns.getD i 0).natAbs<=65536
 inn:La (ns.getD i 0)
 v:Vp (ngC ns i)
 s:∀k,bl (cf (ngC ns i) k*ns.getD i 0).natAbs<=65536
 v2:Vp (Yo (ngC ns i) (ns.getD i 0))
 s2:∀k,bl (cf (Yo (ngC ns i) (ns.getD i 0)) k*ns.getD i 0).natAbs<=65536
theorem ngX(h:∀i,(ns.getD i 0).natAbs<=4294967296){i:Nat}(hi:i<=4):NgX ns i:=by obtain⟨j,n,k⟩:=Zqc ns i;have e:=Yft h i;have g:(4294967296*4294967296)^i<=(4294967296*4294967296)^4:=dC O1 hi;have a:=j.mono (aB e g);have b:=h i;have d:=(Az a _).mono (bD _ b);have l:(4294967296*4294967296)^4*(ns.getD i 0).natAbs<BG:=aY (bD _ b) O4;have m:(4294967296*4294967296)^4*4294967296*(ns.getD i 0).natAbs<BG:=aY (bD _ b) O4;exact⟨aB ((Qs 40 _).2 O1) O1,⟨O1,O1⟩,Zcl a O4 k O1,Ztg a l,Zcl d O4 (Qt _) (aB Kg O1),Ztg d m⟩
def smP(c:List Int)(f:Nat->List Int):Nat->List Int
 | 0=>c
 | i+1=>Za7 (smP c f i) (f i)
theorem Yf2{c:List Int}{f:Nat->List Int}{C F:Nat}(a:Ab C c)(d:c.length<=11)(g:Tr c)(b:∀i,Ab F (f i))(e:∀i,(f i).length<=11):∀i,Ab (C+i*F) (smP c f i)/\(smP c f i).length<=11/\Tr (smP c f i)
 | 0=>⟨by rw [iM];exact a,d,g⟩
 | i+1=>by obtain⟨h,j,k⟩:=Yf2 a d g b e i;exact⟨by rw [fC,<-iX];exact ab_add h (b i),Yo1 j (e i),Qt _⟩
structure SmX (c:List Int) (f:Nat->List Int):Prop where
 v:∀i,i<=3->Vp (smP c f i)
 s:∀i,i<3->∀k,bl (cf (smP c f i) k+cf (f i) k).natAbs<=65536
 d:Cvd (Yw (smP c f 3))
theorem smX(l:Ab (2^190) c)(o:c.length<=1)(n:Tr c)(h:∀i,Ab (6*((KD*100)*(KD*100))) (f i))(m:∀i,(f i).length<=11):SmX c f:=by
 have a:=Yf2 l O1 n h m;have d:∀i,i<=3->2^190+i*(6*((KD*100)*(KD*100)))<2^205:=λi hi=>aY (Nat.add_le_add_left (aQ _ hi) _) O4;have e:(2)^205<BG:=O4;refine⟨λi hi=>?_,λi hi k=>?_,?_⟩
 .grind [Zcl,Nat.lt_trans]
 .obtain⟨b,j,g⟩:=a i;refine(ad_ab b (h i) ?_ k).1;have:=d _ hi;grind
 .obtain⟨b,j,g⟩:=a 3;have hs:=b.sz (d 3 (aI _));exact⟨Hb (Zcl b (iR (d 3 (aI _)) e) g O1),Cq hs,by simp_all [Yp]⟩
end Go.Sky
namespace Go.Sky
variable{x y z:List Int}{ov D d:Int}{a b xs:List Zd}
theorem fillG{g h j c e f:Value}:Instr.fill (λi=>some (i*3,3)) ((List.range (1*3)).map ((Value.agg #[g,h,j]).cells[· % (Value.agg #[g,h,j]).cells.size]!)).toArray [(0,.agg #[c,e,f])]=some #[c,e,f]:=by rfl
def Zjc(m:Int)(l:List Int):Bool:=l.all λx=>decide (-m<=x) && decide (x<=m)
theorem insB_t{m:Int}{l:List Int}(h:∀i,i<l.length->-m<=l.getD i 0/\l.getD i 0<=m):Zjc m l=true:=bC.2 λx c=>by grind [Db,decide_eq_true]
theorem Yiq (i:Nat){m:Int}{l:List Int}(hi:i<l.length)(h:¬(-m<=l.getD i 0/\l.getD i 0<=m)):Zjc m l=false:=by
 cases hb:Zjc m l with
 | false=>rfl
 | true=>
  have:=bC.1 hb _ (Zg (d:=0) hi);grind
def ptB(x y z:Int):Bool:=Zjc 1048576 [x,y,z]
theorem Za6{x y z:Int}(h:ptB x y z=true):(-1048576<=x/\x<=1048576)/\(-1048576<=y/\y<=1048576)/\(-1048576<=z/\z<=1048576):=by unfold ptB Zjc at h;grind
def znB(D n d:Int):Bool:=decide (1<=D/\D<=4194304/\1<=n/\n<=d/\d<=100)
def ptsB(e f g h c i D n d:Int):Bool:=decide (D*d*(D*d)<=(e-h)*d*((e-h)*d)+(f-c)*d*((f-c)*d)+(g-i)*n*((g-i)*n))
def fqZ(n d ov c:Int)(x y z e f g:List Int)(i:Nat):List Int:=sqK (Ya i x y z) (Ya i e f g) ov c (Ya i d d n)
def cnZ(D d ov c:Int):List Int:=ngC [D,d,ov,c] 4
def smZ(D n d ov c:Int)(x y z e f g:List Int)(i:Nat):List Int:=smP (cnZ D d ov c) (fqZ n d ov c x y z e f g) i
def fmZ(D n d ov c:Int)(x y z e f g:List Int):List Int:=Yw (smZ D n d ov c x y z e f g 3)
structure FzX (D n d ov ov2:Int) (x y z x2 y2 z2:List Int):Prop where
 X:∀i,FmX (Ya i x y z) (Ya i x2 y2 z2) ov ov2 (Ya i d d n)
 K:∀i,La (Ya i d d n)
 N:∀i,i<=4->NgX [D,d,ov,ov2] i
 Q:SmX (cnZ D d ov ov2) (fqZ n d ov ov2 x y z x2 y2 z2)
theorem Zpj{fr to:Int}(h:Za4 fr to ov x y z=true)(i:Nat):Ab KA (tzl (Ya i x y z)):=by unfold Za4 Zwl at h;simp only [aP,bO]at h;obtain⟨⟨⟨⟨⟨⟨⟨⟨k,m⟩,n⟩,c⟩,e⟩,f⟩,g⟩,j⟩,-⟩:=h;exact Eu (p:=λl=>Ab KA _) ((AxC.of f).ka c e) ((AxC.of g).ka c e) ((AxC.of j).ka c e)
theorem tzlm1:(if 25<(tzl [(-1:Int)]).length then []else tzl [-1])=[-1]:=by rfl
abbrev GpT:=(Int×Int)×(SL×List Int)
abbrev Zdl (g:GpT):Value:= .agg #[.int .i64 g.1.1,.int .i64 g.1.2,Xa g.2.1]
abbrev qGp (g:GpT):Pc:=Yt 2 wv (Xa g.2.1) g.2.2
abbrev Gp0:GpT:=((0,0),((none,0,0),[]))
abbrev GpU:=Int×Int×List Int
def unP(g:GpT):GpU:=(g.1.1,g.1.2,g.2.2)
def gpZ(D n d:Int)(g h:Zck):GpU:=(g.1.1,g.1.2.1,fmZ D n d g.1.2.2 h.1.2.2 g.2.1 g.2.2.1 g.2.2.2 h.2.1 h.2.2.1 h.2.2.2)
def Ie(D n d:Int)(a b:List Zd):List GpU:=List.zipWith (gpZ D n d) (Lt a b a) (Lt a b b)
def Ga(a b:List Zd):Int:=if Bg a b=9 then 0 else Bg a b
def Ykz(h:Bg a b≠0)(ps:List Zd):Lt a b ps=[]:=aF h
theorem gapZ_0{n:Int}(h:Bg a b≠0):Ie D n d a b=[]:=by unfold Ie;simp_all [Ykz]
theorem Zl6{c:List Int}{a b ps:List Zd}(e:∀k,Qu (c.getD k 0) (c.getD (k+1) 0) a=true->Qu (c.getD k 0) (c.getD (k+1) 0) b=true->k+1<c.length->(Gy (c.getD k 0) (c.getD (k+1) 0) ps).length=1):∀n,n+1<=c.length->Fc c a b n=true->(Zcs c ps n).length=n
 | 0,_,_=>rfl
 | n+1,h,f=>by have g:Fc c a b (n+1)=(Fc c a b n && (Qu _ _ a && Qu _ _ b)):=rfl;rw [g,aP,aP]at f;show(Zcs c ps n ++ Gy _ _ ps).length=_;rw [cM,Zl6 e n O1 f.1,e n f.2.1 f.2.2 O1]
theorem Yks{ps:List Zd}{fr to:Int}(hi:∀g∈ps,Gin g)(f:Yg ps=true)(h:Ac ps<=fr)(i:fr<to)(j:to<=Bi ps)(c:∀g∈ps,¬(fr<g.1.1/\g.1.1<to))(k:Qu fr to ps=true):(Gy fr to ps).length=1:=by have l:=(Xb f).2.1;unfold Gy;rw [aO k,bM,Zrq (Ez hi f).1 (λe=>O5) h i j c]
theorem Yk0(h:Bg a b=0):¬Ag a b>=Af a b/\Zx9 a b=true:=by unfold Bg at h;grind
theorem Yqe(o:∀g∈a,Gin g)(p:∀g∈b,Gin g)(l:Yg a=true)(m:Yg b=true):(Lt a b a).length=(Lt a b b).length/\(Lt a b a).length<=2+a.length+b.length:=by
 by_cases h:Bg a b=0
 .obtain⟨u,q⟩:=Yk0 h;have B:=bks a b O1;have t:=B.two;have e:∀ps,Lt a b ps=Zcs _ ps _:=λps=>aO h;have v:=Zl6 (λk r s c=>by obtain⟨f,i,j⟩:=B.lt k c;unfold Ag at f;unfold Af at j;exact Yks o l O1 i O1 (λg n=>B.no k c g (.inl n)) r) _ O1 q
  have w:=Zl6 (λk r s c=>by obtain⟨f,i,j⟩:=B.lt k c;unfold Ag at f;unfold Af at j;exact Yks p m O1 i O1 (λg n=>B.no k c g (.inr n)) s) _ O1 q
  grind [Yar]
 simp_all [Ykz,bI]
theorem Zrs{ps zs:List Zd}(hi:∀g∈ps,Gin g)(p:Yg ps=true)(t:zs.map Ei=Lt a b ps):∀q∈zs,Gin q/\seB q=true:=by
 have k:∀n,∀u∈Zcs _ ps n,∃(fr e:Int) (g:Zd),g∈ps/\Nz fr e g=true/\Zfx fr e g=true/\u=Zeo fr e g:=λn=>by
  induction n with
  | zero=>intro u j;cases j
  | succ n v=>
   intro u j;rcases dB.1 (show u∈Zcs (Lg a b) ps n ++ _ from j)with h|h
   .grind
   .unfold Gy at h;split at h
    .rename_i r;obtain⟨g,l,rfl⟩:=dP.1 h;obtain⟨c,f⟩:=fN.1 l;exact⟨_,_,g,c,f,bC.1 r g l,rfl⟩
    grind
 intro q s;have i:Ei q∈Lt a b ps:=O5;unfold Lt at i;split at i
 .obtain⟨fr,e,g,c,f,m,o⟩:=k _ _ i;have:=Zj2 (hi g c) ((Ez hi p).2.1 g c) f m o;grind
 grind
theorem zip_s{α β γ:Type}{f:α->β->γ} : ∀{l:List α} {m:List β} {k:Nat} {x:α} {y:β},l[k]? = some x->m[k]? = some y->(List.zipWith f l m).take (k+1)=(List.zipWith f l m).take k ++ [f x y]
 | [],_,_,_,_,h,_=>O5
 | _::_,[],_,_,_,_,h=>O5
 | a::l,b::m,0,x,y,h,h2=>O11
 | a::l,b::m,k+1,x,y,h,h2=>by have:=zip_s (f:=f) (by simpa using h) (by simpa using h2);simp only [lF,jY,this,iL]
def gpY(q:Zd)(g:SL×List Int):GpT:=((q.1.1,q.1.2.1),g)
theorem Ypd{n:Int}{ys:List Zd}{zs:List GpT}{k:Nat}{g:SL×List Int}(l:xs.map Ei=Lt a b a)(m:ys.map Ei=Lt a b b)(h:zs.map unP=(Ie D n d a b).take k)(j:k<xs.length)(f:k<ys.length)(i:g.2=fmZ D n d (xs.getD k G0).1.2.2 (ys.getD k G0).1.2.2 (xs.getD k G0).2.1.2 (xs.getD k G0).2.2.1.2 (xs.getD k G0).2.2.2.2 (ys.getD k G0).2.1.2 (ys.getD k G0).2.2.1.2 (ys.getD k G0).2.2.2.2) :
  (zs ++ [gpY (xs.getD k G0) g]).map unP=(Ie D n d a b).take (k+1):=by
 have c:(Lt a b a)[k]? = some (Ei (xs.getD k G0)):=O5;have e:(Lt a b b)[k]? = some (Ei (ys.getD k G0)):=O5;unfold Ie at h ⊢;rw [zip_s c e,dW,cP];simp only [gpY,unP,gpZ,Ei];grind
theorem gp_all{n:Int}{zs:List GpT}(e:xs.map Ei=Lt a b a)(c:(Lt a b a).length=(Lt a b b).length)(h:zs.map unP=(Ie D n d a b).take xs.length):zs.map unP=Ie D n d a b:=by rw [h];unfold Ie;grind
def gapE_9(h:Bg a b=9):Ga a b=0:=aO h
def gapE_n(h:¬Bg a b=9):Ga a b=Bg a b:=aF h
theorem Zoe{fr to:Int}(h:Sgo fr to ov x y z):La ov:=⟨by have:=h.o1;omega,by have:=h.o2;omega⟩
def Ydz(l:List GpU):Option GpU:=l.find? λg=>Zcq g.2.2
def Zen(l:List GpU):Int×Int×Bool:=match Ydz l with
 | some g=>(g.1,g.2.1,true)
 | none=>(0,0,false)
theorem fst_n{l:List GpU}(h:∀i,i<l.length->Zcq (l.getD i (0,0,[])).2.2=false):Zen l=(0,0,false):=by
 have:Ydz l=none:=jB.2 λg c=>by obtain⟨i,hi,rfl⟩:=dI.1 c;grind
 unfold Zen;grind
theorem Ye4(zs:List GpT)(k:Nat):(zs.map unP).getD k (0,0,[])=unP (zs.getD k Gp0):=by rw [aJ,fD,aJ];cases zs[k]?<;>rfl
def mkS(u:Zck):Zd:=(u.1,((none,0,0),u.2.1),((none,0,0),u.2.2.1),((none,0,0),u.2.2.2))
theorem Zy5(l:List Zck):(l.map mkS).map Ei=l:=by rw [gO];exact List.map_id' _
theorem fst_no{l:List GpU}{zs:List GpT}(h:zs.map unP=l)(c:∀i,i<zs.length->Zcq (zs.getD i Gp0).2.2=false):Zen l=(0,0,false):=by subst h;exact fst_n λi hi=>by rw [Ye4];exact c i O5
def apZ(D n d:Int)(a b:List Zd):Bool:=decide (Ga a b=0) && !(Zen (Ie D n d a b)).2.2
theorem ap_f{n:Int}(h:¬Ga a b=0):apZ D n d a b=false:=by unfold apZ;grind
def tmL(a b k:Int):List Int:=if b-a=0\/k=2 then [a]else if k=1 then [a,b-a]else [a,0,0,10*(b-a),-15*(b-a),6*(b-a)]
def lineG(k:Int)(s:SL×SL×SL):Zd:=((0,1000,1),(s.1,tmL 0 300 k),(s.2.1,tmL 0 400 k),(s.2.2,tmL 0 0 k))
def stayG(s:SL×SL×SL):Zd:=((1000,2000,1),(s.1,tmL 0 0 2),(s.2.1,tmL 0 0 2),(s.2.2,tmL 0 0 2))
theorem Zid{l:List Int}(h:l.all (λa=>decide (-9223372036854775808<=a/\a<=9223372036854775807))=true):∀a∈l,La a:=λa c=>by have:=bC.1 h a c;simp only [bO]at this;exact this
def litb(l:List Int):Bool:=(l.all λx=>decide (-1000000<=x) && decide (x<=1000000)) && (decide (tzl l=l) && decide (l.length<=25))
instance eokDec:∀f a b,Decidable (eok f a b)
 | 0,_,b=>inferInstanceAs (Decidable (b=[]))
 | f+1,a,b=>@instDecidableOr _ _ _ (@instDecidableAnd _ _ _ (eokDec f b (Yw (Qw a b))))
def legZ(e f g h c i k:Int)(s:SL×SL×SL):Zd:=((0,1000,1),(s.1,tmL e h k),(s.2.1,tmL f c k),(s.2.2,tmL g i k))
abbrev TzT:=SL×List (Int×SL)
def sqF(ov c:Int)(x y z e f g:List Int)(i:Nat):List Int:=sqP (Ya i x y z) (Ya i e f g) ov c
def sqR(ov c:Int)(x y z e f g:List Int):Nat->List (List Int)
 | 0=>[]
 | i+1=>sqR ov c x y z e f g i ++ [sqF ov c x y z e f g i]
def ovW(ov c:Int):Int:=ov*c*(ov*c)
def rfL(i h ov c:Int)(x y z e f g:List Int):List Int:=Za7 (Yo (Za7 (sqF ov c x y z e f g 0) (sqF ov c x y z e f g 1)) (h*h)) (Yo (sqF ov c x y z e f g 2) (i*i))
def rfW(e f ov c:Int):Int:=e*e*(f*f)*ovW ov c
def rfZ(i j e ov c:Int)(x y z f g h:List Int):List Int:=Bq (rfL j e ov c x y z f g h) (tzl [rfW i e ov c])
structure RfX (zd zn ze ov ov2:Int) (x y z x2 y2 z2:List Int):Prop where
 v0:∀i,Vp (sqF ov ov2 x y z x2 y2 z2 i)
 v1:Vp (Za7 (sqF ov ov2 x y z x2 y2 z2 0) (sqF ov ov2 x y z x2 y2 z2 1))
 v2:Vp (Yo (Za7 (sqF ov ov2 x y z x2 y2 z2 0) (sqF ov ov2 x y z x2 y2 z2 1)) (ze*ze))
 v3:Vp (Yo (sqF ov ov2 x y z x2 y2 z2 2) (zn*zn))
 v4:Vp (rfL zn ze ov ov2 x y z x2 y2 z2)
 v5:Vp (tzl [rfW zd ze ov ov2])
 v6:Vp (rfZ zd zn ze ov ov2 x y z x2 y2 z2)
 wb:bl (rfW zd ze ov ov2).natAbs<=1000000
 ob:bl (ov*ov2).natAbs<=1000
 oW:bl (ovW ov ov2).natAbs<=1000
 eb:bl (ze*ze).natAbs<=1000
 nb:bl (zn*zn).natAbs<=1000
 db:bl (zd*zd).natAbs<=1000
 xb:bl (zd*zd*(ze*ze)).natAbs<=1000
def tpI(n k:Nat):Nat:=n/1000000000^k
def gcR(o:Int)(X Y Z:List Int):Nat->Int
 | 0=>o
 | i+1=>(Int.gcd (gcR o X Y Z i) (Xq (Ya i X Y Z)):Int)
structure Row3 (ws:List TzT) (X Y Z:List Int):Prop where
 l:ws.length=3
 e:∀i,i<3->ints (ws.getD i T0).2=Ya i X Y Z
def segY(fr to:Int)(g:Zd)(r:SL×SL×SL):Zd:=((cA fr g,cB to g,cO g/cG fr to g),(r.1,Ba (cX fr to g g.2.1.2) (cG fr to g)),(r.2.1,Ba (cX fr to g g.2.2.1.2) (cG fr to g)),(r.2.2,Ba (cX fr to g g.2.2.2.2) (cG fr to g)))
def nxF(t c:Int)(ps:List Zd):Nat->Int
 | 0=>c
 | i+1=>if t<(ps.getD i G0).1.1 then min (nxF t c ps i) (ps.getD i G0).1.1 else nxF t c ps i
def bdI:List GpU->Int
 | []=>-1
 | g::l=>if Zcq g.2.2 then 0 else if bdI l<0 then -1 else bdI l+1
open Go Go.MapKept
variable {P:Program} {N:Nat} {sc:Nat->Prop} {env env':Qm} {H H':Hp} {Q Q':Exit->Act->World->Prop} {M:Nat->Prop}
abbrev PT:=SL×List Zd
abbrev PT0:PT:=((none,0,0),[])
abbrev encP (x:PT):Value:=Xa x.1
abbrev qP (x:PT):Pc:=Xv 6 Pt qG (Xa x.1) x.2
def mpc(b:Nat)(c:Array MapEntry)(n:Nat):Pc:=
 {own:=true,fp:=λk=>k=b,holds:=λw=>w.heap[b]? = some (.map c n)
  lt:=λw k h f=>by subst f;exact(aM.1 h).1
  stable:=λw i h e=>by rw [<-h];exact e.block b (aM.1 h).1 (λg=>g rfl) }
def fewsB(m k:Nat)(c:List PT):Bool:=decide (c.length<=m) && c.all λx=>fewB x.2 k
def valsB(c:List PT):Bool:=c.all λx=>Yg x.2
abbrev ClT:=(Int×Int×Int×Int)×Bool×Int
abbrev clE (r:ClT):Value:= .tuple #[.agg #[.int .i64 r.1.1,.int .i64 r.1.2.1,.int .i64 r.1.2.2.1,.int .i64 r.1.2.2.2],.bool r.2.1,.int .i64 r.2.2]
def pth(ps:List PT)(i:Nat):List Zd:=(ps.getD i PT0).2
def clV(D n d:Int)(ps:List PT)(i k:Nat):ClT:=
 (if(Zen (Ie D n d (pth ps i) (pth ps k))).2.2=true then((i:Int),(k:Int),(Zen (Ie D n d (pth ps i) (pth ps k))).1,(Zen (Ie D n d (pth ps i) (pth ps k))).2.1)else(0,0,0,0),(Zen (Ie D n d (pth ps i) (pth ps k))).2.2,Ga (pth ps i) (pth ps k))
def ClA(D n d:Int)(ps:List PT)(i:Nat):Prop:=∀j k,j<k->k<ps.length->j<i->apZ D n d (pth ps j) (pth ps k)=true
def ClB(D n d:Int)(ps:List PT)(i m:Nat):Prop:=∀k,i<k->k<m->apZ D n d (pth ps i) (pth ps k)=true
def ClR(D n d:Int)(ps:List PT)(r:ClT):Prop:=
 (r=((0,0,0,0),false,0)/\ClA D n d ps ps.length)\/∃i k,i<k/\k<ps.length/\ClA D n d ps i/\ClB D n d ps i k/\apZ D n d (pth ps i) (pth ps k)=false/\r=clV D n d ps i k
theorem ap_no{n:Int}(h:(Zen (Ie D n d a b)).2.2=false)(c:Ga a b=0):apZ D n d a b=true:=by unfold apZ;grind
theorem ap_is{n:Int}(h:(Zen (Ie D n d a b)).2.2=true):apZ D n d a b=false:=by unfold apZ;grind
theorem ap_e{n:Int}(c:Ga a b≠0):apZ D n d a b=false:=by unfold apZ;grind
end Go.Sky
namespace Go.Sky
open Go Go.MapKept
variable{t:TypeId}{w0:World}{M0:Nat->Prop}{es:List (Int×Value)}
variable {P:Program} {N:Nat} {sc:Nat->Prop} {env env':Qm} {H H':Hp} {Q Q':Exit->Act->World->Prop} {M:Nat->Prop}
def mpe(a:Array MapEntry)(es:List (Int×Value)):Prop:=a.toList.map (λe=>(e.key,e.val))=es.map λp=>(Value.int .i64 p.1,p.2)
def mpi(b:Nat)(es:List (Int×Value)):Pc:=
 {own:=true,fp:=λk=>k=b,holds:=λw=>∃a n,w.heap[b]? = some (.map a n)/\mpe a es
  lt:=λw k h f=>by subst f;obtain⟨_,_,h,_⟩:=h;exact(aM.1 h).1
  stable:=λw i h e=>by obtain⟨a,n,c,d⟩:=h;exact⟨a,n,(e.block b (aM.1 c).1 (λg=>g rfl)).trans c,d⟩ }
def mfi:List (Int×Value)->Int->Nat->Option (Nat×Value)
 | [],_,_=>none
 | (a,v)::r,k,i=>if k=a then some (i,v)else mfi r k (i+1)
theorem fn_i(k:Int):∀(l:List MapEntry) (es:List (Int×Value)) (i:Nat),l.map (λe=>(e.key,e.val))=es.map (λp=>(Value.int .i64 p.1,p.2))->Instr.findNow (.int .i64) (.int .i64 k) l i=some (mfi es k i)
 | [],[],_,_=>rfl
 | [],_::_,_,h=>by cases h
 | _::_,[],_,h=>by cases h
 | e::l,(a,v)::es,i,h=>by
  simp only [cP,List.cons.injEq,Prod.mk.injEq]at h;obtain⟨⟨c,d⟩,f⟩:=h;by_cases b:k=a
  .subst b;simp [Instr.findNow,c,d,Instr.sameNow,mfi]
  .have g:(k == a)=false:=by simpa using b
   simp [Instr.findNow,c,Instr.sameNow,g,mfi,b,fn_i k l es (i+1) f]
theorem t_mmi {o:Oper}  {d i:Nat}   (j:o.op= .makeMap t none) (h:o.dst=some d) (f:Nat.blt d N=true)
  (c:lk H 0=some (Zy w0 M0)) (l:∀b,w0.heap.size<=b->sc b) :
  T P N sc M o env H (G:=Nat) (λ_=>True) (λb=>(d,.map (some b))::env) (λb=>(i,mpi b [])::H):=λa w hs K Q e=>by
 have k:(execOp a.eval o).run P w= .ok (.value (.map (some w.heap.size))) (w.alloc (.map #[] 0)):=by simp only [execOp,j,Sem.run_bind,Option.map_none];rfl
 unfold Oper.wp;rw [k];show K (a.put o.dst _) _;rw [h];exact e w.heap.size _ _ aA ((hs.new c l i (mpi w.heap.size []) (.map #[] 0) ⟨#[],0,heap_alloc_new w _,rfl⟩ (λb g=>g)).put d _ f) (Chg.alloc _ _ _)
theorem Yfc (i:Nat) {o:Oper} {kt B:TypeId} {x y z:Operand} {b:Nat} {k:Int} {v:Value}    (V:o.op= .insert t x y z) (R:o.dst=none)
  (Z:ev env x=some (.map (some b))) (hy:ev env y=some (.int .i64 k)) (hz:ev env z=some v) (p:lk H i=some (mpi b es)) (m:mfi es k 0=none) (j:i≠0) (S:P.underlying t=some (.map kt B)) (d:P.underlying kt=some (.int .i64))
  (D:lk H 0=some (Zy w0 M0)) (Y:∀b,w0.heap.size<=b->sc b) (I:M b) :
  T P N sc M o env H (G:=Unit) (λ_=>True) (λ_=>env) (λ_=>(i,mpi b (es ++ [(k,v)]))::H):=λa w hs K Q F=>by
 obtain⟨c,n,h,s⟩:∃c n,w.heap[b]? = some (.map c n)/\mpe c es:=hs.hold i _ p;have l:b<w.heap.size:=(aM.1 h).1;have u:=fn_i k _ _ 0 s;rw [m]at u;have W:(execOp a.eval o).run P w= .ok .skip { w with heap:=w.heap.setIfInBounds b (.map (c.push ⟨.int .i64 k,v,n⟩) (n+1)) }:=by simp [execOp,V,hs.ev Z,hs.ev hy,hs.ev hz,Instr.mapUpdate,run_underlying S,Go.MapKept.run_getObj_map h,run_checkKey d (show IsKey (.int .i64) (.int .i64 k)from rfl),run_findKey d u,Go.MapKept.run_setObj_map _ h]
 unfold Oper.wp;rw [W];show K (a.put o.dst _) _;rw [R];have r:∀f:Nat->Prop,f b->Chg f w { w with heap:=w.heap.setIfInBounds b (.map (c.push ⟨.int .i64 k,v,n⟩) (n+1)) }:=λf g=>
  ⟨rfl,rfl,rfl,O8,λk d m=>by have:b≠k:=λe=>m (e▸g);simp [jX,this]⟩
 exact F () _ _ aA ((hs.upd p rfl j (q:=mpi b (es ++ [(k,v)])) (r (λk=>k=b) rfl) ⟨_,_,by simp only [jX,l,jQ];rfl,by unfold mpe at *;simp [s]⟩ (λk d=> .inl d) D Y).put_none undef) (r _ I)
end Go.Sky
namespace Go.Sky
def Bl(a b:Int)(c:List Int):List Int:=a::(if a=b then []else c.map λf=>f*(b-a))
abbrev Yay:List Int:=[0,0,10,-15,6]
def glC(a b:Int):List Int:=Bl a b Yay
def Yi7{a:Int} : glC a a=[a]:=by unfold glC Bl;rw [aO rfl]
def glC_ne{a b:Int}(h:a≠b):glC a b=[a,0,0,10*(b-a),(-15)*(b-a),6*(b-a)]:=by unfold glC Bl;rw [aF h];simp
abbrev d2V (a b c e d f:Int):Int:=(a-e)*(a-e)+(b-d)*(b-d)+(c-f)*(c-f)
abbrev uNear:Rat:=(1-57735026918962576/100000000000000000)/2
def Yi9:∀(l:List Int),Lr 1 l=1
 | []=>rfl
 | x::r=>by show Lr ((Int.gcd 1 x:Nat):Int) r=1;rw [Int.gcd_one_left];exact Yi9 r
def Zxp{a b:Int}(e:-1048576<=a/\a<=1048576)(f:-1048576<=b/\b<=1048576):axB (glC a b) 1=true:=by
 by_cases h:a=b
 .subst h;rw [Yi7];have d:ctl [a] 0 1=a*60:=by simp [ctl,Ye,w60,Ob]
  have:Zik [a] 1=true:=Zr5 λj c=>by
   obtain rfl:j=0:=by simp at c;omega
   rw [d];omega
  unfold axB;rw [this];simp
 .rw [glC_ne h];have d:∀j,j<6->ctl [a,0,0,10*(b-a),(-15)*(b-a),6*(b-a)] j (j+1)=if j<3 then a*60 else b*60:=λj c=>by
   match j,c with
   | 0,_=>simp [ctl,Ye,w60,Ob]
   | 1,_=>simp [ctl,Ye,w60,Ob]
   | 2,_=>simp [ctl,Ye,w60,Ob]
   | 3,_=>simp [ctl,Ye,w60,Ob];omega
   | 4,_=>simp [ctl,Ye,w60,Ob];omega
   | 5,_=>simp [ctl,Ye,w60,Ob];omega
  have:Zik [a,0,0,10*(b-a),(-15)*(b-a),6*(b-a)] 1=true:=Zr5 λj c=>by rw [d j (by simpa using c)];split<;>omega
  unfold axB;rw [this];simp;omega
structure GlS (g:Zd) (T ax ay az bx b2 bz:Int):Prop where
 f:g.1.1=0
 t:g.1.2.1=T
 o:g.1.2.2=1
 x:g.2.1.2=glC ax bx
 y:g.2.2.1.2=glC ay b2
 z:g.2.2.2.2=glC az bz
section
variable {g:Zd} {T ax ay az bx b2 bz:Int} (hg:GlS g T ax ay az bx b2 bz) (hT:1<=T/\T<=3600000) (ha:ptB ax ay az=true) (hb:ptB bx b2 bz=true)
include hg hT ha hb
end
end Go.Sky
namespace Go.Sky
open Go.RowKit Below
variable {P:Program} {N:Nat} {sc:Nat->Prop} {env env':Qm} {H H':Hp} {Q Q':Exit->Act->World->Prop} {M:Nat->Prop}
end Go.Sky

