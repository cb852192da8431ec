/- Rules, arithmetic and contracts: part 10. No conditions but those that each theorem names. -/
import Derived.Test.YteikicbnfbgpnaaGreatEf08
import Derived.MapKept
set_option linter.all false
namespace Go.Sky
variable{a b us:List Zl}{p ts:List Int}{k i:Nat}{x:Int}
theorem bl_dl{a b:Int}{n:Nat}(h:bl a.natAbs<=n):bl (a/b).natAbs<=n:=by rw [Qo]at h ⊢;exact aW (jA a b) h
def jqP(fr g f:Int)(x y z:List Int)(c e d:Int)(h j l:List Int)(i:Nat):Prop:=qr (bgS (Zu i h j l)) (Zan [d,e-c])=qr (enS (Zu i x y z)) (Zan [f,g-fr])
def refS(o:Nat)(x y z:List Int):Nat->List Int
 | 0=>[]
 | i+1=>Ht (refS o x y z i) (Qt (dN o (tzl (Zu i x y z))) (dN o (tzl (Zu i x y z))))
def refC(o:Nat)(m c T:Int):Int:=m^2*c^2*T^(2*o)
def refF(o:Nat)(m c T:Int)(x y z:List Int):List Int:=Ei (tzl [refC o m c T]) (Zr (refS o x y z 3) (1000^(2*o)))
theorem ps_Cm(a b:Int):PS.C (a*b)=PS.C a*PS.C b:=PS.ext' λi=>by rw [PS.C_mul_c];cases i<;>simp [PS.C]
theorem Ye6(p:List Int)(k:Int):Qt (Zr p k) (Zr p k)=Zr (Qt p p) (k*k):=(Qm).ps_inj (Qk _ _) (by rw [Zkr,Zio,Zio,Zkr,ps_Cm];grind)
theorem sz_one{c:Int}{n:Nat}(h:bl c.natAbs<=n):Sz n [c]:=Sz.of_mem λt d=>by rw [bI.1 d];exact h
def frB(ps:List Zl)(d c:Int)(i:Nat):Int:=
 if 0<i/\joG (ps.getD (i-1) G0) (ps.getD i G0)=false then 1 else if Ky (Yly 1 d (ps.getD i G0))=true then 2 else if Ky (Yly 2 c (ps.getD i G0))=true then 3 else 0
def fiB(ps:List Zl)(d c:Int):Option (Nat×Int):=((List.range ps.length).find? λi=>decide (frB ps d c i≠0)).map λi=>(i,frB ps d c i)
theorem tf(b:Bool):b=false\/b=true:=by cases b<;>simp
def fiI(o:Option (Nat×Int)):Int:=match o with
 | none=>0
 | some g=>g.1
def fiC(o:Option (Nat×Int)):Int:=match o with
 | none=>0
 | some g=>g.2
abbrev firV (o:Option (Nat×Int)):Value:= .tuple #[.agg #[.int .i64 (fiI o),.int .i64 (fiC o)],.bool o.isSome,.int .i64 0]
theorem Zl7(p q:List Int)(x:Rat):Zg (Ht p q) x=Zg p x+Zg q x:=by rw [<-Xp];exact Na x _ _ λi=>by rw [Dh,Mt]
theorem Yi3(p q:List Int)(x:Rat):Zg (Ei p q) x=Zg p x-Zg q x:=by
 have:Zg (Ei p q) x=Zg (Mp p (q.map λa=>-1*a)) x:=Na x _ _ λi=>by rw [Ih,Mt,Qp];omega
 rw [this,Xp,Zp];push_cast;grind
theorem Yi5(p:List Int)(x:Rat):Zg p x=(Yw p:Rat)*Zg (Zz p) x:=by rw [<-Zp];exact Na x _ _ λi=>by rw [Qp,eE,Gm]
theorem Zw6(h:Tr p)(c:p≠[]):(0:Rat)<(Yw p:Rat):=by have d:=Cz h c;have e:=Nr p;exact_mod_cast (show 0<Yw p by omega)
theorem Zvq(h:Tr p)(x:Rat):Zg (Zz p) x<0↔Zg p x<0:=by
 by_cases c:p=[]
 .subst c;rfl
 .have d:=Zw6 h c;rw [Yi5 p];constructor
  .intro h;have:=Rat.mul_lt_mul_of_pos_left h d;rw [Rat.mul_zero]at this;exact this
  .intro h;by_cases q:Zg (Zz p) x<0
   .exact q
   .exact absurd (aH (cS d) (Rat.not_lt.1 q)) (Rat.not_le.2 h)
def spd(o:Nat)(x y z:List Int)(u:Rat):Rat:=Zg (refS o x y z 3) u
def lstB(o:Nat)(ps:List Zl):Nat:=Ypb (λn=>Yle o ps (n:Int)) 14 0 10000
def lsV(o:Nat)(ps:List Zl):Nat:=if Yle o ps 10000 then lstB o ps else 0
theorem Zow(a b:Bool):a=false\/(a=true/\b=false)\/(a=true/\b=true):=by cases a<;>cases b<;>simp
def dR(o:Nat)(c:List Int)(u:Rat):Rat:=Zg (dN o (tzl c)) u
theorem Prt.num{q g:Zl}{G:Int}(h:Prt q g G):∃v s:Rat,0<=v/\0<s/\v+s<=1/\s*((g.1.2.1-g.1.1:Int):Rat)=((q.1.2.1-q.1.1:Int):Rat)/\v*((g.1.2.1-g.1.1:Int):Rat)=((q.1.1-g.1.1:Int):Rat)/\(0:Rat)<((g.1.2.1-g.1.1:Int):Rat)/\
  ∀i (u:Rat),Zg (Zu i q.2.1.2 q.2.2.1.2 q.2.2.2.2) u*(G:Rat)=((g.1.2.1-g.1.1:Int):Rat)^5*Zg (Zu i g.2.1.2 g.2.2.1.2 g.2.2.2.2) (v+s*u):=by
 have l:=h.a0;have m:=h.b0;have n:=h.ab;have w:=h.x;generalize g.1.2.1-g.1.1=d at *;generalize q.1.2.1-q.1.1=b at *;generalize q.1.1-g.1.1=a at *;have f:(0:Rat)<(d:Rat):=by exact_mod_cast (show 0<d by omega)
 have o:(0:Rat)<=(a:Rat):=by exact_mod_cast l
 have t:(0:Rat)<(b:Rat):=by exact_mod_cast m
 have r:(a:Rat)+(b:Rat)<=(d:Rat):=by exact_mod_cast n
 have hi:0<(d:Rat)⁻¹:=fK.2 f;have c:(a:Rat)/d*d=a:=nD O4;have e:(b:Rat)/d*d=b:=nD O4;refine⟨(a:Rat)/d,(b:Rat)/d,?_,?_,?_,e,c,f,λi u=>w i _ u (by
  have j:(b:Rat)/d*u*d=((b:Rat)/d*d)*u:=by rw [lI,kQ u,<-lI]
  rw [Rat.add_mul,c,j,e])⟩
 .rw [jQ];exact aH o (cS hi)
 .rw [jQ];exact aU t hi
 .have:((a:Rat)/d+b/d)*d<=1*d:=by rw [Rat.add_mul,c,e];grind
  exact Rat.le_of_mul_le_mul_right this f
def Zzk{fr c:Int}{ps:List Zl}(h:Pw fr c ps=true):Zw4 fr c ps=0:=aM h
theorem Zzj{fr c:Int}{ps:List Zl}(h:Pw fr c ps=false):Zw4 fr c ps=7:=aG (by rw [h];exact eI)
def lh_M{fr d:Int}{ps:List Zl}(hi:∀g∈ps,Gin g)(e:Xy ps=true):∀g∈ps,It fr d g=true->MdG fr d g:=λg c f=>Zyv (hi g c) ((Zde hi e).2.1 g c) f
def inn(fr c:Int)(ps:List Zl):List Int:=(ps.filter λg=>decide (fr<g.1.1) && decide (g.1.1<c)).map λg=>g.1.1
theorem inn_t{fr c:Int}{ps:List Zl}(f:k<ps.length)(d:fr<(ps.getD k G0).1.1)(e:(ps.getD k G0).1.1<c):inn fr c (ps.take (k+1))=inn fr c (ps.take k) ++ [(ps.getD k G0).1.1]:=by unfold inn;rw [Zic (x:=ps.getD k G0) O4];grind
theorem inn_f{fr c:Int}{ps:List Zl}(d:k<ps.length)(h:¬(fr<(ps.getD k G0).1.1/\(ps.getD k G0).1.1<c)):inn fr c (ps.take (k+1))=inn fr c (ps.take k):=by unfold inn;rw [Zic (x:=ps.getD k G0) O4];grind
theorem Zr0(fr c:Int)(ps:List Zl):(inn fr c ps).length<=ps.length:=by unfold inn;grind
theorem Yb9{fr c:Int}{ps:List Zl} : x∈inn fr c ps↔∃g∈ps,g.1.1=x/\fr<x/\x<c:=by
 unfold inn;constructor
 .grind
 .rintro⟨g,f,rfl,d,e⟩;grind
def cmF(a b:List Zl):Int:=max (spF a) (spF b)
def cmL(a b:List Zl):Int:=min (spL a) (spL b)
def Zgi(a b:List Zl)(i:Nat):List Int:=cmF a b::cmL a b::((if 1<=i then inn (cmF a b) (cmL a b) a else []) ++ (if 2<=i then inn (cmF a b) (cmL a b) b else []))
def Ny(a b:List Zl):List Int:=Zuh (Zgi a b 2)
def Cv{α:Type _}(i:Nat)(a b:α):α:=if i=0 then a else b
theorem tms_s(h:i<2):Zgi a b (i+1)=Zgi a b i ++ inn (cmF a b) (cmL a b) (Cv i a b):=by
 match i,h with
 | 0,_=>simp [Zgi,Cv]
 | 1,_=>simp [Zgi,Cv]
theorem Br : x∈Ny a b↔x=cmF a b\/x=cmL a b\/(cmF a b<x/\x<cmL a b/\((∃g∈a,g.1.1=x)\/∃g∈b,g.1.1=x)):=by
 unfold Ny;rw [Zmt];show x∈cmF a b::cmL a b::(inn _ _ a ++ inn _ _ b)↔_;rw [bB,bB,cP,Yb9,Yb9];constructor
 .rintro(h|h|⟨g,c,d,e,f⟩|⟨g,c,d,e,f⟩)
  .exact .inl h
  .exact .inr (.inl h)
  .exact .inr (.inr ⟨e,f,.inl ⟨g,c,d⟩⟩)
  .exact .inr (.inr ⟨e,f,.inr ⟨g,c,d⟩⟩)
 .rintro(h|h|⟨e,f,⟨g,c,d⟩|⟨g,c,d⟩⟩)
  .exact .inl h
  .exact .inr (.inl h)
  .exact .inr (.inr (.inl ⟨g,c,d,e,f⟩))
  .exact .inr (.inr (.inr ⟨g,c,d,e,f⟩))
def Yd1(a b:List Zl):Sst (Ny a b) (Ny a b).length:=Yao (Zm4 _)
theorem Zv6(x:Int):∀l:List Int,(Zm3 x l).length<=l.length+1
 | []=>aI _
 | y::l=>by have:=Zv6 x l;unfold Zm3;grind
theorem Zv3:∀l:List Int,(Zuh l).length<=l.length
 | []=>aI _
 | x::l=>by have:=Zv3 l;have:=Zv6 x (Zuh l);show(Zm3 x (Zuh l)).length<=_;simp only [dP];omega
theorem Zrz(a b:List Zl)(i:Nat):(Zgi a b i).length<=2+a.length+b.length:=by have c:=Zr0 (cmF a b) (cmL a b) a;have d:=Zr0 (cmF a b) (cmL a b) b;unfold Zgi;split<;>split<;>simp<;>omega
theorem Zr1(a b:List Zl):(Ny a b).length<=2+a.length+b.length:=aB (Zv3 _) (Zrz a b 2)
structure Bks (a b:List Zl):Prop where
 two:2<=(Ny a b).length
 hd:(Ny a b).getD 0 0=cmF a b
 ls:(Ny a b).getD ((Ny a b).length-1) 0=cmL a b
 lt:∀k,k+1<(Ny a b).length->cmF a b<=(Ny a b).getD k 0/\(Ny a b).getD k 0<(Ny a b).getD (k+1) 0/\(Ny a b).getD (k+1) 0<=cmL a b
 no:∀k,k+1<(Ny a b).length->∀g,g∈a\/g∈b->¬((Ny a b).getD k 0<g.1.1/\g.1.1<(Ny a b).getD (k+1) 0)
theorem bks (a:List Zl)(b:List Zl)(h:cmF a b<cmL a b):Bks a b:=by
 have hs:=Yd1 a b;have r:cmF a b∈Ny a b:=Br.2 (.inl rfl);have s:cmL a b∈Ny a b:=Br.2 (.inr (.inl rfl));have l:∀x∈Ny a b,cmF a b<=x/\x<=cmL a b:=λx w=>by rcases Br.1 w with f|f|⟨f,o,_⟩<;>omega
 obtain⟨i,hi,z⟩:=Ez.1 r;obtain⟨j,H,B⟩:=Ez.1 s;have n:2<=(Ny a b).length:=by grind
 have t:(Ny a b).getD 0 0=cmF a b:=by
  by_cases e:i=0
  .grind
  .have f:=hs 0 i O hi;grind [Zd]
 have y:(Ny a b).getD ((Ny a b).length-1) 0=cmL a b:=by
  by_cases e:j=(Ny a b).length-1
  .grind
  .have f:=hs j ((Ny a b).length-1) O O;grind [Zd]
 refine⟨n,t,y,λk m=>⟨(l _ (Zd O)).1,hs k (k+1) O5 m,(l _ (Zd m)).2⟩,λk m g G F=>?_⟩;have f:=(l _ (Zd (i:=k) (d:=0) O)).1;have o:=(l _ (Zd (i:=k+1) (d:=0) m)).2;have u:g.1.1∈Ny a b:=Br.2 (.inr (.inr ⟨O,O,by grind⟩))
 obtain⟨q,v,D⟩:=Ez.1 u;rcases gN q k with c|c|c
 .have:=hs q k c O;omega
 .grind
 .rcases gN q (k+1)with d|d|d
  .omega
  .grind
  .have:=hs (k+1) q d v;omega
theorem Ydh{fr c:Int}{g:Zl}(h:It fr c g=true):fr<g.1.2.1/\g.1.1<c:=by unfold It cA cB at h;grind
theorem Ydg{fr c:Int}{ps:List Zl}(e:Chn ps)(f:ps≠[])(m:spF ps<=fr)(n:fr<c)(o:c<=spL ps)(r:∀g∈ps,¬(fr<g.1.1/\g.1.1<c)):(ps.filter (It fr c)).length=1:=by
 have q:=Ym3 e f m n o;have h:=aD.2 q;rcases aX 1 (ps.filter _).length with d|d
 .have j:=aN h;have l:=aN d;obtain⟨i,f1,f2⟩:=Zsb e 0 _ _ j l;have s:=(gE.1 (iX h)).2;have t:=(gE.1 (iX d)).2;have w:=e.eq i _ _ f1 f2;have u:=Ydh s;have v:=Ydh t;grind
 omega
def Zhs(ts:List Int)(ps:List Zl):Nat->List Zom
 | 0=>[]
 | n+1=>Zhs ts ps n ++ Zdt (ts.getD n 0) (ts.getD (n+1) 0) ps
def Dd(ts:List Int)(a b:List Zl):Nat->Bool
 | 0=>true
 | n+1=>Dd ts a b n && (Pw (ts.getD n 0) (ts.getD (n+1) 0) a && Pw (ts.getD n 0) (ts.getD (n+1) 0) b)
def Zzn(a b:List Zl):Bool:=Dd (Ny a b) a b ((Ny a b).length-1)
def De(a b:List Zl):Int:=if cmF a b>=cmL a b then 9 else if Zzn a b then 0 else 7
def Lu(a b ps:List Zl):List Zom:=if De a b=0 then Zhs (Ny a b) ps ((Ny a b).length-1)else []
theorem Zw9{ts:List Int}{a b:List Zl} : ∀{n m:Nat},n<=m->Dd ts a b m=true->Dd ts a b n=true
 | n,0,h,d=>O4
 | n,m+1,h,d=>by
  rcases aX m n with c|c
  .grind
  .refine Zw9 c ?_;have:Dd ts a b (m+1)=(Dd ts a b m && (Pw _ _ a && Pw _ _ b)):=rfl;grind
def tik(a b:List Zl)(i k:Nat):List Int:=Zgi a b i ++ inn (cmF a b) (cmL a b) ((Cv i a b).take k)
theorem tik_0(a b:List Zl)(i:Nat):tik a b i 0=Zgi a b i:=by exact iG _
theorem tik_t(e:k<(Cv i a b).length)(c:cmF a b<((Cv i a b).getD k G0).1.1)(d:((Cv i a b).getD k G0).1.1<cmL a b):tik a b i (k+1)=tik a b i k ++ [((Cv i a b).getD k G0).1.1]:=by unfold tik;grind [inn_t,List.append_assoc]
theorem tik_f(c:k<(Cv i a b).length)(h:¬(cmF a b<((Cv i a b).getD k G0).1.1/\((Cv i a b).getD k G0).1.1<cmL a b)):tik a b i (k+1)=tik a b i k:=by unfold tik;grind [inn_f]
theorem tik_e(hi:i<2):tik a b i (Cv i a b).length=Zgi a b (i+1):=by unfold tik;rw [bQ,tms_s hi]
theorem Zv4(a b:List Zl)(i:Nat):(Cv i a b).length<=a.length+b.length:=by unfold Cv;split<;>omega
theorem Yq9(a b:List Zl)(i k:Nat):(tik a b i k).length<=2+2*(a.length+b.length):=by have c:=Zrz a b i;have d:=Zr0 (cmF a b) (cmL a b) ((Cv i a b).take k);have e:=Zv4 a b i;unfold tik;grind
def tms_ne(a b:List Zl)(i:Nat):Zgi a b i≠[]:=λh=>nomatch h
theorem tms_2(a b:List Zl)(i:Nat):2<=(Zgi a b i).length:=by unfold Zgi;simp
section
variable {P:Program} {N:Nat} {sc:Nat->Prop} {env:Pu} {H:Hp}
theorem Ypu{f g sd:SL}(i j k n:Nat)(l:lk H j=some (Xv 6 Pa qG (Xl f) a))(m:lk H k=some (Xv 6 Pa qG (Xl g) b))(c:Nat.beq j 0=false)(d:Nat.beq k 0=false)(hi:i<2) :
  ∀e w,Sat N sc env H e w->Sat N sc env ((n,Xv 6 Pa qG (Xl ([f,g].getD i sd)) (Cv i a b))::H) e w:=by
 match i,hi with
 | 0,_=>exact Zc6 j n l c rfl (λ_ h=>h) (λ_ h=>h) rfl
 | 1,_=>exact Zc6 k n m d rfl (λ_ h=>h) (λ_ h=>h) rfl
end
theorem Zpz(h:cmF a b>=cmL a b)(ps:List Zl):De a b=9/\Lu a b ps=[]:=by have e:De a b=9:=aM h;exact⟨e,by unfold Lu;grind⟩
theorem Zcv(h:¬cmF a b>=cmL a b){n:Nat}(g:n+1<(Ny a b).length)(f:(Pw ((Ny a b).getD n 0) ((Ny a b).getD (n+1) 0) a && Pw ((Ny a b).getD n 0) ((Ny a b).getD (n+1) 0) b)=false)(ps:List Zl):De a b=7/\Lu a b ps=[]:=by
 have k:Zzn a b=false:=by
  cases hk:Zzn a b with
  | false=>rfl
  | true=>
   have c:=Zw9 (n:=n+1) O hk;have d:Dd _ a b (n+1)=(Dd (Ny a b) a b n && (Pw _ _ a && Pw _ _ b)):=rfl;grind
 have e:De a b=7:=by unfold De;grind
 exact⟨e,by unfold Lu;grind⟩
theorem Zp0(h:¬cmF a b>=cmL a b){n:Nat}(d:n+1=(Ny a b).length)(c:Dd (Ny a b) a b n=true):De a b=0/\∀ps,Lu a b ps=Zhs (Ny a b) ps n:=by
 have k:Zzn a b=true:=by unfold Zzn;grind
 have e:De a b=0:=by unfold De;grind
 exact⟨e,λps=>by unfold Lu;grind⟩
theorem com_k{n:Nat}(h:Dd (Ny a b) a b n=true)(c:Pw ((Ny a b).getD n 0) ((Ny a b).getD (n+1) 0) a=true)(d:Pw ((Ny a b).getD n 0) ((Ny a b).getD (n+1) 0) b=true):Dd (Ny a b) a b (n+1)=true:=by show(Dd _ a b n && (_ && _))=true;grind
theorem Ydl{ps zs:List Zl}{n:Nat}(h:zs.map Gr=Zhs ts ps n)(c:us.map Gr=Zdt (ts.getD n 0) (ts.getD (n+1) 0) ps):(zs ++ us).map Gr=Zhs ts ps (n+1):=by rw [dD,h,c];rfl
theorem com_u{ps:List Zl}{fr c:Int}(hi:∀g∈ps,Gin g)(h:Xy ps=true)(j:spF ps<=fr)(l:fr<c)(m:c<=spL ps)(d:∀g∈ps,¬(fr<g.1.1/\g.1.1<c))(q:Pw fr c ps=true)(n:us.map Gr=Zdt fr c ps):us.length=1:=by have r:=(Ox h).2.1;have o:=Ydg (Zde hi h).1 (λe=>O4) j l m d;have f:=aE List.length n;rw [aT]at f;rw [f];unfold Zdt;grind
theorem Ynd{n:Nat}(hi:∀g∈a,Gin g)(h:Xy a=true)(B:Bks a b)(c:n+1<(Ny a b).length)(j:Pw ((Ny a b).getD n 0) ((Ny a b).getD (n+1) 0) a=true)(m:us.map Gr=Zdt ((Ny a b).getD n 0) ((Ny a b).getD (n+1) 0) a):us.length=1:=by obtain⟨d,e,f⟩:=B.lt n c;unfold cmF at d;unfold cmL at f;exact com_u hi h O e O (λg l=>B.no n c g (.inl l)) j m
theorem Ync{n:Nat}(hi:∀g∈b,Gin g)(h:Xy b=true)(B:Bks a b)(c:n+1<(Ny a b).length)(j:Pw ((Ny a b).getD n 0) ((Ny a b).getD (n+1) 0) b=true)(m:us.map Gr=Zdt ((Ny a b).getD n 0) ((Ny a b).getD (n+1) 0) b):us.length=1:=by obtain⟨d,e,f⟩:=B.lt n c;unfold cmF at d;unfold cmL at f;exact com_u hi h O e O (λg l=>B.no n c g (.inr l)) j m
theorem Ynh{a b:Bool}(h:¬(a=true/\b=true)):a=false\/(a=true/\b=false):=by cases a<;>cases b<;>simp_all
def Zjd{a b:Bool}(h:a=false):(a && b)=false:=O4
def Zjc{a b:Bool}(h:b=false):(a && b)=false:=O4
end Go.Sky
namespace Go.Sky
variable{c p q ns:List Int}{x M:Nat}{f:Nat->List Int}
section
variable {P:Program} {N:Nat} {sc:Nat->Prop} {env:Pu} {H:Hp}
end
def KA:Nat:=360287970189639680
theorem AxC.ka{a:Int}(h:AxC c a)(b:1<=a)(d:a<=4294967296):Ab KA (tzl c):=λk=>by have:=h.cg k;rw [Lb];unfold KA;omega
def BG:Nat:=2^250*2^250
def bl_two{a b:Nat}(h:x<2^a*2^b):bl x<=a+b:=(Qo _ x).2 O4
theorem Yd7(h:x<BG):bl x<=500:=bl_two h
def Ab.sg(h:Ab M p)(a:M<BG):Sz 500 p:=λi=>Yd7 (aW (h i) a)
theorem Cr(h:Ab M p)(a:M<BG)(d:Tr p)(b:p.length<=25):Vp p:=⟨(h.sg a).mono O,d,b⟩
theorem Zut{c:Int}(h:Ab M p)(b:M*c.natAbs<BG)(i:Nat):bl (cf p i*c).natAbs<=65536:=by have a:=Zae h c i;grind [Yi,Nat.le_trans,Yd7,Nat.lt_of_le_of_lt]
theorem ad_ab{K:Nat}(h:Ab M p)(d:Ab K q)(e:M+K<BG)(i:Nat):bl (cf p i+cf q i).natAbs<=65536/\bl (cf p i-cf q i).natAbs<=65536:=by have a:=h i;have b:=d i;grind [Nat.le_trans,Yd7,Nat.lt_of_le_of_lt]
theorem mf_ab(h:Ab M p)(b:M<BG)(d:p.length<=11):¬Zap p p:=λa=>by have m:=Qx (h.sg b);rcases a.2.2 with w|w<;>omega
def dfP(p q:List Int)(a b:Int):List Int:=Ei (Zr (tzl p) b) (Zr (tzl q) a)
def dfK(p q:List Int)(a b k:Int):List Int:=Zr (dfP p q a b) k
def sqK(p q:List Int)(a b k:Int):List Int:=Qt (dfK p q a b k) (dfK p q a b k)
def sqP(p q:List Int)(a b:Int):List Int:=Qt (dfP p q a b) (dfP p q a b)
def KD:Nat:=KA*4294967296+KA*4294967296
structure FmX (p q:List Int) (a b k:Int):Prop where
 v1:Vp (tzl p)
 v2:Vp (tzl q)
 b1:bl b.natAbs<=65536
 a1:bl a.natAbs<=65536
 k1:bl k.natAbs<=65536
 s1:∀i,bl (cf (tzl p) i*b).natAbs<=65536
 s2:∀i,bl (cf (tzl q) i*a).natAbs<=65536
 v3:Vp (Zr (tzl p) b)
 v4:Vp (Zr (tzl q) a)
 s3:∀i,bl (cf (Zr (tzl p) b) i-cf (Zr (tzl q) a) i).natAbs<=65536
 v5:Vp (dfP p q a b)
 s4:∀i,bl (cf (dfP p q a b) i*k).natAbs<=65536
 v6:Vp (dfK p q a b k)
 m6:¬Zap (dfK p q a b k) (dfK p q a b k)
 v7:Vp (sqK p q a b k)
 ab:Ab (6*((KD*100)*(KD*100))) (sqK p q a b k)
 l:(sqK p q a b k).length<=11
 m5:¬Zap (dfP p q a b) (dfP p q a b)
 v8:Vp (sqP p q a b)
 ab8:Ab (6*((KD*100)*(KD*100))) (sqP p q a b)
 l8:(sqP p q a b).length<=11
theorem fmX{a b k:Int}(l:Ab KA (tzl p))(m:Ab KA (tzl q))(lp:p.length<=6)(Q:q.length<=6)(w:1<=a/\a<=4294967296)(y:1<=b/\b<=4294967296)(R:1<=k/\k<=100):FmX p q a b k:=by
 have o:=aB (Mc p) lp;have r:=aB (Mc q) Q;have s:Ab (KA*4294967296) _:=(Zae l b).mono (aY _ O);have t:Ab (KA*4294967296) _:=(Zae m a).mono (aY _ O);have d:Ab KD _:=Yoa s t;have e:Ab (KD*100) _:=(Zae d k).mono (aY _ O);have j:Ab (KD*100) _:=d.mono O;have G:(Zr (tzl p) b).length<=6:=aB (Oj _ _) o;have I:(Zr (tzl q) a).length<=6:=aB (Oj _ _) r;have g:(dfP p q a b).length<=6:=Ycf G I;have n:(dfK p q a b k).length<=6:=aB (Oj _ _) g;have t5:Tr (dfP p q a b):=Qj _;have t6:Tr (dfK p q a b k):=Qj _;have u:=Yob e e n;have v:=Yob j j g;have z:=Ycg t6 t6 n n;have B:=Ycg t5 t5 g g;have h:∀c:Int,1<=c/\c<=4294967296->bl c.natAbs<=65536:=λc F=>aB ((Qo 40 _).2 O) O;have D:∀c:Int,1<=c/\c<=4294967296->KA*c.natAbs<BG:=λc F=>aW (aY KA (by omega:c.natAbs<=4294967296)) O3;exact⟨Cr l O3 (Qj _) O,Cr m O3 (Qj _) O,h b y,h a w,h k O,Zut l (D b y),Zut m (D a w),
  Cr s O3 (Qj _) O,Cr t O3 (Qj _) O,λi=>(ad_ab s t O3 i).2,Cr d O3 t5 O,
  Zut d (aW (aY KD (by omega:k.natAbs<=100)) O3),Cr e O3 t6 O,mf_ab e O3 O,Cr u O3 Qm (by have:(sqK p q a b k).length<=_:=z;omega),u,z,
  mf_ab j O3 O,Cr v O3 Qm (by have:(sqP p q a b).length<=_:=B;omega),v,B⟩
def ngC(ns:List Int):Nat->List Int
 | 0=>[-1]
 | i+1=>Zr (Zr (ngC ns i) (ns.getD i 0)) (ns.getD i 0)
def sqN(ns:List Int):Nat->Nat
 | 0=>1
 | i+1=>sqN ns i*(ns.getD i 0).natAbs*(ns.getD i 0).natAbs
theorem Zrq(ns:List Int):∀i,Ab (sqN ns i) (ngC ns i)/\(ngC ns i).length<=1/\Tr (ngC ns i)
 | 0=>⟨λi=>by
   match i with
   | 0=>show(cf [-1] 0).natAbs<=1;decide
   | i+1=>show(cf [-1] _).natAbs<=1;grind [Yn],Nat.le_refl _,show Tr [-1]from .inr O3⟩
 | i+1=>by obtain⟨a,b,d⟩:=Zrq ns i;exact⟨Zae (Zae a _) _,aB (Oj _ _) (aB (Oj _ _) b),Qj _⟩
theorem Yh3{ns:List Int}{B:Nat}(h:∀i,(ns.getD i 0).natAbs<=B):∀i,sqN ns i<=(B*B)^i
 | 0=>aI _
 | i+1=>by rw [cH,<-dH];exact aP (aP (Yh3 h i) (h i)) (h i)
structure NgX (ns:List Int) (i:Nat):Prop where
 b:bl (ns.getD i 0).natAbs<=65536
 inn:Nw (ns.getD i 0)
 v:Vp (ngC ns i)
 s:∀k,bl (cf (ngC ns i) k*ns.getD i 0).natAbs<=65536
 v2:Vp (Zr (ngC ns i) (ns.getD i 0))
 s2:∀k,bl (cf (Zr (ngC ns i) (ns.getD i 0)) k*ns.getD i 0).natAbs<=65536
theorem ngX(h:∀i,(ns.getD i 0).natAbs<=4294967296){i:Nat}(hi:i<=4):NgX ns i:=by obtain⟨j,n,k⟩:=Zrq ns i;have e:=Yh3 h i;have g:(4294967296*4294967296)^i<=(4294967296*4294967296)^4:=cQ O hi;have a:=j.mono (aB e g);have b:=h i;have d:=(Zae a _).mono (aY _ b);have l:(4294967296*4294967296)^4*(ns.getD i 0).natAbs<BG:=aW (aY _ b) O3;have m:(4294967296*4294967296)^4*4294967296*(ns.getD i 0).natAbs<BG:=aW (aY _ b) O3;exact⟨aB ((Qo 40 _).2 O) O,⟨O,O⟩,Cr a O3 k O,Zut a l,Cr d O3 (Qj _) (aB (Oj _ _) O),Zut d m⟩
def smP(c:List Int)(f:Nat->List Int):Nat->List Int
 | 0=>c
 | i+1=>Ht (smP c f i) (f i)
theorem Yia{c:List Int}{f:Nat->List Int}{C F:Nat}(a:Ab C c)(d:c.length<=11)(g:Tr c)(b:∀i,Ab F (f i))(e:∀i,(f i).length<=11):∀i,Ab (C+i*F) (smP c f i)/\(smP c f i).length<=11/\Tr (smP c f i)
 | 0=>⟨by rw [gI];exact a,d,g⟩
 | i+1=>by obtain⟨h,j,k⟩:=Yia a d g b e i;exact⟨by rw [cY,<-jE];exact Zz7 h (b i),Zr2 j (e i),Qj _⟩
structure SmX (c:List Int) (f:Nat->List Int):Prop where
 v:∀i,i<=3->Vp (smP c f i)
 s:∀i,i<3->∀k,bl (cf (smP c f i) k+cf (f i) k).natAbs<=65536
 d:Cvd (Zz (smP c f 3))
theorem smX(l:Ab (2^190) c)(o:c.length<=1)(n:Tr c)(h:∀i,Ab (6*((KD*100)*(KD*100))) (f i))(m:∀i,(f i).length<=11):SmX c f:=by
 have a:=Yia l O n h m;have d:∀i,i<=3->2^190+i*(6*((KD*100)*(KD*100)))<2^205:=λi hi=>aW (Nat.add_le_add_left (aL _ hi) _) O3;have e:(2)^205<BG:=O3;refine⟨λi hi=>?_,λi hi k=>?_,?_⟩
 .grind [Cr,Nat.lt_trans]
 .obtain⟨b,j,g⟩:=a i;refine(ad_ab b (h i) ?_ k).1;have:=d _ hi;grind
 .obtain⟨b,j,g⟩:=a 3;have hs:=b.sz (d 3 (aI _));exact⟨Lx (Cr b (kS (d 3 (aI _)) e) g O),Hz hs,by simp_all [Zw]⟩
end Go.Sky
namespace Go.Sky
variable{ov D d ov2 o:Int}{x y z x2 y2 z2 Y Z c:List Int}{a b xs:List Zl}{zs ys:List (Int×SL)}{k i m:Nat}{f:Nat->List Int}{r:SL×SL×SL}
theorem Yl4{j l n e g h:Value}:Instr.fill (λi=>some (i*3,3)) ((List.range (1*3)).map ((Value.agg #[j,l,n]).cells[· % (Value.agg #[j,l,n]).cells.size]!)).toArray [(0,.agg #[e,g,h])]=some #[e,g,h]:=by rfl
def insB(m:Int)(l:List Int):Bool:=l.all λx=>decide (-m<=x) && decide (x<=m)
def ptB(x y z:Int):Bool:=insB 1048576 [x,y,z]
def znB(D n d:Int):Bool:=decide (1<=D/\D<=4194304/\1<=n/\n<=d/\d<=100)
theorem Ykv (x:Int)(y:Int)(A:Nat)(B:Nat)(e:x.natAbs<=A)(g:y.natAbs<=B):(x*y).natAbs<=A*B:=by simp_all [bX,aP]
def ptsB(g h j l e p D n d:Int):Bool:=decide (D*d*(D*d)<=(g-l)*d*((g-l)*d)+(h-e)*d*((h-e)*d)+(j-p)*n*((j-p)*n))
def fqZ(n d ov ov2:Int)(x y z x2 y2 z2:List Int)(i:Nat):List Int:=sqK (Zu i x y z) (Zu i x2 y2 z2) ov ov2 (Zu i d d n)
def cnZ(D d ov ov2:Int):List Int:=ngC [D,d,ov,ov2] 4
def smZ(D n d ov ov2:Int)(x y z x2 y2 z2:List Int)(i:Nat):List Int:=smP (cnZ D d ov ov2) (fqZ n d ov ov2 x y z x2 y2 z2) i
def fmZ(D n d ov ov2:Int)(x y z x2 y2 z2:List Int):List Int:=Zz (smZ D n d ov ov2 x y z x2 y2 z2 3)
structure FzX (D n d ov ov2:Int) (x y z x2 y2 z2:List Int):Prop where
 X:∀i,FmX (Zu i x y z) (Zu i x2 y2 z2) ov ov2 (Zu i d d n)
 K:∀i,Nw (Zu i d d n)
 N:∀i,i<=4->NgX [D,d,ov,ov2] i
 Q:SmX (cnZ D d ov ov2) (fqZ n d ov ov2 x y z x2 y2 z2)
theorem Za4{fr s:Int}(h:Bd fr s ov x y z=true)(i:Nat):Ab KA (tzl (Zu i x y z)):=by unfold Bd Yer at h;simp only [aR,dA]at h;obtain⟨⟨⟨⟨⟨⟨⟨⟨t,u⟩,v⟩,e⟩,g⟩,j⟩,n⟩,q⟩,-⟩:=h;exact Cu (p:=λl=>Ab KA _) ((AxC.of j).ka e g) ((AxC.of n).ka e g) ((AxC.of q).ka e g)
theorem tzlm1:(if 25<(tzl [(-1:Int)]).length then []else tzl [-1])=[-1]:=by rfl
abbrev GpT:=(Int×Int)×(SL×List Int)
abbrev Gs (g:GpT):Value:= .agg #[.int .i64 g.1.1,.int .i64 g.1.2,Xl g.2.1]
abbrev qGp (g:GpT):Pc:=Yy 2 wv (Xl g.2.1) g.2.2
abbrev Gp0:GpT:=((0,0),((none,0,0),[]))
abbrev GpU:=Int×Int×List Int
def Bc(g:GpT):GpU:=(g.1.1,g.1.2,g.2.2)
def gpZ(D n d:Int)(g h:Zom):GpU:=(g.1.1,g.1.2.1,fmZ D n d g.1.2.2 h.1.2.2 g.2.1 g.2.2.1 g.2.2.2 h.2.1 h.2.2.1 h.2.2.2)
def Nl(D n d:Int)(a b:List Zl):List GpU:=List.zipWith (gpZ D n d) (Lu a b a) (Lu a b b)
def Lt(a b:List Zl):Int:=if De a b=9 then 0 else De a b
def Zzm(h:De a b≠0)(ps:List Zl):Lu a b ps=[]:=aG h
theorem Zr9{n:Int}(h:De a b≠0):Nl D n d a b=[]:=by unfold Nl;simp_all [Zzm]
theorem Zm1{e:List Int}{a b ps:List Zl}(g:∀k,Pw (e.getD k 0) (e.getD (k+1) 0) a=true->Pw (e.getD k 0) (e.getD (k+1) 0) b=true->k+1<e.length->(Zdt (e.getD k 0) (e.getD (k+1) 0) ps).length=1):∀n,n+1<=e.length->Dd e a b n=true->(Zhs e ps n).length=n
 | 0,_,_=>rfl
 | n+1,l,h=>by have j:Dd e a b (n+1)=(Dd e a b n && (Pw _ _ a && Pw _ _ b)):=rfl;rw [j,aR,aR]at h;show(Zhs e ps n ++ Zdt _ _ ps).length=_;rw [bL,Zm1 g n O h.1,g n h.2.1 h.2.2 O]
theorem Ym7{ps:List Zl}{fr h:Int}(hi:∀g∈ps,Gin g)(l:Xy ps=true)(n:spF ps<=fr)(p:fr<h)(q:h<=spL ps)(j:∀g∈ps,¬(fr<g.1.1/\g.1.1<h))(s:Pw fr h ps=true):(Zdt fr h ps).length=1:=by have t:=(Ox l).2.1;unfold Zdt;rw [aM s,aT,Ydg (Zde hi l).1 (λe=>O4) n p q j]
theorem Zzo(a b:List Zl):De a b=9\/De a b=0\/De a b=7:=by unfold De;omega
theorem comE_0(h:De a b=0):¬cmF a b>=cmL a b/\Zzn a b=true:=by unfold De at h;grind
theorem Ydm(u:∀g∈a,Gin g)(v:∀g∈b,Gin g)(q:Xy a=true)(s:Xy b=true):(Lu a b a).length=(Lu a b b).length/\(Lu a b a).length<=2+a.length+b.length:=by
 by_cases h:De a b=0
 .obtain⟨I,w⟩:=comE_0 h;have B:=bks a b O;have H:=B.two;have e:∀ps,Lu a b ps=Zhs _ ps _:=λps=>aM h;have M:=Zm1 (λk F G j=>by obtain⟨l,n,p⟩:=B.lt k j;unfold cmF at l;unfold cmL at p;exact Ym7 u q O n O (λg t=>B.no k j g (.inl t)) F) _ O w
  have N:=Zm1 (λk F G j=>by obtain⟨l,n,p⟩:=B.lt k j;unfold cmF at l;unfold cmL at p;exact Ym7 v s O n O (λg t=>B.no k j g (.inr t)) G) _ O w
  grind [Zr1]
 simp_all [Zzm,bA]
theorem Zi7{ps zs:List Zl}(hi:∀g∈ps,Gin g)(F:Xy ps=true)(I:zs.map Gr=Lu a b ps):∀q∈zs,Gin q/\seB q=true:=by
 have t:∀n,∀u∈Zhs _ ps n,∃(fr j:Int) (g:Zl),g∈ps/\It fr j g=true/\Ze4 fr j g=true/\u=Zw3 fr j g:=λn=>by
  induction n with
  | zero=>intro u s;cases s
  | succ n M=>
   intro u s;rcases cP.1 (show u∈Zhs (Ny a b) ps n ++ _ from s)with h|h
   .grind
   .unfold Zdt at h;split at h
    .rename_i G;obtain⟨g,v,rfl⟩:=eH.1 h;obtain⟨e,l⟩:=gE.1 v;exact⟨_,_,g,e,l,cJ.1 G g v,rfl⟩
    grind
 intro q H;have p:Gr q∈Lu a b ps:=O4;unfold Lu at p;split at p
 .obtain⟨fr,j,g,e,l,w,B⟩:=t _ _ p;have:=Yr8 (hi g e) ((Zde hi F).2.1 g e) l w B;grind
 grind
theorem zip_s{α β γ:Type}{f:α->β->γ} : ∀{l:List α} {m:List β} {k:Nat} {x:α} {y:β},l[k]? = some x->m[k]? = some y->(List.zipWith f l m).take (k+1)=(List.zipWith f l m).take k ++ [f x y]
 | [],_,_,_,_,h,_=>O4
 | _::_,[],_,_,_,_,h=>O4
 | a::l,b::m,0,x,y,h,h2=>O10
 | a::l,b::m,k+1,x,y,h,h2=>by have:=zip_s (f:=f) (by simpa using h) (by simpa using h2);simp only [lW,kJ,this,gO]
def gpY(q:Zl)(g:SL×List Int):GpT:=((q.1.1,q.1.2.1),g)
theorem Yck{n:Int}{ys:List Zl}{zs:List GpT}{g:SL×List Int}(s:xs.map Gr=Lu a b a)(t:ys.map Gr=Lu a b b)(h:zs.map Bc=(Nl D n d a b).take k)(q:k<xs.length)(l:k<ys.length)(p:g.2=fmZ D n d (xs.getD k G0).1.2.2 (ys.getD k G0).1.2.2 (xs.getD k G0).2.1.2 (xs.getD k G0).2.2.1.2 (xs.getD k G0).2.2.2.2 (ys.getD k G0).2.1.2 (ys.getD k G0).2.2.1.2 (ys.getD k G0).2.2.2.2) :
  (zs ++ [gpY (xs.getD k G0) g]).map Bc=(Nl D n d a b).take (k+1):=by
 have e:(Lu a b a)[k]? = some (Gr (xs.getD k G0)):=O4;have j:(Lu a b b)[k]? = some (Gr (ys.getD k G0)):=O4;unfold Nl at h ⊢;rw [zip_s e j,dD,bP];simp only [gpY,Bc,gpZ,Gr];grind
theorem Ylq{n:Int}{zs:List GpT}(g:xs.map Gr=Lu a b a)(e:(Lu a b a).length=(Lu a b b).length)(h:zs.map Bc=(Nl D n d a b).take xs.length):zs.map Bc=Nl D n d a b:=by rw [h];unfold Nl;grind
def Ylu(h:De a b=9):Lt a b=0:=aM h
def Ylt(h:¬De a b=9):Lt a b=De a b:=aG h
theorem Zpp{fr e:Int}(h:Sgo fr e ov x y z):Nw ov:=⟨by have:=h.o1;omega,by have:=h.o2;omega⟩
def Zfz(l:List GpU):Option GpU:=l.find? λg=>Ky g.2.2
def Hu(l:List GpU):Int×Int×Bool:=match Zfz l with
 | some g=>(g.1,g.2.1,true)
 | none=>(0,0,false)
theorem fst_n{l:List GpU}(h:∀i,i<l.length->Ky (l.getD i (0,0,[])).2.2=false):Hu l=(0,0,false):=by
 have:Zfz l=none:=jL.2 λg e=>by obtain⟨i,hi,rfl⟩:=cW.1 e;grind
 unfold Hu;grind
theorem Aj(zs:List GpT)(k:Nat):(zs.map Bc).getD k (0,0,[])=Bc (zs.getD k Gp0):=by rw [aK,fC,aK];cases zs[k]?<;>rfl
def mkS(u:Zom):Zl:=(u.1,((none,0,0),u.2.1),((none,0,0),u.2.2.1),((none,0,0),u.2.2.2))
theorem Yaf(l:List Zom):(l.map mkS).map Gr=l:=by rw [kO];exact List.map_id' _
theorem fst_no{l:List GpU}{zs:List GpT}(h:zs.map Bc=l)(e:∀i,i<zs.length->Ky (zs.getD i Gp0).2.2=false):Hu l=(0,0,false):=by subst h;exact fst_n λi hi=>by rw [Aj];exact e i O4
def Dn(D n d:Int)(a b:List Zl):Bool:=decide (Lt a b=0) && !(Hu (Nl D n d a b)).2.2
theorem ap_t{n:Int}(h:Lt a b=0):Dn D n d a b=!(Hu (Nl D n d a b)).2.2:=by unfold Dn;grind
def Dw(a b k:Int):List Int:=if b-a=0\/k=2 then [a]else if k=1 then [a,b-a]else [a,0,0,10*(b-a),-15*(b-a),6*(b-a)]
def tmL_0 (a:Int)(b:Int)(k:Int)(h:b-a=0\/k=2):Dw a b k=[a]:=aM h
def tmL_1{a b k:Int}(h:¬(b-a=0\/k=2))(e:k=1):Dw a b k=[a,b-a]:=(aG h).trans (aM e)
def tmL_2{a b k:Int}(h:¬(b-a=0\/k=2))(e:k≠1):Dw a b k=[a,0,0,10*(b-a),-15*(b-a),6*(b-a)]:=(aG h).trans (aG e)
def lineG(k:Int)(s:SL×SL×SL):Zl:=((0,1000,1),(s.1,Dw 0 300 k),(s.2.1,Dw 0 400 k),(s.2.2,Dw 0 0 k))
def stayG(s:SL×SL×SL):Zl:=((1000,2000,1),(s.1,Dw 0 0 2),(s.2.1,Dw 0 0 2),(s.2.2,Dw 0 0 2))
theorem Oy{l:List Int}(h:l.all (λa=>decide (-9223372036854775808<=a/\a<=9223372036854775807))=true):∀a∈l,Nw a:=λa e=>by have:=cJ.1 h a e;simp only [dA]at this;exact this
def litb(l:List Int):Bool:=(l.all λx=>decide (-1000000<=x) && decide (x<=1000000)) && (decide (tzl l=l) && decide (l.length<=25))
instance eokDec:∀f a b,Decidable (eok f a b)
 | 0,_,b=>inferInstanceAs (Decidable (b=[]))
 | f+1,a,b=>@instDecidableOr _ _ _ (@instDecidableAnd _ _ _ (eokDec f b (Zz (Qn a b))))
def legZ(g h j l e n k:Int)(s:SL×SL×SL):Zl:=((0,1000,1),(s.1,Dw g l k),(s.2.1,Dw h e k),(s.2.2,Dw j n k))
def sm_bl{x:Int}{M:Nat}(h:x.natAbs<=1000000000000000000000000)(e:80<=M):bl x.natAbs<=M:=aB ((Qo 80 _).2 (aW h O3)) e
theorem i_le{l:List Int}(h:Zb zs=l){n:Nat}(e:l.length<=n):zs.length<=n:=by grind
theorem Ze3{l:List Int}(h:Zb zs=l)(e:Vp l):Sz 1000000 (Zb zs):=by rw [h];exact e.sz.mono O
def Bv{l:List Int}(h:Zb zs=l)(g:Vp l){n:Nat}(e:25<=n):zs.length<=n:=i_le h (aB g.len e)
abbrev TzT:=SL×List (Int×SL)
def sqF(ov ov2:Int)(x y z x2 y2 z2:List Int)(i:Nat):List Int:=sqP (Zu i x y z) (Zu i x2 y2 z2) ov ov2
def sqR(ov ov2:Int)(x y z x2 y2 z2:List Int):Nat->List (List Int)
 | 0=>[]
 | i+1=>sqR ov ov2 x y z x2 y2 z2 i ++ [sqF ov ov2 x y z x2 y2 z2 i]
theorem sqR_s{e:List TzT}{g:TzT}(h:e.map (λz=>Zb z.2)=sqR ov ov2 x y z x2 y2 z2 i)(j:Zb g.2=sqF ov ov2 x y z x2 y2 z2 i):(e ++ [g]).map (λz=>Zb z.2)=sqR ov ov2 x y z x2 y2 z2 (i+1):=by rw [dD,h,bP,j];rfl
theorem sqR_at{e:List TzT}(h:e.map (λz=>Zb z.2)=sqR ov ov2 x y z x2 y2 z2 3):e.length=3/\Zb (e.getD 0 T0).2=sqF ov ov2 x y z x2 y2 z2 0/\Zb (e.getD 1 T0).2=sqF ov ov2 x y z x2 y2 z2 1/\Zb (e.getD 2 T0).2=sqF ov ov2 x y z x2 y2 z2 2:=by
 have g:=aE List.length h;rw [aT]at g;have g:e.length=3:=g
 match e,g with
 | [a,b,c],_=>
  have j:[Zb a.2,Zb b.2,Zb c.2]=[sqF ov ov2 x y z x2 y2 z2 0,sqF ov ov2 x y z x2 y2 z2 1,sqF ov ov2 x y z x2 y2 z2 2]:=h;grind
def ovW(ov ov2:Int):Int:=ov*ov2*(ov*ov2)
def rfL(g e ov ov2:Int)(x y z x2 y2 z2:List Int):List Int:=Ht (Zr (Ht (sqF ov ov2 x y z x2 y2 z2 0) (sqF ov ov2 x y z x2 y2 z2 1)) (e*e)) (Zr (sqF ov ov2 x y z x2 y2 z2 2) (g*g))
def rfW(e g ov ov2:Int):Int:=e*e*(g*g)*ovW ov ov2
def rfZ(g h e ov ov2:Int)(x y z x2 y2 z2:List Int):List Int:=Ei (rfL h e ov ov2 x y z x2 y2 z2) (tzl [rfW g e ov ov2])
theorem Yh4(p q:List Int)(a b k:Int):sqK p q a b k=Zr (sqP p q a b) (k*k):=by unfold sqK dfK sqP;grind [Ye6]
theorem Ysy(w:Int):cf [w] 0=w:=rfl
theorem ab_one{w:Int}{M:Nat}(h:w.natAbs<=M):Ab M (tzl [w]):=λi=>by
 rw [Lb]
 match i with
 | 0=>assumption
 | i+1=>simp [Yn,bA]
theorem Yfq(w:Int)(i:Nat):cf [w] i=-(cf [-1] i*w):=by
 all_goals grind [Ysy,Yn]
theorem rf_eq(g j h ov ov2:Int)(x y z x2 y2 z2:List Int):rfZ g j h ov ov2 x y z x2 y2 z2=smZ g j h ov ov2 x y z x2 y2 z2 3:=by
 have n:Tr (smZ g j h ov ov2 x y z x2 y2 z2 3):=by exact Qj _
 refine(Zah _ _).ext n λi=>?_;unfold rfL smZ;simp only [smP];rw [Ih,Dh,Yi,Dh,Yi,Dh,Dh,Dh,Lb];unfold fqZ;rw [Yh4,Yh4,Yh4,Yi,Yi,Yi];have e:cf (cnZ g h ov ov2) i=cf [-1] i*g*g*h*h*ov*ov*ov2*ov2:=by unfold cnZ;simp only [ngC,Yi,List.getD_cons_zero,mM]
 have l:=Yfq (rfW g h ov ov2) i;rw [l];unfold rfW ovW sqF;simp only [Zu];grind
structure RfX (zd zn ze ov ov2:Int) (x y z x2 y2 z2:List Int):Prop where
 v0:∀i,Vp (sqF ov ov2 x y z x2 y2 z2 i)
 v1:Vp (Ht (sqF ov ov2 x y z x2 y2 z2 0) (sqF ov ov2 x y z x2 y2 z2 1))
 v2:Vp (Zr (Ht (sqF ov ov2 x y z x2 y2 z2 0) (sqF ov ov2 x y z x2 y2 z2 1)) (ze*ze))
 v3:Vp (Zr (sqF ov ov2 x y z x2 y2 z2 2) (zn*zn))
 v4:Vp (rfL zn ze ov ov2 x y z x2 y2 z2)
 v5:Vp (tzl [rfW zd ze ov ov2])
 v6:Vp (rfZ zd zn ze ov ov2 x y z x2 y2 z2)
 wb:bl (rfW zd ze ov ov2).natAbs<=1000000
 ob:bl (ov*ov2).natAbs<=1000
 oW:bl (ovW ov ov2).natAbs<=1000
 eb:bl (ze*ze).natAbs<=1000
 nb:bl (zn*zn).natAbs<=1000
 db:bl (zd*zd).natAbs<=1000
 xb:bl (zd*zd*(ze*ze)).natAbs<=1000
theorem ov_b{fr l g h:Int}(j:Sgo fr l ov x y z)(e:Sgo g h ov2 x2 y2 z2):bl (ov*ov2).natAbs<=1000000000:=by have n:=j.o1;have p:=j.o2;have q:=e.o1;have s:=e.o2;exact sm_bl (aB (Ykv _ _ 4294967296 4294967296 O O) O) O
theorem Yp0{n q p:Int}(h:Zb zs=rfZ n q p ov ov2 x y z x2 y2 z2):zs.length≠0->Yw (Zb zs)≠0:=λg=>by
 have j:Zb zs≠[]:=λe=>g O10;have l:Tr (Zb zs):=by rw [h];unfold rfZ;grind [Zah]
 have:=Zw6 l j;intro e;simp_all
theorem rf_fin{e j g:Int}(h:Zb ys=Zz (Zb zs))(l:Zb zs=rfZ e j g ov ov2 x y z x2 y2 z2):Zb ys=fmZ e j g ov ov2 x y z x2 y2 z2:=by rw [h,l,rf_eq];rfl
def tpI(n k:Nat):Nat:=n/1000000000^k
theorem Yo0(n:Nat):tpI n (dg 1000000000 n).length=0:=by unfold tpI;exact cM ((Xt O3 _ n).1 (aI _))
theorem tpI_s(n k:Nat):tpI n (k+1)*1000000000+(dg 1000000000 n).getD k 0=tpI n k:=by unfold tpI;rw [Hr O3,cH,<-aQ];omega
theorem Yhh(n:Nat):tpI n 0=n:=by unfold tpI;rw [gF,mL]
def tpI_le(n k:Nat):tpI n k<=n:=dX _ _
theorem Ycm{g:Int}(e:0<=g)(l:List Int):∀k,k<=l.length->Ma g (l.take k)=(Int.gcd g (Yw (l.take k)):Int)
 | 0,_=>by rw [dQ];show g=((Int.gcd g 0:Nat):Int);rw [nC];omega
 | k+1,h=>by rw [Af (g:=g) O,Ll O,Ycm e l k O,Int.gcd_assoc]
def gcR(o:Int)(X Y Z:List Int):Nat->Int
 | 0=>o
 | i+1=>(Int.gcd (gcR o X Y Z i) (Yw (Zu i X Y Z)):Int)
theorem Zy2{o:Int}(e:0<o)(X Y Z:List Int):∀i,i<=3->gcR o X Y Z i=Ma o (La i X Y Z)/\0<=gcR o X Y Z i
 | 0,_=>⟨rfl,dV e⟩
 | i+1,hi=>by obtain⟨g,h⟩:=Zy2 e X Y Z i O;refine⟨?_,kX _⟩;show((Int.gcd (gcR o X Y Z i) (Yw (Zu i X Y Z)):Nat):Int)=_;rw [Fz X Y Z O,Hh,<-g];have:=Ycm h (Zu i X Y Z) (Zu i X Y Z).length (aI _);rw [bQ]at this;exact this.symm
def gcR_A{X:List Int}(h:Mdh o X Y Z):gcR o X Y Z 3=Kk o X Y Z:=(Zy2 h.o X Y Z 3 (aI _)).1
theorem Zhh{X:List Int}(h:Mdh o X Y Z)(hi:i<=3):bl (gcR o X Y Z i).natAbs<=1000:=by rw [(Zy2 h.o X Y Z i hi).1];have:=h.fc i 0;rw [dQ]at this;exact this
structure Row3 (ws:List TzT) (X Y Z:List Int):Prop where
 l:ws.length=3
 e:∀i,i<3->Zb (ws.getD i T0).2=Zu i X Y Z
theorem Zux{g:List TzT}{t:Nat}{j:TzT}(n:g.length=i)(h:∀t,t<i->Zb (g.getD t T0).2=f t)(q:Zb j.2=f i)(p:t<i+1):Zb ((g ++ [j]).getD t T0).2=f t:=by
 rcases aZ.1 p with l|l
 .have e:(g ++ [j]).getD t T0=g.getD t T0:=by rw [aK,aK,fE O]
  rw [e];exact h t l
 .subst l;have e:(g ++ [j]).getD t T0=j:=by rw [aK,fA O,n,fI];rfl
  rw [e];exact q
theorem Ya9{e:List TzT}{a b:Int}(g:e.length=3)(h:∀t,t<3->Zb (e.getD t T0).2=Qu (Zu t x y z) a b d):Row3 e (Qu x a b d) (Qu y a b d) (Qu z a b d):=⟨g,λi hi=>by
 rw [h i hi]
 match i,hi with
 | 0,_=>rfl
 | 1,_=>rfl
 | 2,_=>rfl⟩
theorem Ymb(h:AxC c ov)(l:Zb zs=tzl c):5-max 0 ((zs.length:Int)-1)=((6-c.length:Nat):Int):=by
 have n:=h.l;have e:zs.length=(tzl c).length:=by rw [<-Zi,l]
 rcases Yn4 h with g|g
 .rw [e,g];omega
 .subst g;have j:(tzl [(0:Int)]).length=0:=O3;rw [e,j];decide
theorem Zk5(h:∀a∈c,Nw a)(j:c.length<=6)(g:Zb zs=tzl c):zs.length<=30/\Xz (Zb zs)+zs.length*(30+1)+1+zs.length+1+30<=900000:=by have e:zs.length<=6:=i_le g (aB (Mc c) j);have m:=Qx (p:=Zb zs) (n:=64) (by rw [g];exact(ab_in h).sz O3);have:=aL 31 e;exact⟨O,O⟩
def Zus(fr e:Int)(g:Zl)(r:SL×SL×SL):Zl:=((cA fr g,cB e g,cO g/cG fr e g),(r.1,Hx (cX fr e g g.2.1.2) (cG fr e g)),(r.2.1,Hx (cX fr e g g.2.2.1.2) (cG fr e g)),(r.2.2,Hx (cX fr e g g.2.2.2.2) (cG fr e g)))
theorem cut_un{fr j:Int}{g:Zl}(h:Ze4 fr j g=true):Gr (Zus fr j g r)=Zw3 fr j g:=by have e:cO g/cG fr j g<=4294967296:=cF h;unfold Zw3 Gr Zus mdO;rw [aM e,Zhb e,Zhb e,Zhb e]
theorem cutI_y{fr e:Int}{ps zs:List Zl}{x j:Zl}(h:Zs0 fr e ps k zs)(g:(ps.filter (It fr e))[k]? = some x)(p:Ze4 fr e x=true)(q:Gr j=Zw3 fr e x):Zs0 fr e ps (k+1) (zs ++ [j]):=by
 obtain⟨l,n⟩:=h;refine⟨?_,?_⟩
 .rw [dD,l,Zic g,dD,bP,iA,bP,iA,q]
 .rw [Zic g,mC,n];simp [p]
theorem Ya2{g:Zl}(h:seB g=true)(i:Nat):AxC (Zu i g.2.1.2 g.2.2.1.2 g.2.2.2.2) g.1.2.2:=by obtain⟨e,j,n⟩:=Zqo h;exact Cu (p:=λl=>AxC l g.1.2.2) e j n
theorem Ydi{fr e:Int}{g:Zl}(j:SgG g)(h:It fr e g=true):g.1.1<=cA fr g/\cA fr g<cB e g/\cB e g<=g.1.2.1:=by have:=cF h;exact⟨Int.le_max_right _ _,this,Int.min_le_right _ _⟩
theorem fl_le(ps:List Zl)(p:Zl->Bool)(i:Nat):((ps.take i).filter p).length<=i:=by have:=kA p (ps.take i);have e:=List.length_take_le i ps;omega
theorem cut_t{fr e:Int}{ps:List Zl}(h:Zw4 fr e ps=0):Pw fr e ps=true:=by
 cases hb:Pw fr e ps with
 | true=>rfl
 | false=>rw [Zzj hb]at h;exact absurd h O3
def nxF(t c:Int)(ps:List Zl):Nat->Int
 | 0=>c
 | i+1=>if t<(ps.getD i G0).1.1 then min (nxF t c ps i) (ps.getD i G0).1.1 else nxF t c ps i
def Ykl{t c:Int}{ps:List Zl}(h:t<(ps.getD i G0).1.1):nxF t c ps (i+1)=min (nxF t c ps i) (ps.getD i G0).1.1:=aM h
def Ykn{t c:Int}{ps:List Zl}(h:¬t<(ps.getD i G0).1.1):nxF t c ps (i+1)=nxF t c ps i:=aG h
theorem Ykm(t c:Int)(ps:List Zl):∀i,nxF t c ps i<=c/\(∀k,k<i->t<(ps.getD k G0).1.1->nxF t c ps i<=(ps.getD k G0).1.1)/\(nxF t c ps i=c\/∃k,k<i/\t<(ps.getD k G0).1.1/\nxF t c ps i=(ps.getD k G0).1.1)
 | 0=>⟨eN _,λk j=>absurd j (bN k),.inl rfl⟩
 | i+1=>by
  obtain⟨s,q,g⟩:=Ykm t c ps i;by_cases h:t<(ps.getD i G0).1.1
  .rw [Ykl h];refine⟨O,λk j l=>?_,?_⟩
   .rcases aZ.1 j with e|e
    .have:=q k e l;omega
    .subst e;exact Int.min_le_right _ _
   .by_cases u:nxF t c ps i<=(ps.getD i G0).1.1
    .rw [Int.min_eq_left u];rcases g with g|⟨k,v,n,p⟩
     .exact .inl g
     .exact .inr ⟨k,O,n,p⟩
    .rw [Int.min_eq_right O];exact .inr ⟨i,O,h,rfl⟩
  .rw [Ykn h];refine⟨s,λk j l=>?_,?_⟩
   .rcases aZ.1 j with e|e
    .exact q k e l
    .subst e;exact absurd l h
   .rcases g with g|⟨k,v,n,p⟩
    .exact .inl g
    .exact .inr ⟨k,O,n,p⟩
theorem nx_eq(B:Bks a b){n:Nat}(G:n+1<(Ny a b).length):nxF ((Ny a b).getD n 0) (nxF ((Ny a b).getD n 0) (cmL a b) a a.length) b b.length=(Ny a b).getD (n+1) 0:=by
 obtain⟨S,V,W⟩:=B.lt n G;have hs:=Yd1 a b;obtain⟨p1,Q,H⟩:=Ykm ((Ny a b).getD n 0) (cmL a b) a a.length;obtain⟨q1,R,I⟩:=Ykm ((Ny a b).getD n 0) (nxF ((Ny a b).getD n 0) (cmL a b) a a.length) b b.length;generalize nxF ((Ny a b).getD n 0) (cmL a b) a a.length=s at *;generalize nxF ((Ny a b).getD n 0) s b b.length=r at *;have P:r<=(Ny a b).getD (n+1) 0:=by
  rcases Br.1 (Zd (zs:=Ny a b) (i:=n+1) (d:=0) G)with h|h|⟨v,p,⟨g,j,e⟩|⟨g,j,e⟩⟩
  .omega
  .omega
  .obtain⟨k,u,rfl⟩:=cW.1 j;have l:a.getD k G0=a[k]:=by rw [aK,aN u];rfl
   have:=Q k u (by rw [l];omega);rw [l]at this;omega
  .obtain⟨k,u,rfl⟩:=cW.1 j;have l:b.getD k G0=b[k]:=by rw [aK,aN u];rfl
   have:=R k u (by rw [l];omega);rw [l]at this;omega
 have w:r∈Ny a b/\(Ny a b).getD n 0<r:=by
  have F:r=cmL a b\/∃g,(g∈a\/g∈b)/\(Ny a b).getD n 0<g.1.1/\r=g.1.1:=by
   rcases I with I|⟨k,v,p,t⟩
   .rcases H with H|⟨k,v,p,t⟩
    .exact .inl O
    .exact .inr ⟨a.getD k G0,.inl (Zd v),p,O⟩
   .exact .inr ⟨b.getD k G0,.inr (Zd v),p,t⟩
  rcases F with h|⟨g,j,p,t⟩
  .exact⟨Br.2 (.inr (.inl h)),O⟩
  .refine⟨?_,O⟩;by_cases M:r=cmL a b
   .exact Br.2 (.inr (.inl M))
   .refine Br.2 (.inr (.inr ⟨O,O,?_⟩));rcases j with j|j
    .exact .inl ⟨g,j,t.symm⟩
    .exact .inr ⟨g,j,t.symm⟩
 obtain⟨q,N,e⟩:=Ez.1 w.1;have hl:(Ny a b).getD (n+1) 0<=r:=by
  rcases gN q n with c|c|c
  .have:=hs q n c O;omega
  .subst c;omega
  .rcases iE (show n+1<=q from c)with d|d
   .have:=hs (n+1) q d N;omega
   .rw [<-d]at e;omega
 omega
theorem Ys2(B:Bks a b){n:Nat}(g:n+1<=(Ny a b).length)(h:¬(Ny a b).getD n 0<cmL a b):n+1=(Ny a b).length:=by
 rcases iE g with e|e
 .obtain⟨j,l,p⟩:=B.lt n e;omega
 .exact e
theorem Yns(B:Bks a b){n:Nat}(g:n+1<=(Ny a b).length)(h:(Ny a b).getD n 0<cmL a b):n+1<(Ny a b).length:=by
 rcases iE g with e|e
 .exact e
 .have:=B.ls;rw [show(Ny a b).length-1=n by omega]at this;omega
def bdI:List GpU->Int
 | []=>-1
 | g::l=>if Ky g.2.2 then 0 else if bdI l<0 then -1 else bdI l+1
theorem bdI_s:∀{l:List GpU} {k:Nat},k<l.length->(∀i,i<k->Ky (l.getD i (0,0,[])).2.2=false)->Ky (l.getD k (0,0,[])).2.2=true->bdI l=(k:Int)
 | [],_,h,_,_=>absurd h (bN _)
 | g::l,0,_,_,e=>by have e:Ky g.2.2=true:=e;unfold bdI;rw [aM e];rfl
 | g::l,k+1,h,h1,e=>by have j:Ky g.2.2=false:=h1 0 (kP _);have:=bdI_s (l:=l) (k:=k) (by simpa using h) (λi hi=>h1 (i+1) O) e;unfold bdI;rw [aG (by rw [j];exact eI),this,aG O];rfl
theorem bdI_n:∀{l:List GpU},(∀i,i<l.length->Ky (l.getD i (0,0,[])).2.2=false)->bdI l=-1
 | [],_=>rfl
 | g::l,h=>by have e:Ky g.2.2=false:=h 0 (kP _);have:=bdI_n (l:=l) λi hi=>h (i+1) (by simpa using hi);unfold bdI;rw [aG (by rw [e];exact eI),this];rfl
theorem bd_at{zs:List GpT}(e:k<zs.length)(h:∀i,i<k->Ky (zs.getD i Gp0).2.2=false)(g:Ky (zs.getD k Gp0).2.2=true):bdI (zs.map Bc)=(k:Int):=
 bdI_s (by rw [aT];exact e) (λi hi=>by rw [Aj];exact h i hi) (by rw [Aj];exact g)
theorem bd_no{zs:List GpT}(e:∀i,i<zs.length->Ky (zs.getD i Gp0).2.2=false):bdI (zs.map Bc)=-1:=
 bdI_n λi hi=>by rw [Aj];exact e i (by rw [aT]at hi;exact hi)
theorem Yd9:∀l:List GpU,decide (bdI l<0)=!(Hu l).2.2
 | []=>rfl
 | g::l=>by
  have n:=Yd9 l;cases hn:Ky g.2.2 with
  | true=>
   have e:Zfz (g::l)=some g:=jX (by exact hn);have h:bdI (g::l)=0:=by show(if Ky g.2.2 then(0:Int)else _)=0;rw [hn];rfl
   unfold Hu;rw [e,h];rfl
  | false=>
   have e:Zfz (g::l)=Zfz l:=jY (by rw [show Ky g.2.2=false from hn];exact eI);have h:bdI (g::l)=if bdI l<0 then -1 else bdI l+1:=by show(if Ky g.2.2 then(0:Int)else _)=_;rw [hn];rfl
   have j:Hu (g::l)=Hu l:=by unfold Hu;rw [e]
   rw [j,<-n,h,bF];split<;>omega
theorem ap_b{n:Int}{zs:List GpT}(h:zs.map Bc=Nl D n d a b)(e:Lt a b=0):decide (bdI (zs.map Bc)<0)=Dn D n d a b:=by rw [Yd9,h,ap_t e]
theorem com_e0(j:¬De a b=9)(l:xs.map Gr=Lu a b a)(h:0<xs.length):De a b=0:=by
 rcases Zzo a b with g|g|g
 .exact absurd g j
 .exact g
 .have e:=aE List.length l;rw [Zzm O,aT]at e;have:xs.length=0:=e;omega
theorem gp_eq{xs ys:List GpT}(h:xs.map Bc=ys.map Bc):xs.length=ys.length/\∀k,(xs.getD k Gp0).1.1=(ys.getD k Gp0).1.1/\(xs.getD k Gp0).1.2=(ys.getD k Gp0).1.2/\(xs.getD k Gp0).2.2=(ys.getD k Gp0).2.2:=by have e:=aE List.length h;rw [aT,aT]at e;refine⟨e,λk=>?_⟩;have:=aE (λl=>l.getD k (0,0,[])) h;rw [Aj,Aj]at this;unfold Bc at this;injection this with h1 h2;injection h2 with h2 h3;exact⟨h1,h2,h3⟩
theorem Zsi{ps:List Zl}(h:Zi3 ps m=true):ps.length<=m:=by unfold Zi3 at h;rw [aR]at h;exact cF h.2
open Go Go.MapKept
variable {P:Program} {N:Nat} {sc:Nat->Prop} {env env':Pu} {H H':Hp} {Q Q':Exit->Act->World->Prop} {M:Nat->Prop}
abbrev PT:=SL×List Zl
abbrev Hj:PT:=((none,0,0),[])
abbrev Ft (x:PT):Value:=Xl x.1
abbrev qP (x:PT):Pc:=Xv 6 Pa qG (Xl x.1) x.2
def mpc(b:Nat)(e:Array MapEntry)(n:Nat):Pc:=
 {own:=true,fp:=λk=>k=b,holds:=λw=>w.heap[b]? = some (.map e n)
  lt:=λw k h j=>by subst j;exact(aS.1 h).1
  stable:=λw p h g=>by rw [<-h];exact g.block b (aS.1 h).1 (λl=>l rfl) }
def Zav(m k:Nat)(e:List PT):Bool:=decide (e.length<=m) && e.all λx=>Zi3 x.2 k
def Gv(e:List PT):Bool:=e.all λx=>Xy x.2
abbrev ClT:=(Int×Int×Int×Int)×Bool×Int
abbrev clE (r:ClT):Value:= .tuple #[.agg #[.int .i64 r.1.1,.int .i64 r.1.2.1,.int .i64 r.1.2.2.1,.int .i64 r.1.2.2.2],.bool r.2.1,.int .i64 r.2.2]
def Ck(ps:List PT)(i:Nat):List Zl:=(ps.getD i Hj).2
def clV(D n d:Int)(ps:List PT)(i k:Nat):ClT:=
 (if(Hu (Nl D n d (Ck ps i) (Ck ps k))).2.2=true then((i:Int),(k:Int),(Hu (Nl D n d (Ck ps i) (Ck ps k))).1,(Hu (Nl D n d (Ck ps i) (Ck ps k))).2.1)else(0,0,0,0),(Hu (Nl D n d (Ck ps i) (Ck ps k))).2.2,Lt (Ck ps i) (Ck ps k))
def ClA(D n d:Int)(ps:List PT)(i:Nat):Prop:=∀j k,j<k->k<ps.length->j<i->Dn D n d (Ck ps j) (Ck ps k)=true
def ClB(D n d:Int)(ps:List PT)(i m:Nat):Prop:=∀k,i<k->k<m->Dn D n d (Ck ps i) (Ck ps k)=true
def ClR(D n d:Int)(ps:List PT)(r:ClT):Prop:=
 (r=((0,0,0,0),false,0)/\ClA D n d ps ps.length)\/∃i k,i<k/\k<ps.length/\ClA D n d ps i/\ClB D n d ps i k/\Dn D n d (Ck ps i) (Ck ps k)=false/\r=clV D n d ps i k
def clA_0{n:Int}{ps:List PT} : ClA D n d ps 0:=λj k _ _ h=>absurd h (bN _)
def clB_0{n:Int}{ps:List PT} : ClB D n d ps i (i+1):=λk e g=>absurd e O
theorem clB_s{n:Int}{ps:List PT}(h:ClB D n d ps i m)(l:Dn D n d (Ck ps i) (Ck ps m)=true):ClB D n d ps i (m+1):=λk g j=>by
 rcases aZ.1 j with e|e
 .exact h k g e
 grind
theorem clA_s{n:Int}{ps:List PT}(h:ClA D n d ps i)(l:ClB D n d ps i m)(s:ps.length<=m):ClA D n d ps (i+1):=λj k g p q=>by
 rcases aZ.1 q with e|e
 .exact h j k g p e
 .subst e;exact l k g O
def clR_no{n:Int}{ps:List PT}(h:ClA D n d ps i)(hi:ps.length<=i):ClR D n d ps ((0,0,0,0),false,0):= .inl ⟨rfl,λj k e g l=>h j k e g O⟩
def Zs6{n:Int}{ps:List PT}(h:ClA D n d ps i)(e:ClB D n d ps i k)(hi:i<k)(j:k<ps.length)(g:Dn D n d (Ck ps i) (Ck ps k)=false):ClR D n d ps (clV D n d ps i k):= .inr ⟨i,k,hi,j,h,e,g,rfl⟩
theorem Zab{n:Int}{ps:List PT}{r s:ClT}(h:ClR D n d ps r)(g:ClR D n d ps s):r=s:=by
 rcases h with⟨rfl,h⟩|⟨i,k,q,u,B,F,I,rfl⟩<;>rcases g with⟨rfl,g⟩|⟨j,m,p,t,v,w,G,rfl⟩
 .rfl
 .have:=h j m p t O;grind
 .have:=g i k q u O;grind
 .rcases gN i j with e|e|e
  .have:=v i k q u e;grind
  .subst e;rcases gN k m with l|l|l
   .have:=w k q l;grind
   .grind
   .have:=F m p l;grind
  .have:=B j m p t e;grind
theorem ap_no{n:Int}(h:(Hu (Nl D n d a b)).2.2=false)(e:Lt a b=0):Dn D n d a b=true:=by unfold Dn;grind
theorem ap_is{n:Int}(h:(Hu (Nl D n d a b)).2.2=true):Dn D n d a b=false:=by unfold Dn;grind
theorem ap_e{n:Int}(e:Lt a b≠0):Dn D n d a b=false:=by unfold Dn;grind
theorem Zto:∀l:List GpU,0<=bdI l->Hu l=((l.getD (bdI l).toNat (0,0,[])).1,(l.getD (bdI l).toNat (0,0,[])).2.1,true)/\(bdI l).toNat<l.length
 | [],h=>absurd h O3
 | g::l,h=>by
  cases hn:Ky _ with
  | true=>
   have e:Zfz (g::l)=some g:=jX O;have j:bdI (g::l)=0:=by show(if Ky _ then(0)else _)=0;grind
   unfold Hu;grind
  | false=>
   have e:Zfz (g::l)=Zfz l:=jY O4;have j:bdI (g::l)=if bdI l<0 then -1 else bdI l+1:=by show(if Ky _ then(0)else _)=_;grind
   have n:Hu (g::l)=Hu l:=by unfold Hu;grind
   by_cases s:bdI l<0
   .omega
   .obtain⟨q,t⟩:=Zto l O;have p:(bdI (g::l)).toNat=(bdI l).toNat+1:=O;rw [n,q,p];exact⟨rfl,by rw [dP];omega⟩
theorem Ek{e:List PT}(h:Gv e=true){x:PT}(g:x∈e):Xy x.2=true:=cJ.1 h x g
theorem Yad{e:List PT}{x:PT}(g:x∈e)(h:Xy x.2=false):Gv e=false:=by grind [Ek]
theorem Zt3{e:List PT}(l:e.length<=m)(h:∀k,k<m->k<e.length->Xy (Ck e k)=true):Gv e=true:=
 cJ.2 λx j=>by obtain⟨k,g,rfl⟩:=cW.1 j;have:=h k O g;unfold Ck at this;grind
theorem fst_e{n:Int}(h:Lt a b≠0):Hu (Nl D n d a b)=(0,0,false):=by rw [Zr9 (λe=>h (by unfold Lt;omega))];rfl
theorem clW_e{n:Int}{e:List PT}(h:Lt (e.getD i Hj).2 (e.getD k Hj).2≠0):clV D n d e i k=((0,0,0,0),false,Lt (e.getD i Hj).2 (e.getD k Hj).2):=by have g:Hu (Nl D n d (Ck e i) (Ck e k))=(0,0,false):=fst_e h;unfold clV;rw [g];rfl
theorem clW_t{n:Int}{e:List PT}{zs:List GpT}(j:¬Lt (e.getD i Hj).2 (e.getD k Hj).2≠0)(l:zs.map Bc=Nl D n d (e.getD i Hj).2 (e.getD k Hj).2)(h:bdI (zs.map Bc)>=0) :
  clV D n d e i k=(((i:Int),(k:Int),(zs.getD (bdI (zs.map Bc)).toNat Gp0).1.1,(zs.getD (bdI (zs.map Bc)).toNat Gp0).1.2),true,0):=by
 have g:=(Zto _ h).1;rw [Aj]at g;have p:Hu (Nl D n d (Ck e i) (Ck e k))=((zs.getD (bdI (zs.map Bc)).toNat Gp0).1.1,(zs.getD (bdI (zs.map Bc)).toNat Gp0).1.2,true):=by show Hu (Nl D n d (e.getD i Hj).2 (e.getD k Hj).2)=_;rw [<-l];exact g
 have q:Lt (Ck e i) (Ck e k)=0:=fD.1 j;unfold clV;grind
theorem Zn6{n:Int}{zs:List GpT}(e:zs.map Bc=Nl D n d a b)(h:bdI (zs.map Bc)>=0):Dn D n d a b=false/\(bdI (zs.map Bc)).toNat<zs.length:=
 ⟨ap_is (by grind [Zto]),by have:=(Zto _ h).2;grind⟩
theorem apW_f{n:Int}{zs:List GpT}(g:zs.map Bc=Nl D n d a b)(e:¬Lt a b≠0)(h:¬bdI (zs.map Bc)>=0):Dn D n d a b=true:=by rw [<-ap_b g (fD.1 e)];grind
theorem Bw{e:List PT}(h:Zav m k e=true):e.length<=m/\∀x∈e,Zi3 x.2 k=true:=by unfold Zav at h;grind
theorem Yro{e:List PT}{x:PT}(g:x∈e)(h:Zi3 x.2 k=false):Zav m k e=false:=by
 cases hv:Zav m k e with
 | false=>rfl
 | true=>rw [(Bw hv).2 x g]at h;omega
theorem Yl5{e:List PT}(h:∀j,j<i->Zi3 (Ck e j) k=true)(hi:¬(i<e.length/\i<=m))(p:i<=e.length):Zav m k e=decide (e.length<=m):=by
 unfold Zav;by_cases g:e.length<=m
 .rw [aJ g];refine cJ.2 λx l=>?_;obtain⟨j,n,rfl⟩:=cW.1 l;have:=h j O;unfold Ck at this;grind
 grind
end Go.Sky
namespace Go.Sky
open Go.ChangeShapes Go.WideShapes Go.ChangeAt Go.RowKit Go.Joins Go.Deep
open Go.Proofs
variable {P:Program} {W:World} {H:Type} {enc:TypeId×Value->H}
theorem Yfm {t0 t ti B e:TypeId} {f0 f1 f2 f3 f4 f5:Field} {c:Value} {v:Nat} {x:DataW H×List MemPlace} (Y:P.underlying t0=some (.slice t)) (ht:P.underlying t=some (.struct #[f0,f1,f2,f3,f4,f5]))
  (h0:f0.type=ti) (h1:f1.type=ti) (h2:f2.type=ti) (h3:f3.type=B) (h4:f4.type=B) (h5:f5.type=B) (o0:f0.offset=0) (o1:f1.offset=1) (o2:f2.offset=2) (o3:f3.offset=3) (o4:f4.offset=4) (o5:f5.offset=5)
  (hi:P.underlying ti=some (.int .i64)) (hs:P.underlying B=some (.slice e)) (he:P.underlying e=some (.int .i64)) (hc:P.cellsOf e=1) (M:P.cellsOf ti=1) (N:P.cellsOf B=1) (hC:P.cellsOf t=6)
  (h:DataW.trod enc P W 0 (λ_=>true) true v t0 [c]=some x):∃z:PT,c=Xl z.1/\(qP z).holds W/\∀g∈z.2,Gin g:=by
 rcases open_slice Y h with⟨V,_⟩|⟨a,r,a0,m,n,D,Pl,V,_,hl,hm,w,hx,Q⟩
 .cases V;exact⟨Hj,rfl,⟨Cc 6 Pa W,λz hz=>by cases hz⟩,λg d=>by cases d⟩
 .cases V;simp at w;subst w
  haveI:Inhabited Zl:=⟨G0⟩
  by_cases hn:r=0
  .subst hn;exact⟨((some a,0,m),[]),rfl,⟨⟨⟨some a,m,rfl,hl,hm,.inl rfl⟩,λb G=>absurd rfl G.1⟩,λz hz=>by cases hz⟩,λg d=>by cases d⟩
  .obtain⟨F,Z,q⟩:=Zdu (p:=λi (g:Zl)=>W.cells? 0 (a.add (i*6)) 6=some [.int .i64 g.1.1,.int .i64 g.1.2.1,.int .i64 g.1.2.2,Xl g.2.1.1,Xl g.2.2.1.1,Xl g.2.2.2.1]/\(qG g).holds W/\Gin g) r λi f=>by obtain⟨a1,k2,k3⟩:=Q i O;rw [hC]at k2;obtain⟨g,rfl,k4,k5⟩:=Ye3 ht h0 h1 h2 h3 h4 h5 o0 o1 o2 o3 o4 o5 hi hs he hc M N hC k3;exact⟨g,k2,k4,k5⟩
   have k:∀g∈F,(qG g).holds W/\Gin g:=λg d=>by obtain⟨i,f,rfl⟩:=jD d;exact(q i _ (aN f)).2
   obtain⟨g,s,y⟩:=a;have c0:=(World.cells?_some (q 0 (F[0]' O) (aN O)).1).2.2 0 O;obtain⟨o,l⟩:=Zp3 c0;have o:y=none:=o;have l:g<W.heap.size:=l;subst o;refine⟨((some ⟨g,s,none⟩,r,m),F),rfl,⟨⟨⟨some ⟨g,s,none⟩,m,by rw [Z],by show F.length<=m;omega,hm,.inr ⟨g,s,rfl,λi x f j u R=>?_⟩⟩,λb G=>by cases G.2;exact l⟩,λg d=>(k g d).1⟩,λg d=>(k g d).2⟩;obtain⟨_,_,I⟩:=World.cells?_some (q i x f).1;have S:j<6:=by
    rcases aX j 6 with h|h
    .exact h
    .rw [bT (by simp [Value.cells];omega)]at R;cases R
   have:=I j S;simp only [Ol]at this;rw [this];simpa [Value.cells]using R
theorem Zyo {tl t0 t ti G e:TypeId} {f0 f1 f2 f3 f4 f5:Field} {v:Value} {d:DataW H} {p:List MemPlace} (k:P.underlying tl=some (.slice t0)) (I:P.cellsOf t0=1) (Y:P.underlying t0=some (.slice t)) (ht:P.underlying t=some (.struct #[f0,f1,f2,f3,f4,f5]))
  (h0:f0.type=ti) (h1:f1.type=ti) (h2:f2.type=ti) (h3:f3.type=G) (h4:f4.type=G) (h5:f5.type=G) (o0:f0.offset=0) (o1:f1.offset=1) (o2:f2.offset=2) (o3:f3.offset=3) (o4:f4.offset=4) (o5:f5.offset=5)
  (hi:P.underlying ti=some (.int .i64)) (hs:P.underlying G=some (.slice e)) (he:P.underlying e=some (.int .i64)) (hc:P.cellsOf e=1) (N:P.cellsOf ti=1) (Q:P.cellsOf G=1) (hC:P.cellsOf t=6)
  {r:Reach} {b0:Nat} (Z:Value.okWide P W r b0 tl v) (h:DataW.Trod enc P W 0 (λ_=>true) true tl v d p):∃ls:List PT,(Xv 1 Ft qP v ls).holds W/\∀x∈ls,∀g∈x.2,Gin g:=by
 obtain⟨a0,F,a7,rfl⟩:=okWide_slice k Z;obtain⟨a4,hf⟩:=h;rcases open_slice k hf with⟨w,_⟩|⟨a,a5,a3,m,n,D,Pl,w,_,hl,hm,s,hx,R⟩
 .simp [Value.cells]at w;obtain⟨rfl,rfl,rfl⟩:=w;exact⟨[],⟨Cc 1 Ft W,λz hz=>by cases hz⟩,λg o=>by cases o⟩
 .simp [Value.cells]at w;obtain⟨rfl,rfl,rfl⟩:=w;simp at s;subst s
  haveI:Inhabited PT:=⟨Hj⟩
  obtain⟨xs,a1,B⟩:=Zdu (p:=λi (z:PT)=>W.cells? 0 (a.add (i*1)) 1=some [Xl z.1]/\(qP z).holds W/\∀g∈z.2,Gin g) F λi f=>by
   obtain⟨q,k2,k3⟩:=R i O;rw [I]at k2;obtain⟨c,rfl⟩:∃c,q=[c]:=by
    have:=(World.cells?_some k2).2.1
    match q,this with
    | [c],_=>exact⟨c,rfl⟩
   obtain⟨z,rfl,k4,k5⟩:=Yfm Y ht h0 h1 h2 h3 h4 h5 o0 o1 o2 o3 o4 o5 hi hs he hc N Q hC k3;exact⟨z,k2,k4,k5⟩
  have l:∀z∈xs,(qP z).holds W/\∀g∈z.2,Gin g:=λg o=>by obtain⟨i,f,rfl⟩:=jD o;exact(B i _ (aN f)).2
  refine⟨xs,⟨⟨⟨some a,m,by rw [a1],O,hm,?_⟩,λb hb=>?_⟩,λg o=>(l g o).1⟩,λg o=>(l g o).2⟩
  .rcases aV F with hz|hz
   .exact .inl (aC O)
   .right;obtain⟨g,a2,a6⟩:=a;obtain⟨y,_⟩:=Zml k Z;simp only at y;subst y;refine⟨g,a2,rfl,λi x f j u S=>?_⟩;obtain⟨_,_,M⟩:=World.cells?_some (B i x f).1;have V:j<1:=by
     rcases aX j 1 with h|h
     .exact h
     .rw [bT (by simp [Value.cells];omega)]at S;cases S
    have:=M j V;simp only [Ol]at this;rw [this];simpa [Value.cells]using S
  .cases hb.2;exact(Zml k Z).2
end Go.Sky

