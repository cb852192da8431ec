/- Rules, arithmetic and contracts: part 8. No conditions but those that each theorem names. -/
import Derived.Test.YteikicbnfbgpnaaGreatEn06
set_option linter.all false
namespace Go.Sky
variable{xs r rest before p q c z:List Int}{m a b:R2}{ls cs:List (SL×List Int)}{i t M N k fuel:Nat}{x y ov d:Int}{ds:List (List Int)}{lo:Rat}{v:Value}{ti ts:TypeId}
def Zcy(xs:List Int)(m:Nat):Prop:=xs.length=0\/(xs.length+2)*(xs.length+2)*(Xx xs+m+2*(xs.length-1)+32)<=65536
instance (xs:List Int) (m:Nat):Decidable (Zcy xs m):=by unfold Zcy;infer_instance
def sgf_t{m:Nat}(h:xs.length=0):Value.bool (decide (Zcy xs m))= .bool true:=aH Value.bool (aK (.inl h))
theorem sgf_i{m:Nat}{n:Int}(h:xs.length≠0)(f:n=(((xs.length+2)*(xs.length+2)*(Xx xs+m+2*(xs.length-1)+32):Nat):Int)):Value.bool (decide (Zcy xs m))= .bool (decide (n<=65536)):=aH Value.bool (bL.2 (by
 subst f;show(xs.length=0\/_<=65536)↔_;constructor
 .intro e;rcases e with e|e
  .exact absurd e h
  .exact lG.2 e
 .intro e;exact .inr (lG.1 e)))
def efit(z:R2):Bool:=decide (max (bl z.1.natAbs) (bl z.2.natAbs)<=512)
def Zjz:List Int->Int
 | []=>0
 | x::r=>if x=0 then Zjz r else x
theorem Zv7{s:Int}(h:s≠0):∀{L:List Int} {i:Nat},i<L.length->(∀k,k<i->L.getD k 0=0)->L.getD i 0=s->Zjz L=s
 | [],i,hi,_,_=>absurd hi O7
 | x::r,0,_,_,hs=>by have e:x=s:=hs;subst e;unfold Zjz;rw [aD h]
 | x::r,i+1,hi,hz,hs=>by have e:x=0:=hz 0 O;unfold Zjz;rw [aG e];exact Zv7 h (L:=r) (i:=i) (by simpa using hi) (λk f=>hz (k+1) O) hs
theorem Zpl:∀{L:List Int},(∀k,k<L.length->L.getD k 0=0)->Zjz L=0
 | [],_=>rfl
 | x::r,hz=>by have e:x=0:=hz 0 O7;unfold Zjz;rw [aG e];exact Zpl λk f=>hz (k+1) (by simpa using f)
def aft(e:List (List Int))(m:R2):Int:=Zjz (e.map (Cj m.1 m.2))
def vlu(e:List (List Int))(m:R2):Int:=if e.length=0 then 0 else Cj m.1 m.2 (e.getD 0 [])
def chv(e:List (List Int))(m:R2):Int:=chg (e.map (Cj m.1 m.2))
def crb(e:List (List Int))(a b:R2):Bool:=if e.length=0 then false else decide (0<chv e a-chv e b-if Cj b.1 b.2 (e.getD 0 [])=0 then 1 else 0)
def cmp(a b:R2):Int:=(a.1*b.2-b.1*a.2).sign
def ngb(ds cs:List (List Int))(a b:R2):Bool:=if cmp a b=0 then decide (vlu ds a<0)else(decide (aft ds a<0) || crb cs a b)
theorem Yd1(ls:List (SL×List Int))(x y:Int):aft (ls.map Prod.snd) (x,y)=Zjz (sgx ls (Cj x y)):=by unfold aft;rw [Yaf rfl]
theorem Ysa(ls:List (SL×List Int))(x y:Int):chv (ls.map Prod.snd) (x,y)=chg (sgx ls (Cj x y)):=by unfold chv;rw [Yaf rfl]
theorem Zh7(h:i<ls.length):(ls.map Prod.snd).getD i []=(ls.getD i Z0).2:=by rw [aE,aE,eI,aM h];rfl
theorem Ydf(e:List (List Int))(m:R2):0<=chv e m/\chv e m<=(e.length:Int):=by have:=Zbp (e.map (Cj m.1 m.2));rw [aP]at this;exact this
theorem Zul{x:Rat}(h:Ep x=0):x=0:=by
 rcases Pj x with⟨f,e⟩|⟨f,e⟩|⟨f,e⟩
 .rw [e]at h;exact absurd h O3
 .rw [e]at h;exact absurd h O3
 .exact f
theorem sgm_i{l:Int}(f:-1<=x/\x<=1)(e:-1<=l/\l<=1):Nz (x*l):=by
 rcases(show x=-1\/x=0\/x=1 by omega)with h|h|h<;>subst h
 .exact⟨O,O⟩
 .exact⟨O,O⟩
 .exact⟨O,O⟩
theorem Yah{l:Int}(f:-1<=x/\x<=1)(e:-1<=l/\l<=1)(h:x*l<0):x=-l:=by rcases(show x=-1\/x=0\/x=1 by omega)with h|h|h<;>subst h<;>omega
theorem Yag{l:Int}(g:-1<=x/\x<=1)(f:-1<=l/\l<=1)(h:¬x*l<0)(e:x≠0):¬x=-l:=by rcases(show x=-1\/x=0\/x=1 by omega)with h|h|h<;>subst h<;>omega
theorem Yai{l:Int}(h:x=0):¬x*l<0:=by subst h;omega
theorem crb_t{e f:Int}(h:cs.length≠0)(g:Cj e f (cs.getD 0 Z0).2=0):Value.bool (crb (cs.map Prod.snd) (x,y) (e,f))= .bool (decide (0<chv (cs.map Prod.snd) (x,y)-chv (cs.map Prod.snd) (e,f)-1)):=by unfold crb;rw [aP,aD h,Zh7 O,aG g]
theorem crb_f{e f:Int}(h:cs.length≠0)(g:¬Cj e f (cs.getD 0 Z0).2=0):Value.bool (crb (cs.map Prod.snd) (x,y) (e,f))= .bool (decide (0<chv (cs.map Prod.snd) (x,y)-chv (cs.map Prod.snd) (e,f))):=by unfold crb;rw [aP,aD h,Zh7 O,aD g,gF]
theorem ngb_t{cs:List (List Int)}(h:¬cmp a b=0)(e:aft ds a<0):Value.bool (ngb ds cs a b)= .bool true:=by unfold ngb;rw [aD h,aK e];rfl
theorem ngb_f{cs:List (List Int)}(h:¬cmp a b=0)(e:¬aft ds a<0):Value.bool (ngb ds cs a b)= .bool (crb cs a b):=by unfold ngb;rw [aD h,aN e];rfl
def Zfr:Nat->List Int->List (List Int)
 | 0,_=>[]
 | n+1,p=>if p.length=0 then []else p::Zfr n (Yy p)
theorem Zwl{m:R2}(j:0<m.2):∀(n:Nat) (p:List Int),p.length<=n->aft (Zfr n p) m=Dl n p (qv m)
 | 0,p,o=>rfl
 | n+1,p,o=>by
  unfold Zfr;by_cases h:p.length=0
  .rw [aG h];have:p=[]:=aC h;subst this;have f:∀n,Dl n [] (qv m)=0:=λn=>by
    induction n with
    | zero=>rfl
    | succ n g=>unfold Dl;rw [aD (by show ¬(0:Rat)≠0;simp)];exact g
   rw [f];rfl
  .rw [aD h];have s:=Oc p;have g:=Zwl j n (Yy p) O;unfold aft at g ⊢;rw [bZ];unfold Zjz Dl;have l:Cj m.1 m.2 p=Ep (Zf p (qv m)):=Zeo j p;rw [l];by_cases f:Zf p (qv m)=0
   .rw [aG (Zum f),aD (by simpa using f)];exact g
   .rw [aD (λe=>f (Zul e)),aG f]
structure Cvd (xs:List Int):Prop where
 v:Vp xs
 s:Sz 205 xs
 l:xs.length<=11
theorem Zhf(h:Cvd xs)(e:xs≠[])(f:Dp xs r):Sz 220 r/\r.length<=11:=by obtain⟨g,j⟩:=f.sz h.v.tr e h.s (by have:=h.l;omega);exact⟨g,by have:=h.l;omega⟩
theorem Zd9(h:Cvd xs)(l:xs≠[])(e:Dp xs r) :
  Vp r/\r≠[]/\(∀i,bl (cf r (i+1)*((i:Int)+1)).natAbs<=65536)/\Vp (Yy r)/\¬Zpk r (Yy r)/\eok 13 (gA r (Yy r)) (gB r (Yy r))/\Nc 13 r (Yy r)=Oe 13 r/\Vp (Oe 13 r)/\
  Bs r (Oe 13 r)=0/\pdv r (Oe 13 r)/\Kc r (Oe 13 r)=sqf 13 r/\Vp (sqf 13 r)/\Sz 235 (sqf 13 r)/\(sqf 13 r).length<=11/\Dp xs (Oe 13 r)/\sqf 13 r≠[]/\((sqf 13 r).length≠1->(Oe 13 r).length<r.length)/\Dd 13 r:=by
 obtain⟨G,Y⟩:=Zhf h l e;have u:Vp r:=⟨G.mono O,e.1,O⟩;have f:=e.ok h.v.tr l h.s O (by have:=h.l;omega) (show xs.length<=13+1 by have:=h.l;omega);obtain⟨⟨S,I,P,D,F⟩,-,-⟩:=f.1;have j:=e.2.2.1;have o:=(chG 13 e.1 e.2.1 G O O O).2.1;have Q:=(chG 13 e.1 e.2.1 G O O O).2.2.1;have B:=Zk9 u e.2.1 f.1.1;have H:Oe 13 r=Nc 13 r (Yy r):=by unfold Oe;rw [j]
 have n:=e.next f.2;have w:Vp (Oe 13 r):=by obtain⟨t1,t2⟩:=Zhf h l n;exact⟨t1.mono O,n.1,O⟩
 have s:sqf 13 r=Kc r (Oe 13 r):=by unfold sqf Oe;rw [j]
 obtain⟨f1,f2,f3,f4,f5,f6⟩:=Ou 13 e.1 e.2.1 f.2;have g:∀i,bl (cf r (i+1)*((i:Int)+1)).natAbs<=65536:=λi=>by
  by_cases hi:i<r.length
  .have:=S i hi;rwa [j]at this
  .rw [Yf O];simp [Lt]
 rw [j]at I P D F;rw [<-H]at D F;refine⟨u,e.2.1,g,Zfz u (λi _=>g i),I,P,H.symm,w,D,F,s.symm,B,o,O,n,f3,λR=>?_,f.2⟩;refine Zm0 e.1 e.2.1 f.2 ?_;have:=Pk e.1 e.2.1 f.2;have V:=aF.2 f3;have W:=aF.2 this.2.1;omega
def Kd(xs:List Int):List Int:=Zrd 13 xs.length [1] (Xa xs)
structure OddI (xs:List Int) (t:Nat) (rest out before:List Int):Prop where
 ex:∃f q,Dp xs q/\q.length<=f/\Zrd 13 f out q=Kd xs/\Tr out/\Op xs out q/\((t%2=1/\rest=q)\/(t%2=0/\rest=Oe 13 q/\before=sqf 13 q/\(sqf 13 q).length≠1))
theorem OddI.start{b:List Int}(h:Cvd xs)(e:xs≠[]):OddI xs 1 (Xa xs) [1] b:=
 ⟨xs.length,Xa xs,Dp.start h.v.tr e,by rw [Pr h.v.tr];exact aI _,rfl,.inr O3,Op.start h.v.tr,.inl ⟨rfl,rfl⟩⟩
theorem OddI.dp{e:List Int}(h:Cvd xs)(j:xs≠[])(n:OddI xs t rest e before):Dp xs rest:=by
 obtain⟨f,q,g,o,s,u,w,l|⟨-,rfl,-⟩⟩:=n.ex
 .rw [l.2];exact g
 .exact(Zd9 h j g).2.2.2.2.2.2.2.2.2.2.2.2.2.2.1
theorem OddI.out{e:List Int}(h:Cvd xs)(l:xs≠[])(s:OddI xs t rest e before):Vp e/\Sz 220 e/\e.length<=11:=by obtain⟨f,q,n,u,w,g,o,-⟩:=s.ex;obtain⟨j,B,D⟩:=o.sz h.v.tr l h.s (by have:=h.l;omega) g n.1;have:=h.l;exact⟨⟨j.mono O,g,O⟩,j,O⟩
theorem OddI.odd_end{e:List Int}(h:Cvd xs)(o:xs≠[])(l:OddI xs t rest e before)(D:t%2=1)(n:(sqf 13 rest).length=1):e=Kd xs:=by
 obtain⟨f,q,j,s,g,u,w,⟨-,rfl⟩|⟨B,-⟩⟩:=l.ex
 .cases f with
  | zero=>exact absurd (aF.2 j.2.1) O
  | succ f=>unfold Zrd at g;rw [aG n]at g;exact g
 .omega
theorem OddI.odd_next{e:List Int}(o:OddI xs t rest e before)(w:t%2=1)(s:(sqf 13 rest).length≠1):OddI xs (t+1) (Oe 13 rest) e (sqf 13 rest):=by
 obtain⟨f,q,g,h,j,l,n,⟨-,rfl⟩|⟨u,-⟩⟩:=o.ex
 .exact⟨f,rest,g,h,j,l,n,.inr ⟨O,rfl,rfl,s⟩⟩
 .omega
theorem OddI.even{g:List Int}(h:Cvd xs)(B:xs≠[])(hI:OddI xs t rest g before)(ht:t%2=0) :
  Vp before/\Bs before (sqf 13 rest)=0/\pdv before (sqf 13 rest)/\Vp (Kc before (sqf 13 rest))/\¬Zak g (Kc before (sqf 13 rest))/\
  ((sqf 13 rest).length=1->Qs g (Kc before (sqf 13 rest))=Kd xs)/\((sqf 13 rest).length≠1->OddI xs (t+1) (Oe 13 rest) (Qs g (Kc before (sqf 13 rest))) (sqf 13 rest))/\Vp (Qs g (Kc before (sqf 13 rest))):=by
 obtain⟨f,q,j,h2,n,h4,h5,⟨h7,-⟩|⟨-,rfl,rfl,Y⟩⟩:=hI.ex
 .omega
 obtain⟨a1,a2,a3,a4,a5,a6,a7,a8,a9,a0,b0,G,H,c0,I,c5,P,o⟩:=Zd9 h B j;obtain⟨b1,b2,b3,b4,b5,b6,b7,b8,b9,c6,c7,Q,R,c8,s,l,S,u⟩:=Zd9 h B I;obtain⟨c1,c2,V,c4⟩:=Cv j.1 j.2.1 o u;have W:=h5.next j.1 j.2.1 j.2.2.1 o u;have ho:=h.l;obtain⟨s1,s2,s3⟩:=W.sz h.v.tr B h.s O Qm s.1;obtain⟨o1,o2,o3⟩:=h5.sz h.v.tr B h.s O h4 j.1;have c9:(Be 13 q).length<=11:=by have e:=aH List.length c2;rw [Ov V Q.tr c4 l]at e;have:=aF.2 l;omega
 have D:Sz 450 (Be 13 q):=by obtain⟨a,ha,e⟩:=W;have e2:Xa xs=Qs (Qs (Qs a (Oe 13 (Oe 13 q))) g) (Be 13 q):=e.trans ((Qm).ext Qm λi=>Nq (λx=>by simp only [Yp];grind) i);exact(Zyw h.v.tr B h.s O Qm V e2).1.mono O
 have hd:Bs (sqf 13 q) (sqf 13 (Oe 13 q))=0:=by
  have m1:=Qu H;have m2:=Qu R;have l1:=aF.2 l;unfold Bs;rw [aD O];split
  .rfl
  .have:((sqf 13 q).length-(sqf 13 (Oe 13 q)).length+1)*(Xx (sqf 13 (Oe 13 q))+1)<=12*240:=aU O O;rw [aD O]
 have Z:Vp (Be 13 q):=⟨D.mono O,V,O⟩;have hm:¬Zak g (Be 13 q):=λhF=>by have m1:=Qu o1;have m2:=Qu D;rcases hF.2.2 with w|w<;>omega
 refine⟨G,hd,c1,Z,hm,λF=>?_,λF=>?_,⟨s1.mono O,Qm,aB s2 O⟩⟩
 .cases f with
  | zero=>exact absurd (aF.2 j.2.1) O
  | succ f=>unfold Zrd at n;rw [aD Y,aG F]at n;exact n
 .cases f with
  | zero=>exact absurd (aF.2 j.2.1) O
  | succ f=>
   unfold Zrd at n;rw [aD Y,aD F]at n;have l1:=P Y;have l2:=S F;exact⟨f,Oe 13 (Oe 13 q),s,O,n,Qm,W,.inl ⟨O,rfl⟩⟩
theorem Ye9(h:Cvd xs)(f:xs≠[]):Kd xs=Bb 13 xs.length (Xa xs):=by have e:=Dp.start h.v.tr f;have j:=h.l;have g:=(e.ok h.v.tr f h.s O O (show xs.length<=13+1 by omega)).2;unfold Kd;rw [Ybl h.v.tr f h.s O O O xs.length [1] (Xa xs) (.inr (show cf [1] 0≠0 by decide)) e (by rw [Pr h.v.tr];exact aI _),Ybd (Zkk xs e.1 e.2.1 g)]
theorem Zcb(h:Cvd xs)(f:xs≠[]):Odp 13 205 xs (Kd xs)/\Vp (Kd xs)/\Sz 220 (Kd xs)/\(Kd xs).length<=xs.length/\Za9 (Kd xs):=by
 have g:=Dp.start h.v.tr f;have H:=h.l;have o:=(g.ok h.v.tr f h.s O O (show xs.length<=13+1 by omega)).2;have n:=Ye9 h f;have j:Tr (Kd xs):=by rw [n];exact Zkk xs g.1 g.2.1 o
 obtain⟨⟨B,s⟩,-⟩:=Fy h.v.tr f h.s O O (show xs.length<=13+1 by omega) xs.length (Xa xs) g (by rw [Pr h.v.tr];exact aI _);rw [<-n]at s;have e:Xa xs=Qs (Qs B B) (Kd xs):=g.1.ext Qm λi=>Nq (λx=>by rw [s x,Yp,Yp];grind) i;obtain⟨l,F,u⟩:=Zyw h.v.tr f h.s O Qm j e;have D:=(chG 13 j u l O O O).1;refine⟨⟨h.v.tr,f,h.s,O,O,O,n,j,u,D⟩,⟨l.mono O,j,O⟩,l,F,.inr ?_⟩;have I:=Qu l;have w:((Kd xs).length+2)*((Kd xs).length+2)<=13*13:=aU O O;have G:((Kd xs).length+2)*((Kd xs).length+2)*(Xx (Kd xs)+16)<=13*13*236:=aU w O;omega
def Ae(xs:List Int):List (List Int):=if xs.length=0 then []else chn 13 (Kd xs)
def Pn(xs:List Int):List (List Int):=Zfr xs.length xs
theorem Zwk:∀(n k:Nat) (p:List Int),Tr p->p.length<=25->Sz k p->∀q∈Zfr n p,Tr q/\q.length<=p.length/\Sz (k+5*n) q
 | 0,_,_,_,_,_,q,e=>absurd e (by simp [Zfr])
 | n+1,k,p,g,l,hs,q,e=>by
  unfold Zfr at e;by_cases f:p.length=0
  .rw [aG f]at e;exact absurd e O7
  .rw [aD f]at e;rcases bE.1 e with rfl|e
   .exact⟨g,aI _,hs.mono O⟩
   .have o:=Oc p;obtain⟨h,s,j⟩:=Zwk n (k+5) (Yy p) (Nm g) O (Gx hs l) q e;exact⟨h,O,j.mono O⟩
theorem Ce(h:Cvd xs):∀q∈Pn xs,Vp q/\Xx q<=6150/\q.length<=11:=λq g=>by have l:=h.l;obtain⟨f,j,e⟩:=Zwk xs.length 205 xs h.v.tr O h.s q g;have:=Qu e;exact⟨⟨e.mono O,f,O⟩,O,O⟩
theorem Zhm(h:Cvd xs):∀q∈Ae xs,Vp q/\Xx q<=6150/\q.length<=11:=λq f=>by
 have G:=h.l;unfold Ae at f;by_cases j:xs.length=0
 .rw [aG j]at f;exact absurd f O7
 .rw [aD j]at f;have l:xs≠[]:=λe=>j (by rw [e];rfl);obtain⟨g,o,s,w,B⟩:=Zcb h l;obtain⟨u,D,F,n⟩:=chG 13 g.otr g.one s O O (show(Kd xs).length<=13+1 by omega);exact⟨Ygq o g.one u q f,(n q f).1,by have:=(n q f).2;omega⟩
theorem Zky(xs:List Int):(Ae xs).length<=1000:=by
 unfold Ae;split
 .exact bD _
 .have:=Za0 13 (sqf 13 (Kd xs)) (Zw (Yy (sqf 13 (Kd xs))));unfold chn;omega
theorem Zt5(g:Xx p<=6150)(h:p.length<=11)(a:bl m.1.natAbs<=5300)(b:bl m.2.natAbs<=5300):¬Ib p m.1 m.2:=λf=>by
 have e:Xx [m.1,m.2]<=5300:=by show max (bl m.1.natAbs) (max (bl m.2.natAbs) 0)<=5300;omega
 have j:(p.length-1)*Xx [m.1,m.2]<=10*5300:=aU O e;have:=f.2;omega
def Zdn(h:Cvd xs)(a:bl m.1.natAbs<=5300)(b:bl m.2.natAbs<=5300):(∀p∈Pn xs,¬Ib p m.1 m.2)/\(∀p∈Ae xs,¬Ib p m.1 m.2):=
 ⟨λp e=>Zt5 (Ce h p e).2.1 (Ce h p e).2.2 a b,λp e=>Zt5 (Zhm h p e).2.1 (Zhm h p e).2.2 a b⟩
theorem Yi8(e:0<a.2)(f:0<b.2):((a.1*b.2-b.1*a.2:Int):Rat)=(qv a-qv b)*((a.2:Rat)*(b.2:Rat)):=by have g:=Gm e;have h:=Gm f;unfold qv;push_cast;grind
theorem Yr1(g:0<a.2)(j:0<b.2):cmp a b<0↔qv a<qv b:=by
 have e:=Yi8 g j;have l:=bC (Gm g) (Gm j);unfold cmp;rw [Pf];constructor
 .intro h;have f:((a.1*b.2-b.1*a.2:Int):Rat)<0:=by exact_mod_cast h
  rcases(show qv a<qv b\/qv b<=qv a by grind)with q|q
  .exact q
  .have:=aL (show 0<=qv a-qv b by grind) (Rat.le_of_lt l);grind
 .intro h;have:=bC (show 0<qv b-qv a by grind) l;have f:((a.1*b.2-b.1*a.2:Int):Rat)<0:=O4;exact_mod_cast f
theorem Zsr(f:0<a.2)(g:0<b.2):cmp a b=0↔qv a=qv b:=by
 have e:=Yi8 f g;have l:=bC (Gm f) (Gm g);unfold cmp;rw [eW];constructor
 .intro h;rw [h]at e;rcases fD.1 (show(qv a-qv b)*((a.2:Rat)*(b.2:Rat))=0 by rw [<-e];rfl)with q|q
  .grind
  .rw [q]at l;grind
 .intro h;have j:((a.1*b.2-b.1*a.2:Int):Rat)=0:=by rw [e,h];grind
  exact_mod_cast j
theorem Zsq(g:0<a.2)(j:0<b.2):cmp a b<=0↔qv a<=qv b:=by
 have e:=Yr1 g j;have f:=Zsr g j;constructor
 .intro h;rcases(show cmp a b<0\/cmp a b=0 by omega)with q|q
  .exact dE (e.1 q)
  .have:=f.1 q;grind
 .intro h;rcases(show qv a<qv b\/qv a=qv b by grind)with q|q
  .exact eG (e.2 q)
  .exact oK (f.2 q)
def Ylp(e:0<m.2)(p:List Int):Cj m.1 m.2 p=Ep (Zf p (qv m)):=Zeo e p
theorem Yr9(h:Cvd xs)(l:xs≠[])(w:0<a.2)(n:0<b.2):crb (Ae xs) a b=true↔Zas 13 (Kd xs) (qv a) (qv b):=by
 obtain⟨j,H,I,P,Q⟩:=Zcb h l;have g:xs.length≠0:=λe=>l (aC e);unfold crb Zas Ae;rw [aD g];have D:∃r,chn 13 (Kd xs)=sqf 13 (Kd xs)::r:=by unfold chn Mc;split<;>exact⟨_,rfl⟩
 obtain⟨r,o⟩:=D;have s:∀m:R2,0<m.2->chv (chn 13 (Kd xs)) m=vch 13 (Kd xs) (qv m):=λm G=>(cvc_v (F:=13) (xs:=Kd xs) G);rw [aD (by rw [o];simp),s a w,s b n];have B:(chn 13 (Kd xs)).getD 0 []=sqf 13 (Kd xs):=by rw [o];rfl
 rw [B,Ylp n];have u:Ep (Zf (sqf 13 (Kd xs)) (qv b))=0↔Zf (Kd xs) (qv b)=0:=⟨λe=>(j.zero _).1 (Zul e),λe=>Zum ((j.zero _).2 e)⟩;by_cases f:Zf (Kd xs) (qv b)=0
 .rw [aG f,aG (u.2 f)];exact fN
 .rw [aD f,aD (λe=>f (u.1 e))];exact fN
theorem Zlb(f:0<m.2):vlu (Pn xs) m=Ep (Zf xs (qv m)):=by
 unfold vlu Pn;by_cases e:xs.length=0
 .have:xs=[]:=aC e;subst this;rfl
 .obtain⟨n,g⟩:∃n,xs.length=n+1:=⟨xs.length-1,O⟩;rw [g];unfold Zfr;rw [aD e,aD O7];exact Ylp f xs
theorem Zgu(h:Cvd xs)(g:0<a.2)(u:0<b.2)(s:qv a<=qv b):ngb (Pn xs) (Ae xs) a b=true↔Zzw xs (qv a) (qv b):=by
 unfold ngb;by_cases l:cmp a b=0
 .rw [aG l,Zlb g,fN];have e:=(Zsr g u).1 l;constructor
  .intro f;refine⟨qv a,gQ,s,?_⟩;rcases Pj (Zf xs (qv a))with⟨o,j⟩|⟨o,j⟩|⟨o,j⟩
   .rw [j]at f;exact absurd f O3
   .exact o
   .rw [j]at f;exact absurd f O3
  .rintro⟨x,F,G,B⟩;have:x=qv a:=O4;rw [<-this,Zo0 B];decide
 .rw [aD l];have w:qv a<qv b:=by have:=λe=>l ((Zsr g u).2 e);grind
  by_cases n:xs=[]
  .subst n;constructor
   .intro f;exact absurd f (by show ¬(decide ((0:Int)<0) || false)=true;decide)
   .rintro⟨x,F,G,B⟩;exact absurd B (by show ¬(0:Rat)<0;grind)
  .obtain⟨D,H,I,P,Q⟩:=Zcb h n;rw [<-D.sem w,mY,fN,Yr9 h n g u,show aft (Pn xs) a=Dl xs.length xs (qv a)from Zwl g _ _ (aI _)]
theorem Zwr(h:Cvd xs){m:Nat}(j:m<=100):Zcy xs m:=by refine .inr ?_;have g:=h.l;have l:=Qu h.s;have e:(xs.length+2)*(xs.length+2)<=13*13:=aU O O;have f:(xs.length+2)*(xs.length+2)*(Xx xs+m+2*(xs.length-1)+32)<=13*13*357:=aU e O;omega
theorem Zpp(h:xs.length=0):Pn xs=[]:=by unfold Pn;rw [h];rfl
theorem Yr8(h:xs.length=0):Ae xs=[]:=by unfold Ae;rw [aG h]
theorem Zsv(h:xs.length≠0):Ae xs=chn 13 (Kd xs):=by unfold Ae;rw [aD h]
theorem Zpq:∀(n m:Nat) (p:List Int),p.length<=n->p.length<=m->Zfr n p=Zfr m p
 | 0,m,p,f,g=>by
  have e:p.length=0:=O;cases m with
  | zero=>rfl
  | succ m=>unfold Zfr;rw [aG e]
 | n+1,m,p,f,g=>by
  have h:=Oc p;cases m with
  | zero=>unfold Zfr;rw [aG O]
  | succ m=>
   unfold Zfr;by_cases e:p.length=0
   .rw [aG e,aG e]
   .rw [aD e,aD e,Zpq n m (Yy p) O O]
theorem Zeq(h:p.length≠0):Pn p=p::Pn (Yy p):=by have f:=Oc p;unfold Pn;obtain⟨n,e⟩:∃n,p.length=n+1:=⟨p.length-1,O⟩;rw [e,show Zfr (n+1) p=if p.length=0 then []else p::Zfr n (Yy p)from rfl,aD h,Zpq n (Yy p).length (Yy p) O (aI _)]
def Ab(M:Nat)(p:List Int):Prop:=∀i,(cf p i).natAbs<=M
def Ab.sz{n:Nat}(h:Ab M p)(e:M<2^n):Sz n p:=λi=>(Qo n _).2 (bA (h i) e)
def Ab.mono(h:Ab M p)(e:M<=N):Ab N p:=λi=>aB (h i) e
theorem Az(h:Ab M p)(c:Int):Ab (M*c.natAbs) (Zq p c):=λi=>by rw [Yl,cJ];exact aJ _ (h i)
theorem Zt1{f:Nat->Int}{M n:Nat}(h:∀k,(f k).natAbs<=M)(e:∀k,n<=k->f k=0):∀m,(Ye f m).natAbs<=min m n*M
 | 0=>by show(0:Int).natAbs<=_;simp
 | m+1=>by
  have g:=Zt1 h e m;rw [Yk];rcases aZ m n with q|q
  .have:=h m;rw [show min (m+1) n=min m n+1 by omega,dA];omega
  .rw [e m q,fK,show min (m+1) n=min m n by omega];exact g
theorem Ynv{n:Nat}(e:Ab M p)(f:Ab N q)(h:p.length<=n):Ab (n*(M*N)) (Qs p q):=λi=>by
 rw [Hs,PS.mul_c];exact aB (Zt1 (n:=n) (M:=M*N) (λk=>by rw [cJ];exact aU (e k) (f (i-k))) (λk g=>by show cf p k*_=0;rw [Yf O,cM]) _) (aJ _ (Nat.min_le_right _ _))
theorem Zzu(e:Ab M p)(f:Ab N q):Ab (M+N) (Ht p q):=λi=>by rw [Dh];have:=e i;have:=f i;omega
theorem Ynu(e:Ab M p)(f:Ab N q):Ab (M+N) (Eh p q):=λi=>by rw [Il];have:=e i;have:=f i;omega
theorem ab_in(h:∀a∈c,Nz a):Ab (2^63) (tzl c):=λi=>by rw [Lc];obtain⟨e,f⟩:=Lq h i;show(c.getD i 0).natAbs<=_;omega
theorem Zrs{n:Nat}(e:p.length<=n)(f:q.length<=n):(Ht p q).length<=n:=by unfold Ht;refine aB (Mj _) ?_;rw [Yu];omega
theorem Yb1{n:Nat}(e:p.length<=n)(f:q.length<=n):(Eh p q).length<=n:=by unfold Eh;refine aB (Mj _) ?_;rw [Yu];omega
theorem Yb2{n m:Nat}(g:Tr p)(h:Tr q)(j:p.length<=n)(l:q.length<=m):(Qs p q).length<=n+m-1:=by
 by_cases e:p=[]
 .rw [e,Fr];exact bD _
 .by_cases f:q=[]
  .rw [f,Zca];exact bD _
  .have:=Ov g h e f;omega
def dN:Nat->List Int->List Int
 | 0,p=>p
 | n+1,p=>Yy (dN n p)
def axQ(o:Nat)(c:List Int):List Int:=Zq (dN o (tzl c)) (1000^o)
def sqQ(o:Nat)(c:List Int):List Int:=Qs (axQ o c) (axQ o c)
def sumQ(o:Nat)(x y z:List Int):Nat->List Int
 | 0=>[]
 | i+1=>Ht (sumQ o x y z i) (sqQ o (Zu i x y z))
def kilo(o:Nat):Int:=Zai (List.replicate o 1000)
def timC(o:Nat)(m ov T:Int):Int:=Zai (m::ov::List.replicate o T)
def oneQ(o:Nat)(m ov T:Int):List Int:=Zq [1] (timC o m ov T)
def formP(o:Nat)(m ov T:Int)(x y z:List Int):List Int:=Zw (Eh (Qs (oneQ o m ov T) (oneQ o m ov T)) (sumQ o x y z 3))
structure Sgo (fr to ov:Int) (x y z:List Int):Prop where
 t1:0<=fr
 t2:fr<to
 t3:to<=3600000
 o1:1<=ov
 o2:ov<=4294967296
 hx:∀a∈x,Nz a
 hy:∀a∈y,Nz a
 hz:∀a∈z,Nz a
 lx:1<=x.length/\x.length<=6
 ly:1<=y.length/\y.length<=6
 lz:1<=z.length/\z.length<=6
def Sgo.hc{fr e:Int}{x y:List Int}(h:Sgo fr e ov x y z)(i:Nat):∀a∈Zu i x y z,Nz a:=Ik h.hx h.hy h.hz i
def Sgo.lc{fr e:Int}{x y:List Int}(h:Sgo fr e ov x y z)(i:Nat):1<=(Zu i x y z).length/\(Zu i x y z).length<=6:=Cr (p:=λl:List Int=>1<=l.length/\l.length<=6) h.lx h.ly h.lz
theorem Sgo.of{fr j:Int}{x y:List Int}(w:∀a∈x,Nz a)(B:∀a∈y,Nz a)(D:∀a∈z,Nz a)(h:Ba fr j ov x y z=true):Sgo fr j ov x y z:=by unfold Ba Yec axB at h;simp only [aR,dO]at h;obtain⟨⟨⟨⟨⟨⟨⟨⟨l,n⟩,o⟩,s⟩,u⟩,e⟩,f⟩,g⟩,-⟩:=h;exact⟨l,n,o,s,u,w,B,D,⟨e.1.1.1,e.1.1.2⟩,⟨f.1.1.1,f.1.1.2⟩,⟨g.1.1.1,g.1.1.2⟩⟩
def Mk:Nat->Nat
 | 0=>2^63
 | 1=>5*2^63
 | _=>4*(5*2^63)
theorem Zp4(h:c.length<=6):¬25<(tzl c).length:=by have:=Mj c;omega
def Lw(z:R2):Prop:=0<z.2/\Int.gcd z.1 z.2=1
theorem lgcd_p(e:0<y):Kf x y=(Int.gcd x y:Int):=by unfold Kf;rw [aD O]
theorem Ykr (x:Int)(e:0<y):Lw (x/Kf x y,y/Kf x y):=by have f:0<Int.gcd x y:=Int.gcd_pos_of_ne_zero_right _ O;rw [lgcd_p e];refine⟨Int.ediv_pos_of_pos_of_dvd e O (jK ..),?_⟩;exact Int.gcd_ediv_gcd_ediv_gcd f
theorem Zrk(e:0<a.2)(h:¬Iq a.1 a.2):Lw (slow a):=by obtain⟨f,g,-⟩:=Zfl h;have:=Ykr a.1 e;unfold slow;rw [f,g];exact this
theorem Ykq(h:Ze6 a b)(e:0<a.2)(f:0<b.2):Lw (Ob a b):=by obtain⟨j,l,-⟩:=Zfl h.2;have g:0<Fo (a.1*b.2+b.1*a.2) (a.2*b.2)*2:=iI (Zyg h.1 (iI e f)) O3;have:=Ykr (Es (a.1*b.2+b.1*a.2) (a.2*b.2)*1) g;unfold Ob;rw [j,l];exact this
structure Hv (n Q j:Nat) (W:Rat) (a b:R2):Prop where
 hQ:0<Q
 hQ2:Q<2^(2*n)
 ea:En (2^n) Q j a
 eb:En (2^n) Q j b
 wd:(qv b-qv a)*((2^j:Nat):Rat)=W
 le:qv a<=qv b
 la:Lw a
 lb:Lw b
theorem Hv.start{n:Nat}(j:0<a.2)(l:0<b.2)(s:bl a.1.natAbs<=n)(F:bl a.2.natAbs<=n)(u:bl b.1.natAbs<=n)(G:bl b.2.natAbs<=n)(w:n<=65536)(o:qv a<=qv b):∃Q,Hv n Q 0 (qv b-qv a) (slow a) (slow b):=by
 obtain⟨V,W,Z,Y,f⟩:=Zcx _ j s F w;obtain⟨t1,t2,t3,t4,t5⟩:=Zcx _ l u G w;have R:=(Qo n _).1 Y;have S:=(Qo n _).1 t4;have B:=Zqz j (eE ((Qo n _).1 s));have D:=Zqz l (eE ((Qo n _).1 u));have g:0<(slow a).2.natAbs*(slow b).2.natAbs:=gI O O;have h:(slow a).2.natAbs*(slow b).2.natAbs<2^(2*n):=by rw [show 2*n=n+n by omega,bW];exact jN R (eE S) (cH O3)
 generalize P:(slow a).2.natAbs*(slow b).2.natAbs=Q at *;have e:((Q*2^0:Nat):Int)=(slow a).2*(slow b).2:=by rw [fL,jO,<-P];push_cast;rw [kW O,kW O]
 have H:En (2^n) Q 0 (slow a):=⟨W,by rw [e];exact jL _ _,by rw [f];exact B.1,by rw [f];exact B.2⟩;have I:En (2^n) Q 0 (slow b):=⟨t2,by rw [e];exact Int.dvd_mul_left _ _,by rw [t5];exact D.1,by rw [t5];exact D.2⟩;exact⟨Q,g,h,H,I,by rw [f,t5,fL];push_cast;grind,by rw [f,t5];exact o,Zrk j V,Zrk l t1⟩
theorem Hv.mid{n Q j B:Nat}{W:Rat}(h:Hv n Q j W a b)(Y:3*n+2+j<=B)(l:B<=65536) :
  Ze6 a b/\(bl (Ob a b).1.natAbs<=B/\bl (Ob a b).2.natAbs<=B/\0<(Ob a b).2)/\qv (Ob a b)=(qv a+qv b)/2/\(bl a.1.natAbs<=B/\bl a.2.natAbs<=B/\0<a.2)/\(bl b.1.natAbs<=B/\bl b.2.natAbs<=B/\0<b.2)/\
  Hv n Q (j+1) W a (Ob a b)/\Hv n Q (j+1) W (Ob a b) b:=by
 have e:∀m,m<=B->2^m<=2^B:=λm h=>dK O3 h;have g:Q*2^(j+1)<2^B:=by have:Q*2^(j+1)<2^(2*n)*2^(j+1):=eO h.hQ2 (cH O3);rw [<-bW]at this;exact dG this (e _ O)
 have o:2*2^n*(Q*2^j)<2^B:=by
  have G:Q*2^j<2^(2*n)*2^j:=eO h.hQ2 (cH O3);have w:2*2^n*(Q*2^j)<2*2^n*(2^(2*n)*2^j):=jP G (gI O3 (cH O3));have H:2*2^n*(2^(2*n)*2^j)=2^(3*n+1+j):=by rw [<-bW,<-nV,<-bW];congr 1;omega
  rw [H]at w;exact dG w (e _ O)
 obtain⟨F,s,u,P,R⟩:=mid_en h.ea h.eb h.hQ g o l;obtain⟨S,V⟩:=Yly j 0 B h.ea h.hQ h.hQ2 O;obtain⟨r1,r2⟩:=Yly j 0 B h.eb h.hQ h.hQ2 O;have f:=Ykq F h.ea.pos h.eb.pos;have D:((2^(j+1):Nat):Rat)=2*((2^j:Nat):Rat):=by rw [bX];push_cast;grind
 have I:=h.le;refine⟨F,⟨P,R,s.pos⟩,u,⟨S,V,h.ea.pos⟩,⟨r1,r2,h.eb.pos⟩,⟨h.hQ,h.hQ2,h.ea.up,s,?_,O4,h.la,f⟩,⟨h.hQ,h.hQ2,s,h.eb.up,?_,O4,f,h.lb⟩⟩
 .rw [u,D,<-h.wd];grind
 .rw [u,D,<-h.wd];grind
def Yee{n:Nat}(h:Sz k p)(e:k<=n)(i:Nat):(cf p i).natAbs<=2^n:=aB (Zh5 h i) (dK O3 e)
theorem Ypb(h:Cvd xs)(j:xs≠[]):Ax 13 xs/\∀u v:Rat,-((2^34:Nat):Rat)<=u->u<=v->v<=((2^34:Nat):Rat)->v-u<=1/((2^5000:Nat):Rat)->vch 13 xs u-vch 13 xs v<=1:=by
 have F:=h.l;obtain⟨l,e,B,D⟩:=chG 13 h.v.tr j h.s O O O;have g:=Gx e O;have f:∀n,n<=11->2<=n->Yal (2^34) (2^225) n 5000=true:=O5;obtain⟨n,o⟩:∃n:Nat,n=225:=⟨_,rfl⟩;rw [<-o]at f;have g:Sz n (Yy (sqf 13 xs)):=by rw [o];exact g
 have w:∀i,(cf (sqf 13 xs) i).natAbs<=2^n:=λi=>Yee e O i;exact⟨l,λu v=>sep_of h.v.tr j l (cH O3) (A:=2^n) (cH O3) w (λi=>Zh5 g i) (λs=>f _ O s) u v⟩
theorem Ye5{j e w:Nat}{x W:Rat}(B:1/((2^(e+1):Nat):Rat)<x)(D:x*((2^j:Nat):Rat)=W)(F:W<=((2^w:Nat):Rat)):j<e+1+w:=by
 have g:=two_pow_pos (e+1);have h:=two_pow_pos j;rcases aZ j (e+1+w)with q|q
 .exact q
 .exfalso;have hi:0<((2^(e+1):Nat):Rat)⁻¹:=gK.2 g;have f:((2^(e+1):Nat):Rat)*((2^(e+1):Nat):Rat)⁻¹=1:=lO _ O4;have l:((2^(e+1):Nat):Rat)*((2^w:Nat):Rat)<=((2^j:Nat):Rat):=by
   have:2^(e+1)*2^w<=2^j:=by rw [<-bW];exact dK O3 q
   exact_mod_cast this
  have n:((2^(e+1):Nat):Rat)⁻¹<x:=O4;have o:=bC (show 0<x-((2^(e+1):Nat):Rat)⁻¹ by grind) h;have s:=aL (dE hi) (show 0<=((2^j:Nat):Rat)-((2^(e+1):Nat):Rat)*((2^w:Nat):Rat) by grind);have u:((2^(e+1):Nat):Rat)⁻¹*(((2^(e+1):Nat):Rat)*((2^w:Nat):Rat))=((2^w:Nat):Rat):=by rw [<-kR,kL (((2^(e+1):Nat):Rat)⁻¹),f,oP]
  grind
structure NIn (xs:List Int) (s t:Rat) (j:Nat) (a b:R2):Prop where
 ex:∃Q W,Hv 34 Q j W a b/\W<=((2^34:Nat):Rat)
 lo:s<=qv a
 hi:qv b<=t
 l0:-((2^33:Nat):Rat)<=s
 h0:t<=((2^33:Nat):Rat)
 pa:0<=Zf xs (qv a)
 pb:0<=Zf xs (qv b)
 ng:Zzw xs (qv a) (qv b)
theorem rat34:((2^34:Nat):Rat)=2*((2^33:Nat):Rat)/\(1:Rat)<=((2^33:Nat):Rat):=by
 have h:∀n:Nat,((2^(n+1):Nat):Rat)=2*((2^n:Nat):Rat):=λn=>by rw [bX];push_cast;grind
 constructor
 .exact h 33
 .exact_mod_cast (show 1<=2^33 by decide)
theorem NIn.j{hi:Rat}{j:Nat}(g:Cvd xs)(f:xs≠[])(h:NIn xs lo hi j a b):j<5035:=by obtain⟨Q,W,l,n⟩:=h.ex;obtain⟨o,hs⟩:=Ypb g f;obtain⟨G,H⟩:=rat34;have u:=h.lo;have B:=h.hi;have D:=h.l0;have F:=h.h0;have:=Yqj (Zcb g f).1 o (K:=2^34) (e:=5000) hs (s:=qv a) (t:=qv b) O4 O4 h.pa h.pb h.ng;exact Ye5 (e:=5000) (w:=34) this l.wd n
theorem NIn.start(e:0<a.2)(f:0<b.2)(j:bl a.1.natAbs<=32)(F:bl a.2.natAbs<=32)(l:bl b.1.natAbs<=32)(G:bl b.2.natAbs<=32)(g:qv a<=qv b)(u:0<=Zf xs (qv a))(w:0<=Zf xs (qv b))(s:Zzw xs (qv a) (qv b)) :
  NIn xs (qv a) (qv b) 0 (slow a) (slow b):=by
 obtain⟨Q,o⟩:=Hv.start (n:=34) e f O O O O O g;obtain⟨-,-,-,-,h⟩:=Zcx 34 e O O O;obtain⟨-,-,-,-,t5⟩:=Zcx 34 f O O O;have B:=Zqz (K:=2^33) e (aB (eE ((Qo 32 _).1 j)) O3);have D:=Zqz (K:=2^33) f (aB (eE ((Qo 32 _).1 l)) O3);obtain⟨H,I⟩:=rat34;exact⟨⟨Q,_,o,O4⟩,by rw [h];exact gQ,by rw [t5];exact gQ,B.1,D.2,by rw [h];exact u,by rw [t5];exact w,by rw [h,t5];exact s⟩
structure Fnd (xs:List Int) (s t:Rat) (m:R2):Prop where
 ng:Zf xs (qv m)<0
 lo:s<=qv m
 hi:qv m<=t
 b1:bl m.1.natAbs<=5200
 b2:bl m.2.natAbs<=5200
 lw:Lw m
theorem NIn.round{hi:Rat}{j:Nat}(F:Cvd xs)(R:xs≠[])(h:NIn xs lo hi j a b) :
  Ze6 a b/\(bl (Ob a b).1.natAbs<=5200/\bl (Ob a b).2.natAbs<=5200/\0<(Ob a b).2)/\(bl a.1.natAbs<=5200/\bl a.2.natAbs<=5200/\0<a.2)/\(bl b.1.natAbs<=5200/\bl b.2.natAbs<=5200/\0<b.2)/\
  (vlu (Pn xs) (Ob a b)<0->Fnd xs lo hi (Ob a b))/\(¬vlu (Pn xs) (Ob a b)<0->ngb (Pn xs) (Ae xs) a (Ob a b)=true->NIn xs lo hi (j+1) a (Ob a b))/\
  (¬vlu (Pn xs) (Ob a b)<0->ngb (Pn xs) (Ae xs) a (Ob a b)=false->NIn xs lo hi (j+1) (Ob a b) b):=by
 have hj:=h.j F R;obtain⟨Q,W,w,D⟩:=h.ex;obtain⟨H,o,m3,u,I,Z,m7⟩:=w.mid (B:=5200) O O;have S:=w.le;have V:=h.lo;have Y:=h.hi;have G:=Zlb (xs:=xs) o.2.2;have n:¬vlu (Pn xs) (Ob a b)<0->0<=Zf xs (qv (Ob a b)):=λe=>by
  rw [G]at e;rcases Pj (Zf xs (qv (Ob a b)))with⟨f,g⟩|⟨f,g⟩|⟨f,g⟩
  .exact dE f
  .rw [g]at e;exact absurd O3 e
  .rw [f];exact gQ
 have l:=Zgu F u.2.2 o.2.2 (show qv a<=qv (Ob a b) by grind);refine⟨H,o,u,I,λe=>?_,λe s=>?_,λe s=>?_⟩
 .have:Zf xs (qv (Ob a b))<0:=by
   rw [G]at e;rcases Pj (Zf xs (qv (Ob a b)))with⟨f,g⟩|⟨f,g⟩|⟨f,g⟩
   .rw [g]at e;exact absurd e O3
   .exact f
   .rw [g]at e;exact absurd e O3
  exact⟨this,O4,O4,o.1,o.2.1,Ykq H u.2.2 I.2.2⟩
 .exact⟨⟨Q,W,Z,D⟩,V,O4,h.l0,h.h0,h.pa,n e,l.1 s⟩
 .refine⟨⟨Q,W,m7,D⟩,O4,Y,h.l0,h.h0,n e,h.pb,?_⟩;obtain⟨x,x1,x2,P⟩:=h.ng;rcases(show x<=qv (Ob a b)\/qv (Ob a b)<=x by grind)with q|q
  .have:=l.2 ⟨x,x1,q,P⟩;rw [s]at this;exact absurd this O3
  .exact⟨x,q,x2,P⟩
def frs(xs:List Int):Nat->R2->R2->R2×R2
 | 0,a,b=>(a,b)
 | n+1,a,b=>if ngb (Pn xs) (Ae xs) a (Ob a b)then frs xs n a (Ob a b)else frs xs n (Ob a b) b
structure E32 (a:R2):Prop where
 p:0<a.2
 b1:bl a.1.natAbs<=32
 b2:bl a.2.natAbs<=32
theorem E32.slow(h:E32 a):E32 (slow a)/\qv (Go.Sky.slow a)=qv a/\Lw (Go.Sky.slow a)/\¬Iq a.1 a.2:=by obtain⟨e,f,g,j,l⟩:=Zcx 32 h.p h.b1 h.b2 O;exact⟨⟨f,g,j⟩,l,Zrk h.p e,e⟩
theorem Zj3(g:0<m.2):vlu (Pn xs) m<0↔Zf xs (qv m)<0:=by
 rw [Zlb g];rcases Pj (Zf xs (qv m))with⟨f,e⟩|⟨f,e⟩|⟨f,e⟩
 .rw [e];constructor
  .intro h;exact absurd h O3
  .intro h;grind
 .rw [e];exact⟨λ_=>f,λ_=>O3⟩
 .rw [e,f];constructor
  .intro h;exact absurd h O3
  .intro h;grind
theorem end_l(l:E32 a)(e:qv a<=qv b)(h:vlu (Pn xs) (slow a)<0):Fnd xs (qv a) (qv b) (slow a):=by obtain⟨f,g,n,o⟩:=l.slow;have j:=(Zj3 f.p).1 h;exact⟨j,by rw [g];exact gQ,by rw [g];exact e,aB f.b1 O3,aB f.b2 O3,n⟩
theorem end_r(l:E32 b)(e:qv a<=qv b)(h:vlu (Pn xs) (slow b)<0):Fnd xs (qv a) (qv b) (slow b):=by obtain⟨f,g,n,o⟩:=l.slow;have j:=(Zj3 f.p).1 h;exact⟨j,by rw [g];exact e,by rw [g];exact gQ,aB f.b1 O3,aB f.b2 O3,n⟩
theorem Yfa(n:Cvd xs)(f:E32 a)(g:E32 b)(h:qv a<=qv b)(j:¬vlu (Pn xs) (slow a)<0)(l:¬vlu (Pn xs) (slow b)<0)(o:ngb (Pn xs) (Ae xs) a b=true) :
  NIn xs (qv a) (qv b) 0 (slow a) (slow b):=by
 obtain⟨w,B,D,F⟩:=f.slow;obtain⟨t1,t2,t3,t4⟩:=g.slow;have s:¬Zf xs (qv (slow a))<0:=λe=>j ((Zj3 w.p).2 e);have u:¬Zf xs (qv (slow b))<0:=λe=>l ((Zj3 t1.p).2 e);rw [B]at s;rw [t2]at u;exact NIn.start f.p g.p f.b1 f.b2 g.b1 g.b2 h O4 O4 ((Zgu n f.p g.p h).1 o)
theorem ngb_ne(h:ngb (Pn xs) (Ae xs) a b=true):xs≠[]:=λe=>by
 subst e;unfold ngb at h;split at h
 .exact absurd h (by show ¬decide ((0:Int)<0)=true;decide)
 .exact absurd h (by show ¬(decide ((0:Int)<0) || false)=true;decide)
theorem E32.efit(h:E32 a):efit a=true:=by have:=h.b1;have:=h.b2;unfold Go.Sky.efit;exact aK O
structure FIn (xs:List Int) (j:Nat) (a b:R2):Prop where
 ex:∃Q W,Hv 34 Q j W a b
 bj:j<=200
theorem FIn.start(e:E32 a)(f:E32 b)(g:qv a<=qv b):FIn xs 0 (slow a) (slow b):=by obtain⟨Q,h⟩:=Hv.start (n:=34) e.p f.p (aB e.b1 O3) (aB e.b2 O3) (aB f.b1 O3) (aB f.b2 O3) O g;exact⟨⟨Q,_,h⟩,O⟩
theorem FIn.round{j:Nat}(h:FIn xs j a b) :
  Ze6 a b/\(bl (Ob a b).1.natAbs<=5200/\bl (Ob a b).2.natAbs<=5200/\0<(Ob a b).2)/\(bl a.1.natAbs<=5200/\bl a.2.natAbs<=5200/\0<a.2)/\(bl b.1.natAbs<=5200/\bl b.2.natAbs<=5200/\0<b.2)/\
  (j<200->FIn xs (j+1) a (Ob a b)/\FIn xs (j+1) (Ob a b) b):=by
 obtain⟨Q,W,e⟩:=h.ex;have w:=h.bj;obtain⟨g,l,D,n,o,s,u⟩:=e.mid (B:=5200) O O;exact⟨g,l,n,o,λf=>⟨⟨⟨Q,W,s⟩,O⟩,⟨⟨Q,W,u⟩,O⟩⟩⟩
theorem Yqi(g:E32 a)(j:E32 b)(f:qv a<=qv b)(hi:i<2)(h:vlu (Pn xs) ([slow a,slow b].getD i (0,0))<0):Fnd xs (qv a) (qv b) ([slow a,slow b].getD i (0,0)):=by
 rcases(show i=0\/i=1 by omega)with e|e
 .subst e;exact end_l g f h
 .subst e;exact end_r j f h
theorem Yrh(f:E32 a)(g:E32 b)(i:Nat)(hi:i<2):E32 ([slow a,slow b].getD i (0,0)):=by
 rcases(show i=0\/i=1 by omega)with e|e
 .subst e;exact f.slow.1
 .subst e;exact g.slow.1
def Yr2(e:E32 a)(f:E32 b)(h:¬0<cmp a b):qv a<=qv b:=(Zsq e.p f.p).1 O
def Zjm:E32 (0,1):=⟨O3,O3,O3⟩
def Zjl:E32 (1,1):=⟨O3,O3,O3⟩
def Zhl:¬0<cmp (0,1) (1,1):=O5
def Ir(xs:List Int):Bool:=ngb (Pn xs) (Ae xs) (0,1) (1,1)
def slS(d:List Int):Nat->Int
 | 0=>0
 | k+1=>slS d k+Zai [d.getD k 0,(k:Int)+1]
def fsS(d:List Int)(k:Nat):Int:=if k=0 then 0 else d.getD 0 0
def qr(a b:Int):R2:=(Es a b,Fo a b)
def bgS(c:List Int):Int:=fsS (c.drop 1) (c.drop 1).length
def enS(c:List Int):Int:=slS (c.drop 1) (c.drop 1).length
def bS(ov T:Int)(x y z:List Int):Nat->List R2
 | 0=>List.replicate 3 (0,0)
 | i+1=>(bS ov T x y z i).set i (qr (bgS (Zu i x y z)) (Zai [ov,T]))
def eS(ov T:Int)(x y z:List Int):Nat->List R2
 | 0=>List.replicate 3 (0,0)
 | i+1=>(eS ov T x y z i).set i (qr (enS (Zu i x y z)) (Zai [ov,T]))
def joinB(fr h ov:Int)(x y z:List Int)(e g f:Int)(j l n:List Int):Bool:=
 decide (qr (bgS j) (Zai [f,g-e])=qr (enS x) (Zai [ov,h-fr])/\qr (bgS l) (Zai [f,g-e])=qr (enS y) (Zai [ov,h-fr])/\qr (bgS n) (Zai [f,g-e])=qr (enS z) (Zai [ov,h-fr]))
def plT(c:List Int)(a d:Int)(k:Nat):Int:=c.getD k 0*(a^k*d^(5-(k:Int)).toNat)
def plS(c:List Int)(a d:Int):Nat->Int
 | 0=>0
 | k+1=>plS c a d k+plT c a d k
def pl(c:List Int)(a d:Int):Int:=plS c a d c.length
def atS(a d:Int)(x y z:List Int):Nat->List Int
 | 0=>List.replicate 3 0
 | i+1=>(atS a d x y z i).set i (pl (Zu i x y z) a d)
def gS(ov a d:Int)(x y z:List Int):Nat->Int
 | 0=>ov*d^5
 | i+1=>(Int.gcd (gS ov a d x y z i) (pl (Zu i x y z) a d):Int)
abbrev plV (p q r o:Int):Value:= .agg #[.bool (decide (p<0)),.string (Qp p.natAbs),.bool (decide (q<0)),.string (Qp q.natAbs),.bool (decide (r<0)),.string (Qp r.natAbs),.bool (decide (o<0)),.string (Qp o.natAbs)]
theorem Bp(a d:Int)(x y z:List Int):∀i,(atS a d x y z i).length=3
 | 0=>rfl
 | i+1=>by show(List.set _ _ _).length=3;rw [bI];exact Bp a d x y z i
theorem Yno(a d:Int)(x y z:List Int)(h:i<3):atS a d x y z i=(atS a d x y z i).set i 0:=by
 match i,h with
 | 0,_=>rfl
 | 1,_=>rfl
 | 2,_=>rfl
theorem Zud{l:List Int}{v:Int}(h:i<l.length):(l.set i v).getD i 0=v:=by rw [aE,mS h];rfl
theorem Ybf(h:∀x∈c,Nz x){a:Int}(j:0<=a/\a<=3600000)(l:1<=d/\d<=3600000)(n:k<=5):(a^k*d^(5-(k:Int)).toNat).natAbs<=3600000^5/\(plT c a d k).natAbs<=9223372036854775808*3600000^5:=by
 have e:(a^k*d^(5-(k:Int)).toNat).natAbs<=3600000^5:=by rw [cJ,lP,lP];refine aB (aU (fV (show a.natAbs<=3600000 by omega) k) (fV (show d.natAbs<=3600000 by omega) _)) ?_;rw [<-bW,show k+(5-(k:Int)).toNat=5 by omega];exact aI _
 obtain⟨f,g⟩:=Lq h k;refine⟨e,?_⟩;unfold plT;rw [cJ];exact aU O e
theorem Ybh{c:List Int}(h:∀x∈c,Nz x){a d:Int}(e:0<=a/\a<=3600000)(f:1<=d/\d<=3600000):∀k,k<=6->(plS c a d k).natAbs<=k*(9223372036854775808*3600000^5)
 | 0,_=>by show(0:Int).natAbs<=_;decide
 | k+1,g=>by have j:=Ybh h e f k O;have:=(Ybf h e f (k:=k) O).2;show(plS c a d k+plT c a d k).natAbs<=_;rw [dA];omega
def Zds(h:∀x∈c,Nz x){a:Int}(f:0<=a/\a<=3600000)(g:1<=d/\d<=3600000)(e:k<=6):bl (plS c a d k).natAbs<=180:=
 (Qo 180 _).2 (bA (Ybh h f g k e) (bA (aJ _ e) O3))
theorem Zs8(h:∀x∈c,Nz x){a:Int}(g:0<=a/\a<=3600000)(j:1<=d/\d<=3600000)(l:k<=5):bl (a^k*d^(5-(k:Int)).toNat).natAbs<=180/\bl (plT c a d k).natAbs<=180:=by obtain⟨e,f⟩:=Ybf h g j l;exact⟨(Qo 180 _).2 (bA e O3),(Qo 180 _).2 (bA f O3)⟩
theorem Ziy (a:Int)(f:0<=a/\a<=3600000)(e:k<=5):bl (a^k).natAbs<=180:=by refine(Qo 180 _).2 ?_;rw [lP];exact bA (aB (fV (show a.natAbs<=3600000 by omega) k) (dK O3 e)) O3
theorem Zv6{fr l ov:Int}{x y z:List Int}(h:Sgo fr l ov x y z){a d:Int}(e:0<=a/\a<=3600000)(f:1<=d/\d<=3600000):∀i,0<gS ov a d x y z i/\bl (gS ov a d x y z i).natAbs<=180
 | 0=>by have g:=h.o1;have j:=h.o2;refine⟨iI O (kV O),(Qo 180 _).2 ?_⟩;show(ov*d^5).natAbs<_;rw [cJ,lP];exact bA (aU (show ov.natAbs<=4294967296 by omega) (fV (show d.natAbs<=3600000 by omega) 5)) O3
 | i+1=>by obtain⟨g,j⟩:=Zv6 h e f i;have n:0<Int.gcd (gS ov a d x y z i) (pl (Zu i x y z) a d):=lI _ O;have o:=Zk4 (gS ov a d x y z i) (pl (Zu i x y z) a d);have s:bl (pl (Zu i x y z) a d).natAbs<=180:=Zds (h.hc i) e f (h.lc i).2;show 0<((Int.gcd _ _:Nat):Int)/\bl ((Int.gcd _ _:Nat):Int).natAbs<=180;exact⟨O,O⟩
def sameP(ov a d:Int)(x y z:List Int)(e g f:Int)(h j l:List Int):Bool:=
 decide (pl x a d/gS ov a d x y z 3=pl h g f/gS e g f h j l 3/\pl y a d/gS ov a d x y z 3=pl j g f/gS e g f h j l 3/\pl z a d/gS ov a d x y z 3=pl l g f/gS e g f h j l 3/\ov*d^5/gS ov a d x y z 3=e*f^5/gS e g f h j l 3)
def Zmp(g ov:Int)(x y z:List Int)(e f:Int)(h j l:List Int):Bool:=decide (g=e) && sameP ov 1 1 x y z f 0 1 h j l
structure Gin (g:Zl):Prop where
 f:Nz g.1.1
 t:Nz g.1.2.1
 o:Nz g.1.2.2
 x:∀a∈g.2.1.2,Nz a
 y:∀a∈g.2.2.1.2,Nz a
 z:∀a∈g.2.2.2.2,Nz a
def seB(g:Zl):Bool:=Ba g.1.1 g.1.2.1 g.1.2.2 g.2.1.2 g.2.2.1.2 g.2.2.2.2
def meG(g h:Zl):Bool:=Zmp g.1.2.1 g.1.2.2 g.2.1.2 g.2.2.1.2 g.2.2.2.2 h.1.1 h.1.2.2 h.2.1.2 h.2.2.1.2 h.2.2.2.2
abbrev SgG (g:Zl):Prop:=Sgo g.1.1 g.1.2.1 g.1.2.2 g.2.1.2 g.2.2.1.2 g.2.2.2.2
def Lo{g:Zl}(h:Gin g)(e:seB g=true):SgG g:=Sgo.of h.x h.y h.z e
def Zev(ps:List Zl)(i:Nat):Bool:=seB (ps.getD i G0) && (decide (i=0) || meG (ps.getD (i-1) G0) (ps.getD i G0))
def Xl(ps:List Zl):Bool:=(List.range ps.length).all (Zev ps) && decide (1<=ps.length) && decide (ps.length<=256)
theorem Ew{ps:List Zl}(h:Zev ps i=true):seB (ps.getD i G0)=true:=by unfold Zev at h;rw [aR]at h;exact h.1
theorem Yj1{ps:List Zl}(h:seB (ps.getD i G0)=false):Zev ps i=false:=by unfold Zev;rw [h];rfl
theorem Yj2{ps:List Zl}(h:seB (ps.getD i G0)=true)(e:i=0):Zev ps i=true:=by unfold Zev;rw [h,aK e];rfl
theorem Zij{ps:List Zl}(h:seB (ps.getD i G0)=true)(e:0<i):Zev ps i=meG (ps.getD (i-1) G0) (ps.getD i G0):=by unfold Zev;rw [h,aN O];rfl
theorem Zgq (i:Nat){ps:List Zl}(hi:i<ps.length)(h:Zev ps i=false):Xl ps=false:=by
 unfold Xl;have:(List.range ps.length).all (Zev ps)=false:=by
  cases hb:(List.range ps.length).all (Zev ps)with
  | false=>rfl
  | true=>have:=cP.1 hb i (fR.2 hi);rw [h]at this;cases this
 rw [this];rfl
theorem Zkl{ps:List Zl}(h:∀i,i<ps.length->Zev ps i=true):Xl ps=decide (1<=ps.length/\ps.length<=256):=by unfold Xl;rw [cP.2 λi hi=>h i (fR.1 hi)];simp
theorem Zoz(g:Zl)(i:Nat):seB g=false\/(seB g=true/\i=0)\/(seB g=true/\0<i):=by
 cases seB g
 .exact .inl rfl
 .exact .inr (by rcases aW i with h|h;exact .inl ⟨rfl,h⟩;exact .inr ⟨rfl,h⟩)
theorem Nd{ps:List Zl}(h:Xl ps=true):(∀i,i<ps.length->Zev ps i=true)/\1<=ps.length/\ps.length<=256:=by unfold Xl at h;simp only [aR,dO]at h;exact⟨λi hi=>cP.1 h.1.1 i (fR.2 hi),h.1.2,h.2⟩
open Go.ChangeShapes Go.WideShapes Go.ChangeAt Go.RowKit Go.Joins Go.Deep
open Go.Proofs
variable {P:Program} {W:World} {H:Type} {enc:TypeId×Value->H}
theorem Zyq{n:Int}(h:(Lit.int .i64 n).wf=true):Nz n:=by simp [Lit.wf,IntKind.has,IntKind.min,IntKind.max,IntKind.bits,IntKind.signed]at h;exact⟨O,O⟩
theorem Yf9{w:World}{a:Addr}(h:w.cell? a=some v):a.spot=none/\a.block<w.heap.size:=by
 unfold World.cell? at h;split at h
 .rename_i c t f e;refine⟨?_,(aY.1 e).1⟩;cases hs:a.spot with
  | none=>rfl
  | some x=>rw [hs]at h;simp at h
 .cases h
theorem Zii{t e:TypeId}{c:Value}{x:DataW H×List MemPlace}(hs:P.underlying t=some (.slice e))(he:P.underlying e=some (.int .i64))(hc:P.cellsOf e=1)(h:DataW.trod enc P W 0 (λ_=>true) true fuel t [c]=some x) :
  ∃(s:SL) (l:List Int),c=Xm s/\(Yx 1 Yi (Xm s) l).holds W/\∀a∈l,Nz a:=by
 rcases open_ints hs he hc h with⟨D,_⟩|⟨a,f,n,zs,D,_,hl,hm,hz,_,o,a0⟩
 .cases D;exact⟨(none,0,0),[],rfl,Bz 1 Yi W,λx R=>by cases R⟩
 .cases D;have a1:zs.length=n:=by simpa using hz
  have F:(zs.take f).length=f:=by rw [aQ];omega
  by_cases hn:f=0
  .subst hn;exact⟨(some a,0,n),[],rfl,⟨⟨some a,n,rfl,hl,hm,.inl rfl⟩,λb S=>absurd rfl S.1⟩,λx R=>by cases R⟩
  .have c0:=o 0 O;obtain⟨g,w,B⟩:=a;rw [show(⟨g,w,B⟩:Addr).add 0=⟨g,w,B⟩from rfl]at c0;obtain⟨Q,I⟩:=Yf9 c0;simp only at Q I;subst Q;refine⟨(some ⟨g,w,none⟩,f,n),zs.take f,rfl,⟨⟨some ⟨g,w,none⟩,n,by rw [F],by rw [F];exact hl,hm,.inr ⟨g,w,rfl,λi x hi j u Y=>?_⟩⟩,λb S=>by cases S.2;exact I⟩,λx R=>?_⟩
   .have V:i<f:=by
     rcases aZ i f with h|h
     .exact h
     .rw [bF (by rw [F];exact h)]at hi;cases hi
    have Z:j=0:=by
     rcases j with _|j
     .rfl
     .simp [Value.cells]at Y
    subst Z;have G:=o i O;rw [Ok]at G;rw [mK V]at hi;rw [aE,hi]at G;simp [Value.cells]at Y;subst Y;simpa using G
   .have G:=a0 x (eV R);have h3:=bounds_i64 G;exact⟨O,O⟩
theorem Yeo {t e:TypeId} {f0 f1 f2 f3 f4 f5:Field} {cs:List Value}  {x:DataW H×List MemPlace} (ht:P.underlying t=some (.struct #[f0,f1,f2,f3,f4,f5]))
  (h0:f0.type=ti) (h1:f1.type=ti) (h2:f2.type=ti) (h3:f3.type=ts) (h4:f4.type=ts) (h5:f5.type=ts) (o0:f0.offset=0) (o1:f1.offset=1) (o2:f2.offset=2) (o3:f3.offset=3) (o4:f4.offset=4) (o5:f5.offset=5)
  (hi:P.underlying ti=some (.int .i64)) (hs:P.underlying ts=some (.slice e)) (w:P.underlying e=some (.int .i64)) (s:P.cellsOf e=1) (j:P.cellsOf ti=1) (l:P.cellsOf ts=1) (hC:P.cellsOf t=6)
  (h:DataW.trod enc P W 0 (λ_=>true) true fuel t cs=some x):∃g:Zl,cs=[.int .i64 g.1.1,.int .i64 g.1.2.1,.int .i64 g.1.2.2,Xm g.2.1.1,Xm g.2.2.1.1,Xm g.2.2.2.1]/\(qG g).holds W/\Gin g:=by
 obtain⟨xs,n,_,hx,hl,o,f⟩:=DataW.trod_struct ht h;rw [hC]at hl
 match cs,hl with
 | [c0,c1,c2,c3,c4,c5],_=>
 match xs,o with
 | [y0,y1,y2,y3,y4,y5],_=>
 have R:=f 0 f0 rfl;have S:=f 1 f1 rfl;have V:=f 2 f2 rfl;have Y:=f 3 f3 rfl;have Z:=f 4 f4 rfl;have e5:=f 5 f5 rfl;rw [h0,o0,j]at R;rw [h1,o1,j]at S;rw [h2,o2,j]at V;rw [h3,o3,l]at Y;rw [h4,o4,l]at Z;rw [h5,o5,l]at e5;obtain⟨m0,q0,w0⟩:=DataW.trod_int hi R;obtain⟨m1,q1,w1⟩:=DataW.trod_int hi S;obtain⟨m2,q2,w2⟩:=DataW.trod_int hi V;obtain⟨sx,x,rfl,B,D⟩:=Zii (enc:=enc) hs w s (c:=c3) (x:=y3) Y;obtain⟨sy,y,rfl,F,G⟩:=Zii (enc:=enc) hs w s (c:=c4) (x:=y4) Z;obtain⟨sz,z,rfl,I,Q⟩:=Zii (enc:=enc) hs w s (c:=c5) (x:=y5) e5;simp at q0 q1 q2;subst q0;subst q1;subst q2;exact⟨((m0,m1,m2),(sx,x),(sy,y),(sz,z)),rfl,λu hu=>by
  simp only [bE,dX,iF]at hu;rcases hu with rfl|rfl|rfl
  .exact B
  .exact F
  .exact I,⟨Zyq w0.2,Zyq w1.2,Zyq w2.2,D,G,Q⟩⟩
theorem Zpd {t0 t e:TypeId} {f0 f1 f2 f3 f4 f5:Field}  {d:DataW H} {p:List MemPlace} (l:P.underlying t0=some (.slice t)) (ht:P.underlying t=some (.struct #[f0,f1,f2,f3,f4,f5]))
  (h0:f0.type=ti) (h1:f1.type=ti) (h2:f2.type=ti) (h3:f3.type=ts) (h4:f4.type=ts) (h5:f5.type=ts) (o0:f0.offset=0) (o1:f1.offset=1) (o2:f2.offset=2) (o3:f3.offset=3) (o4:f4.offset=4) (o5:f5.offset=5)
  (hi:P.underlying ti=some (.int .i64)) (hs:P.underlying ts=some (.slice e)) (he:P.underlying e=some (.int .i64)) (hc:P.cellsOf e=1) (R:P.cellsOf ti=1) (S:P.cellsOf ts=1) (hC:P.cellsOf t=6)
  {r:Reach} {b0:Nat} (hv:Value.okWide P W r b0 t0 v) (h:DataW.Trod enc P W 0 (λ_=>true) true t0 v d p):∃ps:List Zl,(Xs 6 Qj qG v ps).holds W/\∀g∈ps,Gin g:=by
 obtain⟨a0,I,a6,rfl⟩:=okWide_slice l hv;obtain⟨fuel,hf⟩:=h;rcases open_slice l hf with⟨B,_⟩|⟨a,a4,a3,m,n,D,Pl,B,_,hl,hm,w,hx,V⟩
 .simp [Value.cells]at B;obtain⟨rfl,rfl,rfl⟩:=B;exact⟨[],⟨Bz 6 Qj W,λz hz=>by cases hz⟩,λg s=>by cases s⟩
 .simp [Value.cells]at B;obtain⟨rfl,rfl,rfl⟩:=B;simp at w;subst w
  haveI:Inhabited Zl:=⟨G0⟩
  obtain⟨xs,a1,G⟩:=Zjo (p:=λi (g:Zl)=>W.cells? 0 (a.add (i*6)) 6=some [.int .i64 g.1.1,.int .i64 g.1.2.1,.int .i64 g.1.2.2,Xm g.2.1.1,Xm g.2.2.1.1,Xm g.2.2.2.1]/\(qG g).holds W/\Gin g) I λi f=>by obtain⟨a7,k2,k3⟩:=V i O;rw [hC]at k2;obtain⟨g,rfl,k4,k5⟩:=Yeo ht h0 h1 h2 h3 h4 h5 o0 o1 o2 o3 o4 o5 hi hs he hc R S hC k3;exact⟨g,k2,k4,k5⟩
  have o:∀g∈xs,(qG g).holds W/\Gin g:=λg s=>by obtain⟨i,f,rfl⟩:=kX s;exact(G i _ (aM f)).2
  refine⟨xs,⟨⟨⟨some a,m,by rw [a1],O,hm,?_⟩,λb hb=>?_⟩,λg s=>(o g s).1⟩,λg s=>(o g s).2⟩
  .rcases aW I with hz|hz
   .exact .inl (aC O)
   .right;obtain⟨g,a2,a5⟩:=a;obtain⟨F,_⟩:=Zmf l hv;simp only at F;subst F;refine⟨g,a2,rfl,λi x f j u Y=>?_⟩;obtain⟨_,_,Q⟩:=World.cells?_some (G i x f).1;have Z:j<6:=by
     rcases aZ j 6 with h|h
     .exact h
     .rw [bF (by simp [Value.cells];omega)]at Y;cases Y
    have:=Q j Z;simp only [Ok]at this;rw [this];simpa [Value.cells]using Y
  .cases hb.2;exact(Zmf l hv).2
end Go.Sky
namespace Go.Proofs.YteikicbnfbgpnaaGreat
open Go Go.Joins Go.Sky
def Kh{a b:Bool}(h:a=true)(c:b=true):(a && b)=true:=by rw [h,c];rfl
def cf0:(λ(P:Program) (f:FuncId) (fn:Func) (s:ChangeSpec) (c:OpenClaim)=>c.wf (OpenSpec.ofChange s)) Tryz.checked.prog 11 Tryz.f11 Rows.separateNearestSpec Rows.separateNearestRow=true:=O6
def cf1:(λ(P:Program) (f:FuncId) (fn:Func) (s:ChangeSpec) (c:OpenClaim)=>laidOutB P) Tryz.checked.prog 11 Tryz.f11 Rows.separateNearestSpec Rows.separateNearestRow=true:=O6
def cf2:(λ(P:Program) (f:FuncId) (fn:Func) (s:ChangeSpec) (c:OpenClaim)=>mapsRowed P) Tryz.checked.prog 11 Tryz.f11 Rows.separateNearestSpec Rows.separateNearestRow=true:=O6
def cf3:(λ(P:Program) (f:FuncId) (fn:Func) (s:ChangeSpec) (c:OpenClaim)=>fn.params.all (P.readableRec ·)) Tryz.checked.prog 11 Tryz.f11 Rows.separateNearestSpec Rows.separateNearestRow=true:=O6
def cf4:(λ(P:Program) (f:FuncId) (fn:Func) (s:ChangeSpec) (c:OpenClaim)=>namedTie P c.named s.vars) Tryz.checked.prog 11 Tryz.f11 Rows.separateNearestSpec Rows.separateNearestRow=true:=O6
def cf5:(λ(P:Program) (f:FuncId) (fn:Func) (s:ChangeSpec) (c:OpenClaim)=>c.stops == []) Tryz.checked.prog 11 Tryz.f11 Rows.separateNearestSpec Rows.separateNearestRow=true:=O6
def cf6:(λ(P:Program) (f:FuncId) (fn:Func) (s:ChangeSpec) (c:OpenClaim)=>P.stops == []) Tryz.checked.prog 11 Tryz.f11 Rows.separateNearestSpec Rows.separateNearestRow=true:=O6
def cf7:(λ(P:Program) (f:FuncId) (fn:Func) (s:ChangeSpec) (c:OpenClaim)=>c.knobs == []) Tryz.checked.prog 11 Tryz.f11 Rows.separateNearestSpec Rows.separateNearestRow=true:=O6
def cf8:(λ(P:Program) (f:FuncId) (fn:Func) (s:ChangeSpec) (c:OpenClaim)=>P.stopKnobs == []) Tryz.checked.prog 11 Tryz.f11 Rows.separateNearestSpec Rows.separateNearestRow=true:=O6
def cf9:(λ(P:Program) (f:FuncId) (fn:Func) (s:ChangeSpec) (c:OpenClaim)=>c.inPlace == P.inPlace f) Tryz.checked.prog 11 Tryz.f11 Rows.separateNearestSpec Rows.separateNearestRow=true:=O6
def cf10:(λ(P:Program) (f:FuncId) (fn:Func) (s:ChangeSpec) (c:OpenClaim)=>c.unfollowed == P.unfollowed f) Tryz.checked.prog 11 Tryz.f11 Rows.separateNearestSpec Rows.separateNearestRow=true:=O6
def cf11:(λ(P:Program) (f:FuncId) (fn:Func) (s:ChangeSpec) (c:OpenClaim)=>c.recurses == P.recurses f) Tryz.checked.prog 11 Tryz.f11 Rows.separateNearestSpec Rows.separateNearestRow=true:=O6
def cf12:(λ(P:Program) (f:FuncId) (fn:Func) (s:ChangeSpec) (c:OpenClaim)=>c.named == P.varsNamed f) Tryz.checked.prog 11 Tryz.f11 Rows.separateNearestSpec Rows.separateNearestRow=true:=O6
def cf13:(λ(P:Program) (f:FuncId) (fn:Func) (s:ChangeSpec) (c:OpenClaim)=>(c.maps == (fn.params.toList ++ s.plain.varTypes P).any (P.mapsRec ·))) Tryz.checked.prog 11 Tryz.f11 Rows.separateNearestSpec Rows.separateNearestRow=true:=O6
def cf14:(λ(P:Program) (f:FuncId) (fn:Func) (s:ChangeSpec) (c:OpenClaim)=>(c.ifaces == (fn.params.toList ++ s.plain.varTypes P).any (P.ifacesRec ·))) Tryz.checked.prog 11 Tryz.f11 Rows.separateNearestSpec Rows.separateNearestRow=true:=O6
def cf15:(λ(P:Program) (f:FuncId) (fn:Func) (s:ChangeSpec) (c:OpenClaim)=>c.mapsOut == P.mapsAmong fn.resultTypes.toList) Tryz.checked.prog 11 Tryz.f11 Rows.separateNearestSpec Rows.separateNearestRow=true:=O6
def cf16:(λ(P:Program) (f:FuncId) (fn:Func) (s:ChangeSpec) (c:OpenClaim)=>(c.loops == (fn.params.toList ++ s.plain.varTypes P).any (P.loopsFrom ·))) Tryz.checked.prog 11 Tryz.f11 Rows.separateNearestSpec Rows.separateNearestRow=true:=O6
def cf17:(λ(P:Program) (f:FuncId) (fn:Func) (s:ChangeSpec) (c:OpenClaim)=>(c.wideKeys == (fn.params.toList ++ s.plain.varTypes P ++ fn.resultTypes.toList).any (P.wideKeysFrom ·))) Tryz.checked.prog 11 Tryz.f11 Rows.separateNearestSpec Rows.separateNearestRow=true:=O6
def cf18:(λ(P:Program) (f:FuncId) (fn:Func) (s:ChangeSpec) (c:OpenClaim)=>s.vars.all (P.varReadable ·)) Tryz.checked.prog 11 Tryz.f11 Rows.separateNearestSpec Rows.separateNearestRow=true:=O6
def cf19:(λ(P:Program) (f:FuncId) (fn:Func) (s:ChangeSpec) (c:OpenClaim)=>fn.resultTypes.all (λt=>P.readableRec t && decide (t<P.types.size))) Tryz.checked.prog 11 Tryz.f11 Rows.separateNearestSpec Rows.separateNearestRow=true:=O6
def cf20:(λ(P:Program) (f:FuncId) (fn:Func) (s:ChangeSpec) (c:OpenClaim)=>(c.ifacesOut == fn.resultTypes.toList.any (P.ifacesRec ·))) Tryz.checked.prog 11 Tryz.f11 Rows.separateNearestSpec Rows.separateNearestRow=true:=O6
def cf21:(λ(P:Program) (f:FuncId) (fn:Func) (s:ChangeSpec) (c:OpenClaim)=>(c.loopsOut == fn.resultTypes.toList.any (P.loopsFrom ·))) Tryz.checked.prog 11 Tryz.f11 Rows.separateNearestSpec Rows.separateNearestRow=true:=O6
def cf22:(λ(P:Program) (f:FuncId) (fn:Func) (s:ChangeSpec) (c:OpenClaim)=>c.plainKeys == P.plainKeys) Tryz.checked.prog 11 Tryz.f11 Rows.separateNearestSpec Rows.separateNearestRow=true:=O6
def cf23:(λ(P:Program) (f:FuncId) (fn:Func) (s:ChangeSpec) (c:OpenClaim)=>c.shortTexts.isNone) Tryz.checked.prog 11 Tryz.f11 Rows.separateNearestSpec Rows.separateNearestRow=true:=O6
def cf24:(λ(P:Program) (f:FuncId) (fn:Func) (s:ChangeSpec) (c:OpenClaim)=>P.stopsHeard) Tryz.checked.prog 11 Tryz.f11 Rows.separateNearestSpec Rows.separateNearestRow=true:=O6
def cf25:(λ(P:Program) (f:FuncId) (fn:Func) (s:ChangeSpec) (c:OpenClaim)=>P.mayEnter) Tryz.checked.prog 11 Tryz.f11 Rows.separateNearestSpec Rows.separateNearestRow=true:=O6
def cf26:(λ(P:Program) (f:FuncId) (fn:Func) (s:ChangeSpec) (c:OpenClaim)=>c.lifted == P.liftsFinal) Tryz.checked.prog 11 Tryz.f11 Rows.separateNearestSpec Rows.separateNearestRow=true:=O6
def cf27:(λ(P:Program) (f:FuncId) (fn:Func) (s:ChangeSpec) (c:OpenClaim)=>P.make == some c.make) Tryz.checked.prog 11 Tryz.f11 Rows.separateNearestSpec Rows.separateNearestRow=true:=O6
def cf28:(λ(P:Program) (f:FuncId) (fn:Func) (s:ChangeSpec) (c:OpenClaim)=>c.kinds == (if c.domain.isEmpty then []else fn.params.toList.map λt=>match P.underlying t with|some (.int k)=>some k|_=>none)) Tryz.checked.prog 11 Tryz.f11 Rows.separateNearestSpec Rows.separateNearestRow=true:=O6
def cf29:(λ(P:Program) (f:FuncId) (fn:Func) (s:ChangeSpec) (c:OpenClaim)=>c.pinned == c.pinnedBy) Tryz.checked.prog 11 Tryz.f11 Rows.separateNearestSpec Rows.separateNearestRow=true:=O6
def cf30:(λ(P:Program) (f:FuncId) (fn:Func) (s:ChangeSpec) (c:OpenClaim)=>(c.veiled == (fn.params.toList ++ s.plain.varTypes P ++ fn.resultTypes.toList).any (P.veiledRec ·))) Tryz.checked.prog 11 Tryz.f11 Rows.separateNearestSpec Rows.separateNearestRow=true:=O6
def cf31:(λ(P:Program) (f:FuncId) (fn:Func) (s:ChangeSpec) (c:OpenClaim)=>c.veiledFits P fn.params.toList (fn.params.toList ++ s.plain.varTypes P ++ fn.resultTypes.toList)) Tryz.checked.prog 11 Tryz.f11 Rows.separateNearestSpec Rows.separateNearestRow=true:=O6
set_option maxRecDepth 100000 in
def closed:joinedFacts Tryz.checked.prog 11 Tryz.f11 Rows.separateNearestSpec Rows.separateNearestRow=true:=(Kh (Kh (Kh (Kh (Kh (Kh (Kh (Kh (Kh (Kh (Kh (Kh (Kh (Kh (Kh (Kh (Kh (Kh (Kh (Kh (Kh (Kh (Kh (Kh (Kh (Kh (Kh (Kh (Kh (Kh (Kh cf0 cf1) cf2) cf3) cf4) cf5) cf6) cf7) cf8) cf9) cf10) cf11) cf12) cf13) cf14) cf15) cf16) cf17) cf18) cf19) cf20) cf21) cf22) cf23) cf24) cf25) cf26) cf27) cf28) cf29) cf30) cf31)
end Go.Proofs.YteikicbnfbgpnaaGreat
namespace Go.Sky
variable {P:Program} {N:Nat} {sc:Nat->Prop} {env env':Pw} {H H':Hp} {Q Q':Exit->Act->World->Prop} {M:Nat->Prop}
@[reducible] def lk2 {α:Type} : List (Nat×α)->Nat->Option α
 | [],_=>none
 | (k,v)::r,n=>match Nat.beq k n with
  | true=>some v
  | false=>lk2 r n
theorem Zym{α:Type} : ∀(e:List (Nat×α)) (n:Nat),lk2 e n=lk e n
 | [],_=>rfl
 | (k,v)::r,n=>by unfold lk2 lk;cases Nat.beq k n<;>simp [Zym r n]
@[reducible] def ev2 (e:Pw):Operand->Option Value
 | .tmp t=>lk2 e t
 | .const v=>some v
 | .global g=>some (.pointer (some ⟨g,0,none⟩))
 | .func f=>some (.func (.func f) #[] #[])
theorem ev2_eq(e:Pw)(x:Operand):ev2 e x=ev e x:=by cases x<;>simp [ev2,ev,Zym]
@[reducible] def nth {α:Type} : List α->Nat->Option α
 | [],_=>none
 | x::r,n=>match n with
  | 0=>some x
  | n+1=>nth r n
theorem Zye{α:Type} : ∀(l:List α) (n:Nat),nth l n=l[n]?
 | [],n=>by simp [nth]
 | x::r,0=>by simp [nth]
 | x::r,n+1=>by simp [nth,Zye r n]
@[reducible] def ltb (a b:Nat):Bool:=match Nat.ble b a with
 | true=>false
 | false=>true
theorem Ns{a b:Nat}(h:ltb a b=true):Nat.blt a b=true:=by
 unfold ltb at h;cases hb:Nat.ble b a with
 | true=>rw [hb]at h;cases h
 | false=>
  have d:¬b<=a:=λc=>by rw [nF c]at hb;cases hb
  show Nat.ble (a+1) b=true;exact nF O
@[reducible] def neb (a b:Nat):Bool:=match Nat.beq a b with
 | true=>false
 | false=>true
theorem Zcc{a b:Nat}(h:neb a b=true):a≠b:=λe=>by subst e;unfold neb at h;rw [Nat.beq_refl]at h;cases h
class Som {α:Type} (a:Option α) (b:outParam α):Prop where h:a=some b
instance {α:Type} {b:α} : Som (some b) b:=⟨rfl⟩
class TB (a:Bool):Prop where h:a=true
instance:TB true:=⟨rfl⟩
def Som.e{x:Operand}{v:Value}(h:Som (ev2 env x) v):ev env x=some v:=(ev2_eq env x).symm.trans h.h
def Som.l{α:Type}{e:List (Nat×α)}{n:Nat}{v:α}(h:Som (lk2 e n) v):lk e n=some v:=(Zym e n).symm.trans h.h
theorem Som.n{α:Type}{l:List α}{n:Nat}{v:α}(h:Som (nth l n) v):l.toArray[n]? = some v:=by have:=(Zye l n).symm.trans h.h;simpa using this
class AndO (s q:Prop) (r:outParam Prop):Prop where h:r->s/\q
instance (priority:=low) {s q:Prop} : AndO s q (s/\q):=⟨id⟩
instance {q:Prop} : AndO True q q:=⟨λh=>⟨aA,h⟩⟩
class Und (P:Program) (t:TypeId) (d:outParam TypeDesc):Prop where h:P.underlying t=some d
class Siz (P:Program) (t:TypeId) (k:outParam Nat):Prop where h:∀w,(sizeOf t).run P w= .ok k w
class Agg (P:Program) (t:TypeId) (b:outParam Bool):Prop where h:∀w,(isAgg t).run P w= .ok b w
class EncT {α:Type} (P:Program) (t:TypeId) (k:Nat) (enc:α->Value):Prop where h:Enc P t k enc
class RdI (P:Program) (H:Hp) (v:Value) (i:outParam Nat) {α:outParam Type} (k:outParam Nat) (enc:outParam (α->Value)) (xs:outParam (List α)):Prop where
 h:∃p,lk H i=some p/\Rd p k enc v xs
instance {α:Type} {v:Value} {i k:Nat} {enc:α->Value} {xs:List α} : RdI P ((i,Yx k enc v xs)::H) v i k enc xs:=⟨_,Yg _ _ _,Zr⟩
instance {α:Type} {v:Value} {i k:Nat} {enc:α->Value} {xs:List α} {e:TypeId} [h:EncT P e k enc]:RdI P ((i,Oa k e enc v xs)::H) v i k enc xs:=⟨_,Yg _ _ _,Yb h.h⟩
instance {β:Type} {v:Value} {i k:Nat} {enc:β->Value} {q:β->Pc} {zs:List β} : RdI P ((i,Xs k enc q v zs)::H) v i k enc zs:=⟨_,Yg _ _ _,Zc⟩
instance (priority:=low) {α:Type} {v:Value} {i j k:Nat} {p:Pc} {enc:α->Value} {xs:List α} [h:RdI P H v i k enc xs] [hn:TB (neb j i)]:RdI P ((j,p)::H) v i k enc xs:=
 ⟨by obtain⟨q,h1,h2⟩:=h.h;exact⟨q,by rw [Zx (Zcc hn.h)];exact h1,h2⟩⟩
class BxI (H:Hp) (b:Nat) (i:outParam Nat) (t:outParam TypeId) (l:outParam (List Value)):Prop where h:lk H i=some (box b t l.toArray)
instance {b i:Nat} {t:TypeId} {l:List Value} : BxI ((i,box b t l.toArray)::H) b i t l:=⟨Yg _ _ _⟩
instance (priority:=low) {b i j:Nat} {t:TypeId} {p:Pc} {l:List Value} [h:BxI H b i t l] [hn:TB (neb j i)]:BxI ((j,p)::H) b i t l:=⟨by rw [Zx (Zcc hn.h)];exact h.h⟩
class RxI (H:Hp) (b:Nat) (i:outParam Nat) (t:outParam TypeId) (l:outParam (List Value)):Prop where h:lk H i=some (Ky b t l.toArray)
instance {b i:Nat} {t:TypeId} {l:List Value} : RxI ((i,Ky b t l.toArray)::H) b i t l:=⟨Yg _ _ _⟩
instance (priority:=low) {b i j:Nat} {t:TypeId} {p:Pc} {l:List Value} [h:RxI H b i t l] [hn:TB (neb j i)]:RxI ((j,p)::H) b i t l:=⟨by rw [Zx (Zcc hn.h)];exact h.h⟩
class DI (P:Program) (N:Nat) (sc:Nat->Prop) (op:Go.Op) (env:Pw) (H:Hp) (v:outParam Value) (s:outParam Prop):Prop where
 h:s->∀{d:Option Tmp} {ty:TypeId} {pos:String} {af:Array Edge} {g:Option (Nat×Bool)},Lj P N sc ⟨d,op,ty,pos,af,g⟩ env H v
section
variable {x y c:Operand} {v u:Value} {t t':TypeId} {k:IntKind} {m n:Int}
instance [h:Som (ev2 env x) v]:DI P N sc (.move x) env H v True:=⟨λ_=>Za1 rfl h.e⟩
instance [h:Som (ev2 env x) v]:DI P N sc (.assign x) env H v True:=⟨λ_=>d_as rfl h.e⟩
instance {i:Nat} {vs:List Value} [h:Som (ev2 env x) (.tuple vs.toArray)] [h2:Som (nth vs i) v]:DI P N sc (.extract x i) env H v True:=⟨λ_=>Zy6 rfl h.e h2.n⟩
instance {ad:Addr} [h:Som (ev2 env x) (.pointer (some ad))]:DI P N sc (.nilCheck x) env H (.pointer (some ad)) True:=⟨λ_=>d_nc rfl h.e⟩
instance {p:Prop} [Decidable p] [h:Som (ev2 env x) (.bool (decide p))]:DI P N sc (.unOp .not t x) env H (.bool (decide (¬p))) True:=⟨λ_=>Ymc rfl h.e⟩
instance (priority:=low) {b:Bool} [h:Som (ev2 env x) (.bool b)]:DI P N sc (.unOp .not t x) env H (.bool (!b)) True:=⟨λ_=>Xi rfl h.e⟩
instance (priority:=high) [h:Som (ev2 env x) (.bool true)]:DI P N sc (.unOp .not t x) env H (.bool false) True:=⟨λ_=>Xi rfl h.e⟩
instance (priority:=high) [h:Som (ev2 env x) (.bool false)]:DI P N sc (.unOp .not t x) env H (.bool true) True:=⟨λ_=>Xi rfl h.e⟩
instance [h:Som (ev2 env c) (.bool true)] [h1:Som (ev2 env x) v]:DI P N sc (.pick c x y) env H v True:=⟨λ_=>Bt rfl h.e h1.e⟩
instance [h:Som (ev2 env c) (.bool false)] [h1:Som (ev2 env y) v]:DI P N sc (.pick c x y) env H v True:=⟨λ_=>Yrp rfl h.e h1.e⟩
instance [h:Som (ev2 env x) (.int k m)] [h1:Som (ev2 env y) (.int k n)]:DI P N sc (.binOp .lss t x y t') env H (.bool (decide (m<n))) True:=⟨λ_=>Yme rfl h.e h1.e⟩
instance [h:Som (ev2 env x) (.int k m)] [h1:Som (ev2 env y) (.int k n)]:DI P N sc (.binOp .leq t x y t') env H (.bool (decide (m<=n))) True:=⟨λ_=>d_leq rfl h.e h1.e⟩
instance [h:Som (ev2 env x) (.int k m)] [h1:Som (ev2 env y) (.int k n)]:DI P N sc (.binOp .gtr t x y t') env H (.bool (decide (n<m))) True:=⟨λ_=>Zbl rfl h.e h1.e⟩
instance [h:Som (ev2 env x) (.int k m)] [h1:Som (ev2 env y) (.int k n)]:DI P N sc (.binOp .geq t x y t') env H (.bool (decide (n<=m))) True:=⟨λ_=>d_geq rfl h.e h1.e⟩
instance [h:Som (ev2 env x) (.int k m)] [h1:Som (ev2 env y) (.int k n)]:DI P N sc (.binOp .eql t x y t') env H (.bool (decide (m=n))) True:=⟨λ_=>Ymf rfl h.e h1.e⟩
instance [h:Som (ev2 env x) (.int k m)] [h1:Som (ev2 env y) (.int k n)]:DI P N sc (.binOp .neq t x y t') env H (.bool (decide (m≠n))) True:=⟨λ_=>Zne rfl h.e h1.e⟩
instance {a b:Bool} [h:Som (ev2 env x) (.bool a)] [h1:Som (ev2 env y) (.bool b)] [h2:Und P t .bool]:DI P N sc (.binOp .eql t x y t') env H (.bool (a == b)) True:=⟨λ_=>d_eqb rfl h.e h1.e h2.h⟩
instance {a b:Bool} [h:Som (ev2 env x) (.bool a)] [h1:Som (ev2 env y) (.bool b)] [h2:Und P t .bool]:DI P N sc (.binOp .neq t x y t') env H (.bool (a != b)) True:=⟨λ_=>d_neb rfl h.e h1.e h2.h⟩
instance [h:Som (ev2 env x) (.int .i64 m)] [h1:Som (ev2 env y) (.int .i64 n)]:DI P N sc (.binOp .add t x y t') env H (.int .i64 (m+n)) (-9223372036854775808<=m+n/\m+n<=9223372036854775807):=⟨λs=>Ymh rfl h.e h1.e s⟩
instance [h:Som (ev2 env x) (.int .i64 m)] [h1:Som (ev2 env y) (.int .i64 n)]:DI P N sc (.binOp .sub t x y t') env H (.int .i64 (m-n)) (-9223372036854775808<=m-n/\m-n<=9223372036854775807):=⟨λs=>d_sub rfl h.e h1.e s⟩
instance [h:Som (ev2 env x) (.int .i64 m)] [h1:Som (ev2 env y) (.int .i64 n)]:DI P N sc (.binOp .mul t x y t') env H (.int .i64 (m*n)) (-9223372036854775808<=m*n/\m*n<=9223372036854775807):=⟨λs=>d_mul rfl h.e h1.e s⟩
instance {i kk:Nat} {α:Type} {enc:α->Value} {xs:List α} {e:TypeId} [h:Som (ev2 env x) v] [h1:RdI P H v i kk enc xs] [h2:Und P t (.slice e)]:DI P N sc (.call { callee:= .builtin .len,args:=#[x],argTypes:=#[t] }) env H (.int .i64 xs.length) True:=
 ⟨λ_=>by obtain⟨p,h3,h4⟩:=h1.h;exact d_len rfl h.e h3 h4 h2.h⟩
instance {s:ByteArray} [h:Som (ev2 env x) (.string s)] [h2:Und P t .string]:DI P N sc (.call { callee:= .builtin .len,args:=#[x],argTypes:=#[t] }) env H (.int .i64 s.size) True:=⟨λ_=>d_lens rfl h.e h2.h⟩
end
@[reducible] def eqb (a b:Nat):Bool:=match Nat.beq a b with
 | true=>true
 | false=>false
theorem eqb_eq{a b:Nat}(h:eqb a b=true):a=b:=by
 unfold eqb at h;cases hb:Nat.beq a b with
 | true=>exact dM hb
 | false=>rw [hb]at h;cases h
@[reducible] def lenq {α:Type} : List α->Nat->Bool
 | [],n=>match n with
  | 0=>true
  | _+1=>false
 | _::r,n=>match n with
  | 0=>false
  | n+1=>lenq r n
theorem Zg1{α:Type} : ∀{l:List α} {n:Nat},lenq l n=true->l.length=n
 | [],0,_=>rfl
 | [],n+1,h=>by simp [lenq]at h
 | _::r,0,h=>by simp [lenq]at h
 | _::r,n+1,h=>by have:=Zg1 (l:=r) (n:=n) (by simpa [lenq]using h);simp [this]
@[reducible] def fit0 {α β:Type} : List α->List β->Bool
 | _,[]=>true
 | l,_::vs=>match l with
  | []=>false
  | _::r=>fit0 r vs
@[reducible] def fits {α β:Type} : List α->Nat->List β->Bool
 | [],j,a=>match j with
  | 0=>fit0 ([]:List α) a
  | _+1=>false
 | x::r,j,a=>match j with
  | 0=>fit0 (x::r) a
  | j+1=>fits r j a
theorem Zr2{α β:Type} : ∀{vs:List β} {l:List α},fit0 l vs=true->vs.length<=l.length
 | [],_,_=>O7
 | _::vs,[],h=>by simp [fit0]at h
 | _::vs,_::r,h=>by have:=Zr2 (vs:=vs) (l:=r) (by simpa [fit0]using h);simp;omega
theorem Ycf{α β:Type} : ∀{l:List α} {j:Nat} {vs:List β},fits l j vs=true->j+vs.length<=l.length
 | [],0,vs,h=>by have:=Zr2 (by simpa [fits]using h);simpa using this
 | [],j+1,vs,h=>by simp [fits]at h
 | x::r,0,vs,h=>by have:=Zr2 (l:=x::r) (by simpa [fits]using h);simpa using this
 | x::r,j+1,vs,h=>by have:=Ycf (l:=r) (j:=j) (by simpa [fits]using h);simp;omega
@[reducible] def seg {α:Type} : List α->Nat->Nat->List α
 | [],_,_=>[]
 | x::r,j,k=>match j with
  | j+1=>seg r j k
  | 0=>match k with
   | 0=>[]
   | k+1=>x::seg r 0 k
theorem Zka{α:Type} : ∀(l:List α) (j k n:Nat) (u:α),(seg l j k)[n]? = some u->l[j+n]? = some u
 | [],_,_,_,_,h=>by simp [seg]at h
 | x::r,j+1,k,n,u,h=>by have:=Zka r j k n u (by simpa [seg]using h);rw [show j+1+n=(j+n)+1 by omega];simpa using this
 | x::r,0,0,n,u,h=>by simp [seg]at h
 | x::r,0,k+1,0,u,h=>by simpa [seg]using h
 | x::r,0,k+1,n+1,u,h=>by have:=Zka r 0 k n u (by simpa [seg]using h);rw [cC]at this ⊢;simpa using this
class LEv {α:Type} (l:List α) (r:outParam (List α)):Prop where h:l=r
instance {α:Type} : LEv ([]:List α) []:=⟨rfl⟩
instance {α:Type} {a:α} {l r:List α} [h:LEv l r]:LEv (a::l) (a::r):=⟨by rw [h.h]⟩
class AddN (a b:Nat) (c:outParam Nat):Prop where h:a+b=c
instance (priority:=low) {a b:Nat} : AddN a b (a+b):=⟨rfl⟩
instance {b:Nat} : AddN 0 b b:=⟨cC b⟩
instance {a:Nat} : AddN a 0 a:=⟨rfl⟩
class Df (α:Type) (d:outParam α):Prop where t:True
instance:Df Int 0:=⟨aA⟩
instance:Df Nat 0:=⟨aA⟩
section
variable {x y:Operand} {v u:Value} {t tb:TypeId} {b j i k f:Nat} {l vs ws:List Value}
instance [h:Som (ev2 env x) (.pointer (some ⟨b,j,none⟩))] [h1:Agg P t false] [h2:BxI H b i tb l] [h3:Som (nth l j) v]:DI P N sc (.load t x) env H v True:=⟨λ_=>Yf7 _ rfl h.e h2.h h1.h h3.n⟩
instance [h:Som (ev2 env x) (.pointer (some ⟨b,j,none⟩))] [h1:Agg P t true] [h2:BxI H b i tb l] [h4:Siz P t k] [h3:LEv (seg l j k) vs] [h5:TB (lenq vs k)]:DI P N sc (.load t x) env H (.agg vs.toArray) True:=
 ⟨λ_=>Ycy _ rfl h.e h2.h h1.h h4.h (Zg1 h5.h) (λn u hu=>by rw [<-h3.h]at hu;simpa using Zka l j k n u hu)⟩
instance [h:Som (ev2 env x) (.pointer (some ⟨b,j,none⟩))] [h1:Agg P t false] [h2:RxI H b i tb l] [h3:Som (nth l j) v]:DI P N sc (.load t x) env H v True:=⟨λ_=>d_lr rfl h.e h2.h h1.h h3.n⟩
instance [h:Som (ev2 env x) (.pointer (some ⟨b,j,none⟩))] [h1:Agg P t true] [h2:RxI H b i tb l] [h4:Siz P t k] [h3:LEv (seg l j k) vs] [h5:TB (lenq vs k)]:DI P N sc (.load t x) env H (.agg vs.toArray) True:=
 ⟨λ_=>d_lra rfl h.e h2.h h1.h h4.h (Zg1 h5.h) (λn u hu=>by rw [<-h3.h]at hu;simpa using Zka l j k n u hu)⟩
instance {fs:List Field} {c q bo:Nat} {nm tag pk:String} {ft:TypeId} {em:Bool} [h:Som (ev2 env x) (.pointer (some ⟨b,j,none⟩))] [h1:Und P t (.struct fs.toArray)] [h2:Som (nth fs f) ⟨nm,ft,q,em,tag,pk,bo⟩] [h3:Siz P ft k] [h5:TB (neb k 0)] [h4:AddN j q c] :
  DI P N sc (.fieldAddr t x f) env H (.pointer (some ⟨b,c,none⟩)) True:=⟨λ_=>by
 obtain⟨k,rfl⟩:=Nat.exists_eq_succ_of_ne_zero (Zcc h5.h);exact d_fa rfl h.e h1.h h2.n h3.h rfl h4.h⟩
instance {α:Type} {enc:α->Value} {xs:List α} {e:TypeId} {kd:IntKind} {n:Nat} [h:Som (ev2 env x) v] [h1:Som (ev2 env y) (.int kd (n:Int))] [h2:RdI P H v i k enc xs] [h3:Und P t (.slice e)] [h4:Siz P e k] :
  DI P N sc (.indexAddr t x y) env H (.pointer (some (ead v n k))) (n<xs.length):=⟨λs=>by obtain⟨p,h5,h6⟩:=h2.h;exact Zv _ _ rfl h.e h1.e h5 h6 h3.h h4.h rfl s⟩
instance {α:Type} {enc:α->Value} {xs:List α} {e:TypeId} {kd:IntKind} {n:Nat} [h:Som (ev2 env x) v] [h1:Som (ev2 env y) (.int kd (@OfNat.ofNat Int n (@instOfNat n)))] [hl:TB (eqb n n)] [h2:RdI P H v i k enc xs] [h3:Und P t (.slice e)] [h4:Siz P e k] :
  DI P N sc (.indexAddr t x y) env H (.pointer (some (ead v (@OfNat.ofNat Nat n (instOfNatNat n)) k))) (@OfNat.ofNat Nat n (instOfNatNat n)<xs.length):=⟨λs=>by obtain⟨p,h5,h6⟩:=h2.h;exact Zv _ _ rfl h.e h1.e h5 h6 h3.h h4.h rfl s⟩
instance {α:Type} {enc:α->Value} {xs:List α} {n:Nat} {d0:α} [h:Som (ev2 env x) (.pointer (some (ead v n k)))] [h2:RdI P H v i k enc xs] [h3:EncT P t k enc] [h4:Df α d0] :
  DI P N sc (.load t x) env H (enc (xs.getD n d0)) (n<xs.length):=⟨λs=>by obtain⟨p,h5,h6⟩:=h2.h;exact Yz _ d0 rfl h.e h5 h6 h3.h s⟩
instance {fs:List Field} {q bo:Nat} {nm tag pk:String} {ft:TypeId} {em:Bool} [h:Som (ev2 env x) (.agg l.toArray)] [h1:Und P t (.struct fs.toArray)] [h2:Som (nth fs f) ⟨nm,ft,q,em,tag,pk,bo⟩] [h3:Agg P ft false] [h4:Som (nth l q) v] :
  DI P N sc (.field t x f) env H v True:=⟨λ_=>d_fld rfl h.e h1.h h2.n h3.h h4.n⟩
end
class Adv (n:Nat) (p:Prop) (q:outParam Prop):Prop where h:q->p
def go(n:Nat){p q:Prop}[h:Adv n p q](k:q):p:=h.h k
@[reducible] def dsto (l:List Oper) (j:Nat):Option Nat:=match nth l j with
 | some o=>o.dst
 | none=>none
theorem Ck{l:List Oper}{j e:Nat}(h:Som (dsto l j) e):(l.toArray[j]?).bind (·.dst)=some e:=by
 have h:=h.h;unfold dsto at h;rw [Zye]at h;simp only [List.getElem?_toArray];cases hb:l[j]? with
 | none=>rw [hb]at h;cases h
 | some o=>rw [hb]at h;exact h
section
variable {n:Nat} {q r s:Prop} {c x y:Code} {id:Nat} {l:List Oper} {ops:Array Oper} {rest:List Oper} {d j t:Nat} {op:Go.Op} {ty:TypeId} {pos:String} {af:Array Edge} {v:Value} {e:Exit} {b:Bool}
instance {p:Prop} : Adv 0 p p:=⟨λk=>k⟩
instance [h:Adv n (E P N sc x (Exit.then (y.wp P Q) Q) env H) q]:Adv (n+1) (E P N sc (.seq x y) Q env H) q:=⟨λk=>e_seq (h.h k)⟩
instance [h:Adv n (L P N sc l.toArray l Q env H) q]:Adv (n+1) (E P N sc (.region id l.toArray false) Q env H) q:=⟨λk=>e_reg (h.h k)⟩
instance [h:Adv n (X N sc .normal Q env H) q]:Adv (n+1) (E P N sc .skip Q env H) q:=⟨λk=>e_skip (h.h k)⟩
instance [h:Adv n (E P N sc c (Exit.inBlock id Q) env H) q]:Adv (n+1) (E P N sc (.block id c) Q env H) q:=⟨λk=>Yrg (h.h k)⟩
instance [h:Adv n (X N sc (.exit id) Q env H) q]:Adv (n+1) (E P N sc (.exit id) Q env H) q:=⟨λk=>e_exit (h.h k)⟩
instance [h:Adv n (X N sc .ret Q env H) q]:Adv (n+1) (E P N sc .ret Q env H) q:=⟨λk=>e_ret (h.h k)⟩
instance {o:Operand} [h1:Som (ev2 env o) (.bool true)] [h:Adv n (E P N sc x Q env H) q]:Adv (n+1) (E P N sc (.cond o x y) Q env H) q:=⟨λk=>Yre h1.e (h.h k)⟩
instance {o:Operand} [h1:Som (ev2 env o) (.bool false)] [h:Adv n (E P N sc y Q env H) q]:Adv (n+1) (E P N sc (.cond o x y) Q env H) q:=⟨λk=>Yrf h1.e (h.h k)⟩
instance [h:Adv n (E P N sc y Q env H) q]:Adv (n+1) (X N sc .normal (Exit.then (y.wp P Q) Q) env H) q:=⟨λk=>x_then (h.h k)⟩
instance {K:Act->World->Prop} [h:Adv n (X N sc .ret Q env H) q]:Adv (n+1) (X N sc .ret (Exit.then K Q) env H) q:=⟨λk=>x_ret (h.h k)⟩
instance {K:Act->World->Prop} [h:Adv n (X N sc (.exit id) Q env H) q]:Adv (n+1) (X N sc (.exit id) (Exit.then K Q) env H) q:=⟨λk=>x_exit (h.h k)⟩
instance [h:Adv n (X N sc .normal Q env H) q]:Adv (n+1) (X N sc .normal (Exit.inBlock id Q) env H) q:=⟨λk=>x_bn (h.h k)⟩
instance [h:Adv n (X N sc .ret Q env H) q]:Adv (n+1) (X N sc .ret (Exit.inBlock id Q) env H) q:=⟨λk=>x_br (h.h k)⟩
instance [h:Adv n (X N sc .normal Q env H) q]:Adv (n+1) (X N sc (.exit id) (Exit.inBlock id Q) env H) q:=⟨λk=>x_be (h.h k)⟩
instance (priority:=low) {id':Nat} [hn:TB (neb id' id)] [h:Adv n (X N sc (.exit id') Q env H) q]:Adv (n+1) (X N sc (.exit id') (Exit.inBlock id Q) env H) q:=⟨λk=>x_bo (Zcc hn.h) (h.h k)⟩
instance [h:Adv n (X N sc .normal Q env H) q]:Adv (n+1) (L P N sc ops [] Q env H) q:=⟨λk=>Zjj (h.h k)⟩
instance [h1:DI P N sc op env H v s] [h2:TB (ltb d N)] [h:Adv n (L P N sc ops rest Q ((d,v)::env) H) q] [h3:AndO s q r]:Adv (n+1) (L P N sc ops (⟨some d,op,ty,pos,af,none⟩::rest) Q env H) r:=
 ⟨λk=>dt (h1.h (h3.h k).1) (h.h (h3.h k).2) (Ns h2.h)⟩
instance [hj:Som (dsto l j) t] [hg:Som (lk2 env t) (.bool b)] [h4:TB (ltb t N)] [h1:DI P N sc op env H v s] [h2:TB (ltb d N)] [h:Adv n (L P N sc l.toArray rest Q ((d,v)::env) H) q] [h3:AndO s q r]:Adv (n+1) (L P N sc l.toArray (⟨some d,op,ty,pos,af,some (j,b)⟩::rest) Q env H) r:=
 ⟨λk=>Ej (h1.h (h3.h k).1) (Ck hj) hg.l (h.h (h3.h k).2) (Ns h4.h) (Ns h2.h)⟩
instance [hj:Som (dsto l j) t] [hg:Som (lk2 env t) (.bool false)] [h4:TB (ltb t N)] [h2:TB (ltb d N)] [h:Adv n (L P N sc l.toArray rest Q ((d,undef)::env) H) q]:Adv (n+1) (L P N sc l.toArray (⟨some d,op,ty,pos,af,some (j,true)⟩::rest) Q env H) q:=
 ⟨λk=>gsk (Ck hj) hg.l rfl (Ns h4.h) (Ns h2.h) (h.h k)⟩
instance [hj:Som (dsto l j) t] [hg:Som (lk2 env t) (.bool true)] [h4:TB (ltb t N)] [h2:TB (ltb d N)] [h:Adv n (L P N sc l.toArray rest Q ((d,undef)::env) H) q]:Adv (n+1) (L P N sc l.toArray (⟨some d,op,ty,pos,af,some (j,false)⟩::rest) Q env H) q:=
 ⟨λk=>gsk (Ck hj) hg.l rfl (Ns h4.h) (Ns h2.h) (h.h k)⟩
instance [hj:Som (dsto l j) t] [hg:Som (lk2 env t) undef] [h2:TB (ltb d N)] [h:Adv n (L P N sc l.toArray rest Q ((d,undef)::env) H) q]:Adv (n+1) (L P N sc l.toArray (⟨some d,op,ty,pos,af,some (j,b)⟩::rest) Q env H) q:=
 ⟨λk=>gsku (Ck hj) hg.l (Ns h2.h) (h.h k)⟩
end
end Go.Sky
namespace Go.Sky
variable {P:Program} {N:Nat} {sc:Nat->Prop} {env env':Pw} {H H':Hp} {Q Q':Exit->Act->World->Prop} {M:Nat->Prop}
class Hw (w0:World) (sc:Nat->Prop):Prop where h:∀b,w0.heap.size<=b->sc b
class EvI (env:Pw) (xs:List Operand) (vs:outParam (List Value)):Prop where h:EvL env xs vs
instance:EvI env [] []:=⟨aA⟩
instance {x:Operand} {r:List Operand} {v:Value} {vs:List Value} [h:Som (ev2 env x) v] [h2:EvI env r vs]:EvI env (x::r) (v::vs):=⟨⟨h.e,h2.h⟩⟩
class CalF (P:Program) (f:FuncId):Prop where h:∀args w,(callFunc f args).run P w= .ok (.enter f args) w
class AddI (n:Nat) (l:List Pc) (H:Hp) (H':outParam Hp):Prop where h:adds n l H=H'
instance {n:Nat} : AddI n [] H H:=⟨rfl⟩
instance {n:Nat} {p:Pc} {r:List Pc} [h:AddI (n+1) r H H']:AddI n (p::r) H ((n,p)::H'):=⟨by rw [<-h.h]⟩
class PreL (P:Program) (H:Hp) (al:Bool) (ids:List Nat) (pre:outParam (List Pc)):Prop where h:PreOk H al pre
class RoI (p:Pc):Prop where h:p.own=false
instance {α:Type} {k:Nat} {enc:α->Value} {v:Value} {xs:List α} : RoI (Yx k enc v xs):=⟨rfl⟩
instance {β:Type} {k:Nat} {enc:β->Value} {q:β->Pc} {v:Value} {zs:List β} : RoI (Xs k enc q v zs):=⟨rfl⟩
instance {b:Nat} {t:TypeId} {cs:Array Value} : RoI (Ky b t cs):=⟨rfl⟩
class LnI (P:Program) (al:Bool) (i:Nat) (p:Pc) (q:outParam Pc):Prop where
 h:i≠0->∀{H r},lk H i=some p->PreOk H al r->PreOk H al (q::r)
theorem Zw9{i:Nat}(h:i≠0):Nat.beq i 0=false:=by
 cases hb:Nat.beq i 0 with
 | true=>exact absurd (dM hb) h
 | false=>rfl
instance {al:Bool} {i:Nat} {p:Pc} [h:RoI p]:LnI P al i p p:=⟨λh0 _ _ hi hr=>Zk i hi (Zw9 h0) h.h hr⟩
instance {α:Type} {i k:Nat} {e:TypeId} {enc:α->Value} {v:Value} {xs:List α} [h:EncT P e k enc]:LnI P false i (Oa k e enc v xs) (Yx k enc v xs):=⟨λh0 _ _ hi hr=>Yjc i hi (Zw9 h0) h.h hr⟩
instance {i b:Nat} {t:TypeId} {cs:Array Value} : LnI P false i (box b t cs) (Ky b t cs):=⟨λh0 _ _ hi hr=>Zig i hi (Zw9 h0) hr⟩
instance {al:Bool} : PreL P H al [] []:=⟨aA⟩
instance {al:Bool} {i:Nat} {ids:List Nat} {p q:Pc} {r:List Pc} [h:Som (lk2 H i) p] [h0:TB (neb i 0)] [h1:LnI P al i p q] [h2:PreL P H al ids r]:PreL P H al (i::ids) (q::r):=⟨h1.h (Zcc h0.h) h.l h2.h⟩
theorem T.conv{o:Oper}{G:Type}{φ:G->Prop}{c:G->Pw}{a b:G->Hp}(h:T P N sc M o env H φ c a)(d:∀g,a g=b g):T P N sc M o env H φ c b:=by rw [show b=a from(funext d).symm];exact h
section
variable {f:FuncId} {xs:List Operand} {ats:Array TypeId} {d:Nat} {vs fs us:List Value} {pre:List Pc} {al:Bool} {G:Type} {φ:G->Prop} {Yn:G->Value} {its:G->List Pc} {w0:World} {M0:Nat->Prop} {ty:TypeId} {pos:String} {af:Array Edge} {g:Option (Nat×Bool)}
def Zm(n:Nat)(a:List Nat)(c:Cal P f vs.toArray pre al φ Yn its){b:G->Hp}[hx:EvI env xs vs][hf:CalF P f][hp:PreL P H al a pre][h0:Som (lk2 H 0) (Yt w0 M0)][hN:TB (ltb d N)][hw:Hw w0 sc][ha:∀g,AddI n (its g) H (b g)] :
  T P N sc M ⟨some d,.call { callee:= .value (.func f),args:=xs.toArray,argTypes:=ats },ty,pos,af,g⟩ env H φ (λg=>(d,Yn g)::env) b:=
 (Xc n c rfl rfl (Ns hN.h) hx.h hf.h hp.h h0.l hw.h).conv λg=>(ha g).h
class On1 (P:Program) (N:Nat) (sc:Nat->Prop) (env:Pw) (H:Hp) (v:Value):Prop where h:One N sc env H v
instance {k:IntKind} {n:Int} : On1 P N sc env H (.int k n):=⟨Yj rfl⟩
instance {b:Bool} : On1 P N sc env H (.bool b):=⟨Yj rfl⟩
instance {s:ByteArray} : On1 P N sc env H (.string s):=⟨Yj rfl⟩
instance {a:Option Addr} : On1 P N sc env H (.pointer a):=⟨Yj rfl⟩
instance {a:Option Addr} {m n:Nat} : On1 P N sc env H (.slice a m n):=⟨Yj rfl⟩
instance (priority:=low) {α:Type} {i k:Nat} {v:Value} {enc:α->Value} {ys:List α} [h:RdI P H v i k enc ys]:On1 P N sc env H v:=⟨by obtain⟨p,h1,h2⟩:=h.h;exact On _ h1 h2⟩
class OnL (P:Program) (N:Nat) (sc:Nat->Prop) (env:Pw) (H:Hp) (l:List Value):Prop where h:∀u∈l,One N sc env H u
instance:OnL P N sc env H []:=⟨λ_ h=>nomatch h⟩
instance {v:Value} {l:List Value} [h:On1 P N sc env H v] [h2:OnL P N sc env H l]:OnL P N sc env H (v::l):=⟨λu hu=>by
 cases hu with
 | head=>exact h.h
 | tail _ hu=>exact h2.h u hu⟩
class CeI (P:Program) (N:Nat) (sc:Nat->Prop) (env:Pw) (H:Hp) (v:Value) (l:outParam (List Value)):Prop where
 h:∀a w,Sat N sc env H a w->v.cells=l.toArray
 o:∀u∈l,One N sc env H u
instance {l:List Value} [h:OnL P N sc env H l]:CeI P N sc env H (.agg l.toArray) l:=⟨λ_ _ _=>rfl,h.h⟩
instance (priority:=low) {v:Value} [h:On1 P N sc env H v]:CeI P N sc env H v [v]:=⟨λa w hs=>Yd (h.h a w hs),λu hu=>by rw [bO.1 hu];exact h.h⟩
class ClI (v:Value) (l:outParam (List Value)):Prop where h:v.cells=l.toArray
instance {l:List Value} : ClI (.agg l.toArray) l:=⟨rfl⟩
instance {k:IntKind} {n:Int} : ClI (.int k n) [.int k n]:=⟨rfl⟩
instance {b:Bool} : ClI (.bool b) [.bool b]:=⟨rfl⟩
instance {s:ByteArray} : ClI (.string s) [.string s]:=⟨rfl⟩
instance {a:Option Addr} : ClI (.pointer a) [.pointer a]:=⟨rfl⟩
instance {a:Option Addr} {m n:Nat} : ClI (.slice a m n) [.slice a m n]:=⟨rfl⟩
class Zer (P:Program) (t:TypeId) (z:outParam Value):Prop where h:∀w,(zeroValue t).run P w= .ok z w
variable {t tb:TypeId} {l l':List Value} {v z:Value} {x y:Operand} {i j k b:Nat}
def Ya(n:Nat)[hz:Zer P t z][hc:ClI z l][h0:Som (lk2 H 0) (Yt w0 M0)][hN:TB (ltb d N)][hw:Hw w0 sc] :
  T P N sc M ⟨some d,.alloc t,ty,pos,af,g⟩ env H (G:=Nat) (λ_=>True) (λb=>(d,.pointer (some ⟨b,0,none⟩))::env) (λb=>(n,box b t l.toArray)::H):=Zj5 _ rfl rfl (Ns hN.h) hz.h hc.h h0.l hw.h
def Yr(n:Nat)[hx:Som (ev2 env x) v][hc:ClI v l][h0:Som (lk2 H 0) (Yt w0 M0)][hN:TB (ltb d N)][hw:Hw w0 sc] :
  T P N sc M ⟨some d,.box t x,ty,pos,af,g⟩ env H (G:=Nat) (λ_=>True) (λb=>(d,.pointer (some ⟨b,0,none⟩))::env) (λb=>(n,box b t l.toArray)::H):=t_box rfl rfl (Ns hN.h) hx.e hc.h h0.l hw.h
@[reducible] def lay2 {α:Type} : List α->Nat->List α->List α
 | [],_,_=>[]
 | c::r,j,vs=>match j with
  | j+1=>c::lay2 r j vs
  | 0=>match vs with
   | []=>c::r
   | v::vs=>v::lay2 r 0 vs
theorem Zrt{α:Type} : ∀(l:List α) (j:Nat) (vs:List α),j+vs.length<=l.length->lay2 l j vs=l.take j ++ vs ++ l.drop (j+vs.length)
 | [],j,vs,h=>by have a:vs=[]:=aC (by simp only [fC]at h;omega);subst a;simp [lay2]
 | c::r,j+1,vs,h=>by rw [show j+1+vs.length=(j+vs.length)+1 by omega];simp only [lay2,kY,nT,iO];rw [Zrt r j vs (by simp at h;omega)]
 | c::r,0,[],h=>by simp [lay2]
 | c::r,0,v::vs,h=>by
  have e:0+vs.length<=r.length:=by simp only [dV]at h;omega
  have:=Zrt r 0 vs e;simp only [lay2,this,cC,dS,jB,dV,nT,iO]
theorem Yg2 [hx:Som (ev2 env x) (.pointer (some ⟨b,j,none⟩))] [hy:Som (ev2 env y) v] [hB:BxI H b i tb l] [hi:TB (neb i 0)] [hv:CeI P N sc env H v vs] [hk:Siz P t k] [hl:TB (lenq vs k)] [hf:TB (fits l j vs)] [hr:LEv (lay2 l j vs) l']
  [h0:Som (lk2 H 0) (Yt w0 M0)] [hw:Hw w0 sc] (e:M b):T P N sc M ⟨none,.store t x y,ty,pos,af,g⟩ env H (G:=Unit) (λ_=>True) (λ_=>env) (λ_=>(i,box b tb l'.toArray)::H):=λa w hs=>by
 have c:=Ycf hf.h;refine Zi6 _ rfl rfl hx.e hy.e hB.h (Zcc hi.h) (hv.h a w hs) hk.h (Zg1 hl.h) (by simpa using c) hv.o ?_ h0.l hw.h e a w hs;unfold Fd;rw [<-hr.h,Zrt l j vs c]
variable {ops:Array Oper} {rest:List Oper} {op:Go.Op} {genv:G->Pw} {gH:G->Hp} {dd:Option Tmp}
def Ym(a:T P N sc (λ_=>True) ⟨dd,op,ty,pos,af,none⟩ env H φ genv gH)(h:∀g,φ g->L P N sc ops rest Q (genv g) (gH g)):L P N sc ops (⟨dd,op,ty,pos,af,none⟩::rest) Q env H:=tt a h
def gt' {c:List Oper} {e:Nat} {a:Bool} (m:T P N sc (λ_=>True) ⟨dd,op,ty,pos,af,some (j,a)⟩ env H φ genv gH) [hj:Som (dsto c j) e] [he:Som (lk2 env e) (.bool a)] [hN:TB (ltb e N)]
  (h:∀g,φ g->L P N sc c.toArray rest Q (genv g) (gH g)):L P N sc c.toArray (⟨dd,op,ty,pos,af,some (j,a)⟩::rest) Q env H:=gtt m rfl (Ck hj) he.l (Ns hN.h) h
instance {n:Nat} {q:Prop} [hx:Som (ev2 env x) (.pointer (some ⟨b,j,none⟩))] [hy:Som (ev2 env y) v] [hB:BxI H b i tb l] [hi:TB (neb i 0)] [hv:CeI P N sc env H v vs] [hk:Siz P t k] [hl:TB (lenq vs k)] [hf:TB (fits l j vs)] [hr:LEv (lay2 l j vs) l']
  [h0:Som (lk2 H 0) (Yt w0 M0)] [hw:Hw w0 sc] [h:Adv n (L P N sc ops rest Q env ((i,box b tb l'.toArray)::H)) q]:Adv (n+1) (L P N sc ops (⟨none,.store t x y,ty,pos,af,none⟩::rest) Q env H) q:=
 ⟨λq=>Ym (Yg2 aA) λ_ _=>h.h q⟩
end
end Go.Sky
namespace Go.Sky
variable {P:Program} {N:Nat} {sc:Nat->Prop} {env env':Pw} {H H' H0:Hp} {Q Q':Exit->Act->World->Prop} {M:Nat->Prop}
@[reducible] def drp2:Nat->Hp->Hp
 | _,[]=>[]
 | k,(i,p)::r=>match Nat.beq i k with
  | true=>drp2 k r
  | false=>(i,p)::drp2 k r
theorem Ycs:∀(k:Nat) (H:Hp),drp2 k H=drp k H
 | _,[]=>rfl
 | k,(i,p)::r=>by unfold drp2 drp;cases Nat.beq i k<;>simp [Ycs k r]
@[reducible] def anyb:List Nat->Nat->Bool
 | [],_=>false
 | k::r,i=>match Nat.beq i k with
  | true=>true
  | false=>anyb r i
theorem Zte:∀(a:List Nat) (i:Nat),anyb a i=a.any (Nat.beq i)
 | [],_=>rfl
 | k::r,i=>by unfold anyb;rw [List.any_cons,<-Zte r i];cases Nat.beq i k<;>rfl
@[reducible] def rst2 (a:List Nat):Hp->Hp
 | []=>[]
 | (i,p)::r=>match anyb a i with
  | true=>(i,p)::rst2 a r
  | false=>rst2 a r
theorem Yas(a:List Nat):∀H:Hp,rst2 a H=rst a H
 | []=>rfl
 | (i,p)::r=>by unfold rst2 rst;rw [<-Zte];cases anyb a i<;>simp [Yas a r]
class AgI (H0 H:Hp) (ks:List Nat):Prop where h:Agr H0 H ks
instance:AgI H0 H []:=⟨aA⟩
instance {k:Nat} {ks:List Nat} {p:Pc} [h1:Som (lk2 H k) p] [h2:Som (lk2 H0 k) p] [h:AgI H0 H ks]:AgI H0 H (k::ks):=⟨⟨h1.l.trans h2.l.symm,h.h⟩⟩
class StI (P:Program) (N:Nat) (sc:Nat->Prop) (M:Nat->Prop) (op:Go.Op) (env:Pw) (H:Hp) (v:outParam Value) (s:outParam Prop):Prop where
 h:s->∀{d:Option Tmp} {ty:TypeId} {pos:String} {af:Array Edge} {g:Option (Nat×Bool)},Stb P N sc M ⟨d,op,ty,pos,af,g⟩ env H v
section
variable {op:Go.Op} {v:Value} {s:Prop} {k b:Nat} {t:TypeId} {l:List Value} {ks:List Nat}
instance [h:DI P N sc op env H v s]:StI P N sc (λ_=>False) op env H v s:=⟨λhs=>Xq (h.h hs)⟩
instance [hb:BxI H b k t l] [h:DI P N sc op env (drp2 k H) v s]:StI P N sc (λx=>x=b) op env H v s:=⟨λhs=>st1 k hb.h (by rw [<-Ycs];exact h.h hs)⟩
instance [ha:AgI H0 H ks] [h:DI P N sc op env (rst2 ks H) v s]:StI P N sc (Off H0 ks) op env H v s:=⟨λhs=>Eg (by rw [<-Yas];exact h.h hs) ha.h⟩
end
class MI (M:Nat->Prop) (b:Nat):Prop where h:M b
class MS (N:Nat) (sc:Nat->Prop) (M:Nat->Prop) (env:Pw) (H:Hp) (b:Nat):Prop where h:∀a w,Sat N sc env H a w->M b
instance {b:Nat} : MS N sc (λ_=>True) env H b:=⟨λ_ _ _=>trivial⟩
instance {b:Nat} : MS N sc (λx=>x=b) env H b:=⟨λ_ _ _=>rfl⟩
instance {b:Nat} [h:MI M b]:MS N sc M env H b:=⟨λ_ _ _=>h.h⟩
@[reducible] def nin (ks:List Nat) (i:Nat):Bool:=match anyb ks i with
 | true=>false
 | false=>true
instance (priority:=low) {b i:Nat} {t:TypeId} {l:List Value} {ks:List Nat} [hb:BxI H b i t l] [hn:TB (nin ks i)] [ha:AgI H0 H ks]:MS N sc (Off H0 ks) env H b:=⟨λa w hs=>λk hk p hp hf=>by
 rw [<-ha.h.mem k hk]at hp;have hne:i≠k:=λe=>by
  subst e;have h1:=hn.h;unfold nin at h1;rw [Zte]at h1;cases h2:ks.any (Nat.beq i)with
  | true=>rw [h2]at h1;cases h1
  | false=>
   have:=List.any_eq_false.1 h2 i hk;simp at this
 exact hs.sep i k _ p hne hb.h hp rfl b rfl hf⟩
section
variable {d i j k b e n:Nat} {vs ws l l':List Value} {w0:World} {M0:Nat->Prop} {ty t tb:TypeId} {pos:String} {af:Array Edge} {g:Option (Nat×Bool)} {x y:Operand} {v z:Value} {bb:Bool}
variable {ll:List Oper} {F:Pw->Hp->Prop} {rest:List (Nat×Nat)} {op:Go.Op} {G:Type} {φ:G->Prop} {genv:G->Pw} {gH:G->Hp} {dd:Option Tmp} {q r s:Prop}
def t_stm [hx:Som (ev2 env x) (.pointer (some ⟨b,j,none⟩))] [hy:Som (ev2 env y) v] [hB:BxI H b i tb l] [hi:TB (neb i 0)] [hv:CeI P N sc env H v vs] [hk:Siz P t k] [hl:TB (lenq vs k)] [hf:TB (fits l j vs)] [hr:LEv (lay2 l j vs) l']
  [h0:Som (lk2 H 0) (Yt w0 M0)] [hw:Hw w0 sc] [hM:MS N sc M env H b]:T P N sc M ⟨none,.store t x y,ty,pos,af,g⟩ env H (G:=Unit) (λ_=>True) (λ_=>env) (λ_=>(i,box b tb l'.toArray)::H):=λa w hs=>Yg2 (hM.h a w hs) a w hs
def Qe(n:Nat){ks:List Nat}[hz:Zer P t z][hc:ClI z l][h0:Som (lk2 H 0) (Yt w0 M0)][hN:TB (ltb d N)][hw:Hw w0 sc][ha:AgI H0 H ks] :
  T P N sc (Off H0 ks) ⟨some d,.alloc t,ty,pos,af,g⟩ env H (G:=Nat) (λb=>MI (Off H0 ks) b) (λb=>(d,.pointer (some ⟨b,0,none⟩))::env) (λb=>(n,box b t l.toArray)::H):=λa w hs K Q f=>
 Yg4 (i:=n) rfl rfl (Ns hN.h) hz.h hc.h h0.l hw.h ha.h a w hs K Q λg c m h=>f g c m ⟨h⟩
def Yw(a:T P N sc M ⟨dd,op,ty,pos,af,none⟩ env H φ genv gH)[ho:Som (nth ll i) ⟨dd,op,ty,pos,af,none⟩](h:∀g,φ g->LD P N sc M ll.toArray F rest (genv g) (gH g)):LD P N sc M ll.toArray F ((i,1)::rest) env H:=Kr ho.n a h
def r3x(a:T P N sc (λ_=>True) ⟨dd,op,ty,pos,af,none⟩ env H φ genv gH)[ho:Som (nth ll i) ⟨dd,op,ty,pos,af,none⟩](h:∀g,φ g->LD P N sc M ll.toArray F rest (genv g) (gH g)):LD P N sc M ll.toArray F ((i,3)::rest) env H:=r3' ho.n a h
def Ot{c:List Nat}{a:Array Bool}(f:T P N sc M ⟨dd,op,ty,pos,af,none⟩ env H φ genv gH)[ho:Som (nth ll i) ⟨dd,op,ty,pos,af,none⟩](h:∀g,φ g->A P N sc M ll.toArray c Q n (a.setIfInBounds i true) (genv g) (gH g)):Zfv P N sc M ll.toArray c Q n a env H i:=Kl ho.n rfl f h
instance [ho:Som (nth ll i) ⟨some d,op,ty,pos,af,none⟩] [h1:StI P N sc M op env H v s] [h2:TB (ltb d N)] [h:Adv n (LD P N sc M ll.toArray F rest ((d,v)::env) H) q] [h3:AndO s q r]:Adv (n+1) (LD P N sc M ll.toArray F ((i,0)::rest) env H) r:=
 ⟨λk=>Xj ho.n rfl (h1.h (h3.h k).1) (h.h (h3.h k).2) rfl (Ns h2.h)⟩
instance [ho:Som (nth ll i) ⟨some d,op,ty,pos,af,some (j,bb)⟩] [hj:Som (dsto ll j) e] [he:Som (lk2 env e) (.bool bb)] [hN:TB (ltb e N)] [h1:StI P N sc M op env H v s] [h2:TB (ltb d N)] [h:Adv n (LD P N sc M ll.toArray F rest ((d,v)::env) H) q] [h3:AndO s q r]:Adv (n+1) (LD P N sc M ll.toArray F ((i,0)::rest) env H) r:=
 ⟨λk=>Ei (h1.h (h3.h k).1) ho.n rfl (Ck hj) he.l rfl (h.h (h3.h k).2) (Ns hN.h) (Ns h2.h)⟩
instance [ho:Som (nth ll i) ⟨some d,op,ty,pos,af,some (j,true)⟩] [hj:Som (dsto ll j) e] [he:Som (lk2 env e) (.bool false)] [hN:TB (ltb e N)] [h2:TB (ltb d N)] [h:Adv n (LD P N sc M ll.toArray F rest ((d,undef)::env) H) q]:Adv (n+1) (LD P N sc M ll.toArray F ((i,2)::rest) env H) q:=
 ⟨λk=>r2 ho.n rfl (Ck hj) he.l rfl (Ns hN.h) rfl (Ns h2.h) (h.h k)⟩
instance [ho:Som (nth ll i) ⟨some d,op,ty,pos,af,some (j,false)⟩] [hj:Som (dsto ll j) e] [he:Som (lk2 env e) (.bool true)] [hN:TB (ltb e N)] [h2:TB (ltb d N)] [h:Adv n (LD P N sc M ll.toArray F rest ((d,undef)::env) H) q]:Adv (n+1) (LD P N sc M ll.toArray F ((i,2)::rest) env H) q:=
 ⟨λk=>r2 ho.n rfl (Ck hj) he.l rfl (Ns hN.h) rfl (Ns h2.h) (h.h k)⟩
instance [ho:Som (nth ll i) ⟨none,.store t x y,ty,pos,af,none⟩] [hx:Som (ev2 env x) (.pointer (some ⟨b,j,none⟩))] [hy:Som (ev2 env y) v] [hB:BxI H b k tb l] [hi:TB (neb k 0)] [hv:CeI P N sc env H v vs] [hk:Siz P t e] [hl:TB (lenq vs e)] [hf:TB (fits l j vs)] [hr:LEv (lay2 l j vs) l']
  [h0:Som (lk2 H 0) (Yt w0 M0)] [hw:Hw w0 sc] [h:Adv n (LD P N sc M ll.toArray F rest env ((k,box b tb l'.toArray)::H)) q]:Adv (n+1) (LD P N sc M ll.toArray F ((i,3)::rest) env H) q:=
 ⟨λq=>r3' ho.n (Yg2 aA) λ_ _=>h.h q⟩
instance [ho:Som (nth ll i) ⟨none,.store t x y,ty,pos,af,none⟩] [hx:Som (ev2 env x) (.pointer (some ⟨b,j,none⟩))] [hy:Som (ev2 env y) v] [hB:BxI H b k tb l] [hi:TB (neb k 0)] [hM:MS N sc M env H b] [hv:CeI P N sc env H v vs] [hk:Siz P t e] [hl:TB (lenq vs e)] [hf:TB (fits l j vs)] [hr:LEv (lay2 l j vs) l']
  [h0:Som (lk2 H 0) (Yt w0 M0)] [hw:Hw w0 sc] [h:Adv n (LD P N sc M ll.toArray F rest env ((k,box b tb l'.toArray)::H)) q]:Adv (n+1) (LD P N sc M ll.toArray F ((i,1)::rest) env H) q:=
 ⟨λq=>Kr ho.n t_stm λ_ _=>h.h q⟩
instance [ho:Som (nth ll i) ⟨some d,op,ty,pos,af,none⟩] [h1:DI P N sc op env H v s] [h2:TB (ltb d N)] [h:Adv n (LD P N sc M ll.toArray F rest ((d,v)::env) H) q] [h3:AndO s q r]:Adv (n+1) (LD P N sc M ll.toArray F ((i,1)::rest) env H) r:=
 ⟨λk=>Kr ho.n (Zey (h1.h (h3.h k).1) rfl (Ns h2.h)) λ_ _=>h.h (h3.h k).2⟩
instance [ho:Som (nth ll i) ⟨some d,op,ty,pos,af,none⟩] [h1:DI P N sc op env H v s] [h2:TB (ltb d N)] [h:Adv n (LD P N sc M ll.toArray F rest ((d,v)::env) H) q] [h3:AndO s q r]:Adv (n+1) (LD P N sc M ll.toArray F ((i,3)::rest) env H) r:=
 ⟨λk=>r3' ho.n (Zey (h1.h (h3.h k).1) rfl (Ns h2.h)) λ_ _=>h.h (h3.h k).2⟩
instance [h:Adv n (F env H) q] {ops:Array Oper} : Adv (n+1) (LD P N sc M ops F [] env H) q:=⟨λk=>r_fin (h.h k)⟩
theorem Qf {id:Nat} {l:List Oper} (M:Nat->Prop) (a:List (Nat×Nat)) (h:LD P N sc M l.toArray (X N sc .normal Q) a env H) (c:P.follows .mixedOrders=true:=by kernel_rfl)
  (f:(Region.noSelect l.toArray && Nat.beq a.length l.length && Fs l.toArray (Ar a) a (Array.replicate l.length false) && (Region.ready .any l.toArray (Ev a (Array.replicate l.length false))).isEmpty)=true:=by kernel_rfl) :
  E P N sc (.region id l.toArray true) Q env H:=e_dreg M a c f h
end
end Go.Sky
namespace Go.Sky
open Go.RowKit Below
variable {P:Program} {N:Nat} {sc:Nat->Prop} {env env':Pw} {H H':Hp} {Q Q':Exit->Act->World->Prop} {M:Nat->Prop}
class EnI (vs:List Value) (env:outParam Pw):Prop where h:Pa 0 vs=env
class PnI (vs:List Pc) (H:outParam Hp):Prop where h:Xb 1 vs=H
section
variable {a b c d e f g i j:Value} {p q r s t u v w x y:Pc}
instance:EnI [] []:=⟨rfl⟩
instance:EnI [a] [(0,a)]:=⟨rfl⟩
instance:EnI [a,b] [(0,a),(1,b)]:=⟨rfl⟩
instance:EnI [a,b,c] [(0,a),(1,b),(2,c)]:=⟨rfl⟩
instance:EnI [a,b,c,d] [(0,a),(1,b),(2,c),(3,d)]:=⟨rfl⟩
instance:EnI [a,b,c,d,e] [(0,a),(1,b),(2,c),(3,d),(4,e)]:=⟨rfl⟩
instance:EnI [a,b,c,d,e,f] [(0,a),(1,b),(2,c),(3,d),(4,e),(5,f)]:=⟨rfl⟩
instance:EnI [a,b,c,d,e,f,g] [(0,a),(1,b),(2,c),(3,d),(4,e),(5,f),(6,g)]:=⟨rfl⟩
instance:PnI [] []:=⟨rfl⟩
instance:PnI [p] [(1,p)]:=⟨rfl⟩
instance:PnI [p,q] [(1,p),(2,q)]:=⟨rfl⟩
instance:PnI [p,q,r] [(1,p),(2,q),(3,r)]:=⟨rfl⟩
instance:PnI [p,q,r,s] [(1,p),(2,q),(3,r),(4,s)]:=⟨rfl⟩
instance:PnI [p,q,r,s,t] [(1,p),(2,q),(3,r),(4,s),(5,t)]:=⟨rfl⟩
instance:PnI [p,q,r,s,t,u] [(1,p),(2,q),(3,r),(4,s),(5,t),(6,u)]:=⟨rfl⟩
instance:PnI [p,q,r,s,t,u,v] [(1,p),(2,q),(3,r),(4,s),(5,t),(6,u),(7,v)]:=⟨rfl⟩
instance:PnI [p,q,r,s,t,u,v,w] [(1,p),(2,q),(3,r),(4,s),(5,t),(6,u),(7,v),(8,w)]:=⟨rfl⟩
instance:PnI [p,q,r,s,t,u,v,w,x] [(1,p),(2,q),(3,r),(4,s),(5,t),(6,u),(7,v),(8,w),(9,x)]:=⟨rfl⟩
instance:PnI [p,q,r,s,t,u,v,w,x,y] [(1,p),(2,q),(3,r),(4,s),(5,t),(6,u),(7,v),(8,w),(9,x),(10,y)]:=⟨rfl⟩
end
class RoL (l:List Pc):Prop where h:AllRo l
instance:RoL []:=⟨aA⟩
instance {p:Pc} {r:List Pc} [h:RoI p] [h2:RoL r]:RoL (p::r):=⟨⟨h.h,h2.h⟩⟩
theorem Zh {f:FuncId} {fn:Func} {c:Code} {vs:List Value} {pre:List Pc} {al:Bool} {G:Type} {φ:G->Prop} {Yn:G->Value} {l:G->List Pc} {N:Nat} (B:P.funcs[f]? = some fn) (o:fn.ntmps=N)
  [he:EnI vs env] [hp:PnI pre H] [hro:RoL pre] (h:∀k (sc:Nat->Prop),Hw k sc->(∀b,sc b->k.heap.size<=b\/∃q∈pre,q.fp b)->E P N sc c (Zcr P fn k pre al φ Yn l) env ((0,Yt k (λ_=>False))::H))
  (z:fn.body=some c:=by rfl) (m:Nat.ble vs.length N=true:=by rfl):Cal P f vs.toArray pre al φ Yn l:=
 cal_in B z o m hro.h λk sc D n=>by rw [he.h,hp.h];exact h k sc ⟨D⟩ n
class RvI (P:Program) (N:Nat) (sc:Nat->Prop) (env:Pw) (H:Hp) (r:ResultVar) (v:outParam Value):Prop where h:RV P N sc env H r v
instance {t:Nat} {v:Value} [h:Som (lk2 env t) v]:RvI P N sc env H (.tmp t) v:=⟨h.l⟩
instance {c b i k:Nat} {t tb:TypeId} {l:List Value} [h:Som (lk2 env c) (.pointer (some ⟨b,0,none⟩))] [h1:Agg P t true] [h2:BxI H b i tb l] [h3:Siz P t k] [h4:TB (lenq l k)]:RvI P N sc env H (.cell c t) (.agg l.toArray):=⟨Eo _ h.l h2.h h1.h h3.h (Zg1 h4.h)⟩
instance {c b i:Nat} {t tb:TypeId} {v:Value} [h:Som (lk2 env c) (.pointer (some ⟨b,0,none⟩))] [h1:Agg P t false] [h2:BxI H b i tb [v]]:RvI P N sc env H (.cell c t) v:=⟨Yib h.l h2.h h1.h⟩
section
variable {fn:Func} {pre:List Pc} {al:Bool} {G:Type} {φ:G->Prop} {Yn:G->Value} {its:G->List Pc} {w0:World} {r1 r2 r3:ResultVar} {v1 v2 v3:Value}
def Xo(k:∀b,sc b->w0.heap.size<=b\/∃q∈pre,q.fp b)(g:G)(l:fn.results=#[r1])[h1:RvI P N sc env H r1 v1][h0:Som (lk2 H 0) (Yt w0 (λ_=>False))](n:Yn g=v1)(m:φ g)(h:Give H al (its g)) :
  X N sc .ret (Zcr P fn w0 pre al φ Yn its) env H:=Ztk (.inl rfl) k g v1 (λa w hs=>Zb6 hs l h1.h) n m h0.l h
def Nx(k:∀b,sc b->w0.heap.size<=b\/∃q∈pre,q.fp b)(g:G)(l:fn.results=#[r1,r2])[h1:RvI P N sc env H r1 v1][h2:RvI P N sc env H r2 v2][h0:Som (lk2 H 0) (Yt w0 (λ_=>False))](n:Yn g= .tuple #[v1,v2])(m:φ g)(h:Give H al (its g)) :
  X N sc .ret (Zcr P fn w0 pre al φ Yn its) env H:=Ztk (.inl rfl) k g (.tuple #[v1,v2]) (λa w hs=>Yey hs l h1.h h2.h) n m h0.l h
def xe3(k:∀b,sc b->w0.heap.size<=b\/∃q∈pre,q.fp b)(g:G)(l:fn.results=#[r1,r2,r3])[h1:RvI P N sc env H r1 v1][h2:RvI P N sc env H r2 v2][h3:RvI P N sc env H r3 v3][h0:Som (lk2 H 0) (Yt w0 (λ_=>False))](n:Yn g= .tuple #[v1,v2,v3])(m:φ g)(h:Give H al (its g)) :
  X N sc .ret (Zcr P fn w0 pre al φ Yn its) env H:=Ztk (.inl rfl) k g (.tuple #[v1,v2,v3]) (λa w hs=>res3 hs l h1.h h2.h h3.h) n m h0.l h
end
class EncE {α:Type} (k:Nat) (enc:α->Value):Prop where h:∃(P:Program) (t:TypeId),Enc P t k enc
theorem Ps{p k:Pc}{r:List Pc}(i:Nat)[hi:Som (lk2 H i) k][h0:TB (neb i 0)][ho:RoI k](h:Give H true r)(e:k=p:=by rfl):Give H true (p::r):=e▸Gq i hi.l (Zw9 (Zcc h0.h)) ho.h h
section
variable {α:Type} {k i:Nat} {e:TypeId} {enc:α->Value} {v v':Value} {xs ys:List α} {al:Bool} {r:List Pc}
theorem gow(i:Nat)[hi:Som (lk2 H i) (Oa k e enc v xs)][h0:TB (neb i 0)][he:EncE k enc](h:Give H al r)(l:xs=ys:=by rfl):Give H al (Yx k enc v ys::r):=by obtain⟨_,_,m⟩:=he.h;exact Yfv i hi.l (Zw9 (Zcc h0.h)) m l h
end
section
variable {n:Nat} {x b:Bool} {d e j:Nat} {op:Go.Op} {ty:TypeId} {pos:String} {af:Array Edge} {rest:List Oper} {ops:Array Oper} {ll:List Oper}
def kf [h1:DI P N sc op env H (.bool x) True][h2:TB (ltb d N)](e:x=false)(h:L P N sc ops rest Q ((d,.bool false)::env) H):L P N sc ops (⟨some d,op,ty,pos,af,none⟩::rest) Q env H:=dt (Xh _ (h1.h aA) (aH _ e)) h (Ns h2.h)
def kt [h1:DI P N sc op env H (.bool x) True][h2:TB (ltb d N)](e:x=true)(h:L P N sc ops rest Q ((d,.bool true)::env) H):L P N sc ops (⟨some d,op,ty,pos,af,none⟩::rest) Q env H:=dt (Xh _ (h1.h aA) (aH _ e)) h (Ns h2.h)
def kfg [h1:DI P N sc op env H (.bool x) True][hj:Som (dsto ll j) e][hg:Som (lk2 env e) (.bool b)][h4:TB (ltb e N)][h2:TB (ltb d N)](e:x=false)(h:L P N sc ll.toArray rest Q ((d,.bool false)::env) H):L P N sc ll.toArray (⟨some d,op,ty,pos,af,some (j,b)⟩::rest) Q env H:=Ej (Xh _ (h1.h aA) (aH _ e)) (Ck hj) hg.l h (Ns h4.h) (Ns h2.h)
def ktg [h1:DI P N sc op env H (.bool x) True][hj:Som (dsto ll j) e][hg:Som (lk2 env e) (.bool b)][h4:TB (ltb e N)][h2:TB (ltb d N)](e:x=true)(h:L P N sc ll.toArray rest Q ((d,.bool true)::env) H):L P N sc ll.toArray (⟨some d,op,ty,pos,af,some (j,b)⟩::rest) Q env H:=Ej (Xh _ (h1.h aA) (aH _ e)) (Ck hj) hg.l h (Ns h4.h) (Ns h2.h)
end
section
variable {f:FuncId} {xs:List Operand} {ats:Array TypeId} {d i j e n:Nat} {vs:List Value} {pre:List Pc} {al b:Bool} {G:Type} {φ:G->Prop} {Yn:G->Value} {its:G->List Pc} {w0:World} {M0:Nat->Prop} {ty:TypeId} {pos:String} {af:Array Edge} {G':G->Hp} {ops:Array Oper} {rest ll:List Oper}
def cl (n:Nat) (l:List Nat) (m:Cal P f vs.toArray pre al φ Yn its) [hx:EvI env xs vs] [hf:CalF P f] [hp:PreL P H al l pre] [h0:Som (lk2 H 0) (Yt w0 M0)] [hN:TB (ltb d N)] [hw:Hw w0 sc] [ha:∀g,AddI n (its g) H (G' g)]
  (h:∀g,φ g->L P N sc ops rest Q ((d,Yn g)::env) (G' g)):L P N sc ops (⟨some d,.call { callee:= .value (.func f),args:=xs.toArray,argTypes:=ats },ty,pos,af,none⟩::rest) Q env H:=Ym (Zm n l m) h
def De (n:Nat) (l:List Nat) (m:Cal P f vs.toArray pre al φ Yn its) [hx:EvI env xs vs] [hf:CalF P f] [hp:PreL P H al l pre] [h0:Som (lk2 H 0) (Yt w0 M0)] [hN:TB (ltb d N)] [hw:Hw w0 sc] [ha:∀g,AddI n (its g) H (G' g)] [hj:Som (dsto ll j) e] [he:Som (lk2 env e) (.bool b)] [hN2:TB (ltb e N)]
  (h:∀g,φ g->L P N sc ll.toArray rest Q ((d,Yn g)::env) (G' g)):L P N sc ll.toArray (⟨some d,.call { callee:= .value (.func f),args:=xs.toArray,argTypes:=ats },ty,pos,af,some (j,b)⟩::rest) Q env H:=gt' (Zm n l m) h
end
class SeI (l:List Nat) (env:Pw) (cs:outParam Pw):Prop where h:Sub cs env
instance:SeI [] env []:=⟨aA⟩
instance {t:Nat} {l:List Nat} {v:Value} {cs:Pw} [h:Som (lk2 env t) v] [h2:SeI l env cs]:SeI (t::l) env ((t,v)::cs):=⟨⟨h.l,h2.h⟩⟩
class SeH (l:List Nat) (H:Hp) (ch:outParam Hp):Prop where h:HSub ch H
instance:SeH [] H []:=⟨aA⟩
instance {t:Nat} {l:List Nat} {v:Pc} {cs:Hp} [h:Som (lk2 H t) v] [h2:SeH l H cs]:SeH (t::l) H ((t,v)::cs):=⟨⟨h.l,h2.h⟩⟩
class ApI {α:Type _} (a b:List α) (c:outParam (List α)):Prop where h:a ++ b=c
instance {α:Type _} {b:List α} : ApI [] b b:=⟨rfl⟩
instance {α:Type _} {x:α} {a b c:List α} [h:ApI a b c]:ApI (x::a) b (x::c):=⟨by rw [<-h.h];rfl⟩
class SbI (cs env:Pw):Prop where h:Sub cs env
instance:SbI [] env:=⟨aA⟩
instance {t:Nat} {v:Value} {cs:Pw} [h:Som (lk2 env t) v] [h2:SbI cs env]:SbI ((t,v)::cs) env:=⟨⟨h.l,h2.h⟩⟩
class HbI (ch H:Hp):Prop where h:HSub ch H
instance:HbI [] H:=⟨aA⟩
instance {t:Nat} {v:Pc} {cs:Hp} [h:Som (lk2 H t) v] [h2:HbI cs H]:HbI ((t,v)::cs) H:=⟨⟨h.l,h2.h⟩⟩
def Sub.app:∀{a b e:Pw},Sub a e->Sub b e->Sub (a ++ b) e
 | [],_,_,_,h=>h
 | (_,_)::_,_,_,h1,h=>⟨h1.1,Sub.app h1.2 h⟩
def HSub.app:∀{a b e:Hp},HSub a e->HSub b e->HSub (a ++ b) e
 | [],_,_,_,h=>h
 | (_,_)::_,_,_,h1,h=>⟨h1.1,HSub.app h1.2 h⟩
section
variable {c x y:Code} {G:Type} {cs:Pw} {ch:Hp} {e1:G->Pw} {H1:G->Hp} {ov:G->Pw} {oh:G->Hp} {inv:G->Prop} {μ:G->Nat} {g:G}
theorem lp (l D:List Nat) (ov:G->Pw) (oh:G->Hp) (inv:G->Prop) (μ:G->Nat) (m:G) (B:inv m) (hs:Sub (ov m) env) (z:HSub (oh m) H) [h1:SeI l env cs] [h2:SeH D H ch] [h3:∀g,ApI (ov g) cs (e1 g)] [h4:∀g,ApI (oh g) ch (H1 g)]
  (h:∀g,inv g->E P N sc c (Exit.then (Ysw N sc cs ch ov oh inv μ g) Q) (e1 g) (H1 g)):E P N sc (.loop c) Q env H:=
 e_lp cs ch ov oh inv μ m B (hs.app h1.h) (z.app h2.h) λg o=>by rw [(h3 g).h,(h4 g).h];exact h g o
def Yh(h:G)(l:inv h)(m:μ h<μ g)(hs:Sub (ov h) env)(o:HSub (oh h) H)[k1:SbI cs env][k2:HbI ch H]:X N sc .normal (Exit.then (Ysw N sc cs ch ov oh inv μ g) Q) env H:=x_rnd h l m (hs.app k1.h) (o.app k2.h)
theorem jn (l z:List Nat) (ov:G->Pw) (oh:G->Hp) (inv:G->Prop) [h1:SeI l env cs] [h2:SeH z H ch] [h3:∀g,ApI (ov g) cs (e1 g)] [h4:∀g,ApI (oh g) ch (H1 g)]
  (m:E P N sc x (Exit.then (JnK N sc cs ch ov oh inv) Q) env H) (o:∀g,inv g->E P N sc y Q (e1 g) (H1 g)):E P N sc (.seq x y) Q env H:=
 e_jn cs ch ov oh inv h1.h h2.h m λg h=>by rw [(h3 g).h,(h4 g).h];exact o g h
def Od(h:G)(l:inv h)(hs:Sub (ov h) env)(m:HSub (oh h) H)[k1:SbI cs env][k2:HbI ch H]:X N sc .normal (Exit.then (JnK N sc cs ch ov oh inv) Q) env H:=x_jn h l (hs.app k1.h) (m.app k2.h)
end
end Go.Sky

