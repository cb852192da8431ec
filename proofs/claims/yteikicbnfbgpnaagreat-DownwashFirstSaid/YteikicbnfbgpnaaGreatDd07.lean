/- Rules, arithmetic and contracts: part 8. No conditions but those that each theorem names. -/
import Derived.Test.YteikicbnfbgpnaaGreatDd06
set_option linter.all false
namespace Go.Sky
variable{xs y r rest before p q c z:List Int}{m a b:R2}{i t M N k fuel:Nat}{x ov d:Int}{cs:List (SL×List Int)}{ds:List (List Int)}{lo:Rat}
def Zcn(xs:List Int)(m:Nat):Prop:=xs.length=0\/(xs.length+2)*(xs.length+2)*(Xm xs+m+2*(xs.length-1)+32)<=65536
instance (xs:List Int) (m:Nat):Decidable (Zcn xs m):=by unfold Zcn;infer_instance
def sgf_t{m:Nat}(h:xs.length=0):Value.bool (decide (Zcn xs m))= .bool true:=aI Value.bool (aN (.inl h))
theorem sgf_i{m:Nat}{n:Int}(h:xs.length≠0)(f:n=(((xs.length+2)*(xs.length+2)*(Xm xs+m+2*(xs.length-1)+32):Nat):Int)):Value.bool (decide (Zcn xs m))= .bool (decide (n<=65536)):=aI Value.bool (bJ.2 (by
 subst f;show(xs.length=0\/_<=65536)↔_;constructor
 .intro e;rcases e with e|e
  .exact absurd e h
  .exact lE.2 e
 .intro e;exact .inr (lE.1 e)))
def efit(z:R2):Bool:=decide (max (bl z.1.natAbs) (bl z.2.natAbs)<=512)
def Zi6:List Int->Int
 | []=>0
 | x::r=>if x=0 then Zi6 r else x
theorem Zuk{s:Int}(h:s≠0):∀{L:List Int} {i:Nat},i<L.length->(∀k,k<i->L.getD k 0=0)->L.getD i 0=s->Zi6 L=s
 | [],i,hi,_,_=>absurd hi O5
 | x::r,0,_,_,hs=>by have e:x=s:=hs;subst e;unfold Zi6;rw [aD h]
 | x::r,i+1,hi,hz,hs=>by have e:x=0:=hz 0 O;unfold Zi6;rw [aF e];exact Zuk h (L:=r) (i:=i) (by simpa using hi) (λk f=>hz (k+1) O) hs
theorem Zom:∀{L:List Int},(∀k,k<L.length->L.getD k 0=0)->Zi6 L=0
 | [],_=>rfl
 | x::r,hz=>by have e:x=0:=hz 0 O5;unfold Zi6;rw [aF e];exact Zom λk f=>hz (k+1) (by simpa using f)
def aft(e:List (List Int))(m:R2):Int:=Zi6 (e.map (Ds m.1 m.2))
def vlu(e:List (List Int))(m:R2):Int:=if e.length=0 then 0 else Ds m.1 m.2 (e.getD 0 [])
def chv(e:List (List Int))(m:R2):Int:=chg (e.map (Ds m.1 m.2))
def crb(e:List (List Int))(a b:R2):Bool:=if e.length=0 then false else decide (0<chv e a-chv e b-if Ds b.1 b.2 (e.getD 0 [])=0 then 1 else 0)
def cmp(a b:R2):Int:=(a.1*b.2-b.1*a.2).sign
def ngb(ds cs:List (List Int))(a b:R2):Bool:=if cmp a b=0 then decide (vlu ds a<0)else(decide (aft ds a<0) || crb cs a b)
theorem Ycd(e:List (SL×List Int))(x y:Int):aft (e.map Prod.snd) (x,y)=Zi6 (sgx e (Ds x y)):=by unfold aft;rw [Zys rfl]
theorem Ypc(e:List (SL×List Int))(x y:Int):chv (e.map Prod.snd) (x,y)=chg (sgx e (Ds x y)):=by unfold chv;rw [Zys rfl]
theorem Zhm(e:List (SL×List Int))(h:i<e.length):(e.map Prod.snd).getD i []=(e.getD i Z0).2:=by rw [aG,aG,eR,aL h];rfl
theorem Ybr(e:List (List Int))(m:R2):0<=chv e m/\chv e m<=(e.length:Int):=by have:=Zbe (e.map (Ds m.1 m.2));rw [aP]at this;exact this
theorem Zs3{x:Rat}(h:Ea x=0):x=0:=by
 rcases Pj x with⟨f,e⟩|⟨f,e⟩|⟨f,e⟩
 .rw [e]at h;exact absurd h O3
 .rw [e]at h;exact absurd h O3
 .exact f
theorem sgm_i{l:Int}(f:-1<=x/\x<=1)(e:-1<=l/\l<=1):Nz (x*l):=by
 rcases(show x=-1\/x=0\/x=1 by omega)with h|h|h<;>subst h
 .exact⟨O,O⟩
 .exact⟨O,O⟩
 .exact⟨O,O⟩
theorem Zyu{l:Int}(f:-1<=x/\x<=1)(e:-1<=l/\l<=1)(h:x*l<0):x=-l:=by rcases(show x=-1\/x=0\/x=1 by omega)with h|h|h<;>subst h<;>omega
theorem Zyt{l:Int}(g:-1<=x/\x<=1)(f:-1<=l/\l<=1)(h:¬x*l<0)(e:x≠0):¬x=-l:=by rcases(show x=-1\/x=0\/x=1 by omega)with h|h|h<;>subst h<;>omega
theorem Zyv{l:Int}(h:x=0):¬x*l<0:=by subst h;omega
theorem crb_t{y e f:Int}(h:cs.length≠0)(g:Ds e f (cs.getD 0 Z0).2=0):Value.bool (crb (cs.map Prod.snd) (x,y) (e,f))= .bool (decide (0<chv (cs.map Prod.snd) (x,y)-chv (cs.map Prod.snd) (e,f)-1)):=by unfold crb;rw [aP,aD h,Zhm _ O,aF g]
theorem crb_f{y e f:Int}(h:cs.length≠0)(g:¬Ds e f (cs.getD 0 Z0).2=0):Value.bool (crb (cs.map Prod.snd) (x,y) (e,f))= .bool (decide (0<chv (cs.map Prod.snd) (x,y)-chv (cs.map Prod.snd) (e,f))):=by unfold crb;rw [aP,aD h,Zhm _ O,aD g,fU]
theorem ngb_t{cs:List (List Int)}(h:¬cmp a b=0)(e:aft ds a<0):Value.bool (ngb ds cs a b)= .bool true:=by unfold ngb;rw [aD h,aN e];rfl
theorem ngb_f{cs:List (List Int)}(h:¬cmp a b=0)(e:¬aft ds a<0):Value.bool (ngb ds cs a b)= .bool (crb cs a b):=by unfold ngb;rw [aD h,aM e];rfl
def Zfi:Nat->List Int->List (List Int)
 | 0,_=>[]
 | n+1,p=>if p.length=0 then []else p::Zfi n (Yx p)
theorem Zuz{m:R2}(j:0<m.2):∀(n:Nat) (p:List Int),p.length<=n->aft (Zfi n p) m=Eo n p (qv m)
 | 0,p,o=>rfl
 | n+1,p,o=>by
  unfold Zfi;by_cases h:p.length=0
  .rw [aF h];have:p=[]:=aC h;subst this;have f:∀n,Eo n [] (qv m)=0:=λn=>by
    induction n with
    | zero=>rfl
    | succ n g=>unfold Eo;rw [aD (by show ¬(0:Rat)≠0;simp)];exact g
   rw [f];rfl
  .rw [aD h];have s:=Od p;have g:=Zuz j n (Yx p) O;unfold aft at g ⊢;rw [cK];unfold Zi6 Eo;have l:Ds m.1 m.2 p=Ea (Zf p (qv m)):=Zeb j p;rw [l];by_cases f:Zf p (qv m)=0
   .rw [aF (Zs4 f),aD (by simpa using f)];exact g
   .rw [aD (λe=>f (Zs3 e)),aF f]
structure Cvd (xs:List Int):Prop where
 v:Vp xs
 s:Sz 205 xs
 l:xs.length<=11
theorem Zgw(h:Cvd xs)(e:xs≠[])(f:Dp xs r):Sz 220 r/\r.length<=11:=by obtain⟨g,j⟩:=f.sz h.v.tr e h.s (by have:=h.l;omega);exact⟨g,by have:=h.l;omega⟩
theorem Zdx(h:Cvd xs)(l:xs≠[])(e:Dp xs r) :
  Vp r/\r≠[]/\(∀i,bl (cf r (i+1)*((i:Int)+1)).natAbs<=65536)/\Vp (Yx r)/\¬Zol r (Yx r)/\eok 13 (gA r (Yx r)) (gB r (Yx r))/\Na 13 r (Yx r)=Oe 13 r/\Vp (Oe 13 r)/\
  Bl r (Oe 13 r)=0/\pdv r (Oe 13 r)/\Lq r (Oe 13 r)=sqf 13 r/\Vp (sqf 13 r)/\Sz 235 (sqf 13 r)/\(sqf 13 r).length<=11/\Dp xs (Oe 13 r)/\sqf 13 r≠[]/\((sqf 13 r).length≠1->(Oe 13 r).length<r.length)/\Ei 13 r:=by
 obtain⟨G,Y⟩:=Zgw h l e;have u:Vp r:=⟨G.mono O,e.1,O⟩;have f:=e.ok h.v.tr l h.s O (by have:=h.l;omega) (show xs.length<=13+1 by have:=h.l;omega);obtain⟨⟨S,I,P,B,D⟩,-,-⟩:=f.1;have j:=e.2.2.1;have o:=(chG 13 e.1 e.2.1 G O O O).2.1;have Q:=(chG 13 e.1 e.2.1 G O O O).2.2.1;have w:=Zka u e.2.1 f.1.1;have H:Oe 13 r=Na 13 r (Yx r):=by unfold Oe;rw [j]
 have n:=e.next f.2;have v:Vp (Oe 13 r):=by obtain⟨t1,t2⟩:=Zgw h l n;exact⟨t1.mono O,n.1,O⟩
 have s:sqf 13 r=Lq r (Oe 13 r):=by unfold sqf Oe;rw [j]
 obtain⟨f1,f2,f3,f4,f5,f6⟩:=Ou (F:=13) e.1 e.2.1 f.2;have g:∀i,bl (cf r (i+1)*((i:Int)+1)).natAbs<=65536:=λi=>by
  by_cases hi:i<r.length
  .have:=S i hi;rwa [j]at this
  .rw [Yg O];simp [Ll]
 rw [j]at I P B D;rw [<-H]at B D;refine⟨u,e.2.1,g,Zfn u (λi _=>g i),I,P,H.symm,v,B,D,s.symm,w,o,O,n,f3,λR=>?_,f.2⟩;refine Zl4 e.1 e.2.1 f.2 ?_;have:=Pk e.1 e.2.1 f.2;have V:=aE.2 f3;have W:=aE.2 this.2.1;omega
def Lt(xs:List Int):List Int:=Zp9 13 xs.length [1] (Yz xs)
structure OddI (xs:List Int) (t:Nat) (rest out before:List Int):Prop where
 ex:∃f q,Dp xs q/\q.length<=f/\Zp9 13 f out q=Lt xs/\Tr out/\Op xs out q/\((t%2=1/\rest=q)\/(t%2=0/\rest=Oe 13 q/\before=sqf 13 q/\(sqf 13 q).length≠1))
theorem OddI.start{b:List Int}(h:Cvd xs)(e:xs≠[]):OddI xs 1 (Yz xs) [1] b:=
 ⟨xs.length,Yz xs,Dp.start h.v.tr e,by rw [Pm h.v.tr];exact aH _,rfl,.inr O3,Op.start h.v.tr,.inl ⟨rfl,rfl⟩⟩
theorem OddI.dp{e:List Int}(h:Cvd xs)(j:xs≠[])(n:OddI xs t rest e before):Dp xs rest:=by
 obtain⟨f,q,g,o,s,u,v,l|⟨-,rfl,-⟩⟩:=n.ex
 .rw [l.2];exact g
 .exact(Zdx h j g).2.2.2.2.2.2.2.2.2.2.2.2.2.2.1
theorem OddI.out{e:List Int}(h:Cvd xs)(l:xs≠[])(s:OddI xs t rest e before):Vp e/\Sz 220 e/\e.length<=11:=by obtain⟨f,q,n,u,v,g,o,-⟩:=s.ex;obtain⟨j,w,B⟩:=o.sz h.v.tr l h.s (by have:=h.l;omega) g n.1;have:=h.l;exact⟨⟨j.mono O,g,O⟩,j,O⟩
theorem OddI.odd_end{e:List Int}(h:Cvd xs)(o:xs≠[])(l:OddI xs t rest e before)(B:t%2=1)(n:(sqf 13 rest).length=1):e=Lt xs:=by
 obtain⟨f,q,j,s,g,u,v,⟨-,rfl⟩|⟨w,-⟩⟩:=l.ex
 .cases f with
  | zero=>exact absurd (aE.2 j.2.1) O
  | succ f=>unfold Zp9 at g;rw [aF n]at g;exact g
 .omega
theorem OddI.odd_next{e:List Int}(o:OddI xs t rest e before)(v:t%2=1)(s:(sqf 13 rest).length≠1):OddI xs (t+1) (Oe 13 rest) e (sqf 13 rest):=by
 obtain⟨f,q,g,h,j,l,n,⟨-,rfl⟩|⟨u,-⟩⟩:=o.ex
 .exact⟨f,rest,g,h,j,l,n,.inr ⟨O,rfl,rfl,s⟩⟩
 .omega
theorem OddI.even{g:List Int}(h:Cvd xs)(v:xs≠[])(hI:OddI xs t rest g before)(ht:t%2=0) :
  Vp before/\Bl before (sqf 13 rest)=0/\pdv before (sqf 13 rest)/\Vp (Lq before (sqf 13 rest))/\¬Az g (Lq before (sqf 13 rest))/\
  ((sqf 13 rest).length=1->Qn g (Lq before (sqf 13 rest))=Lt xs)/\((sqf 13 rest).length≠1->OddI xs (t+1) (Oe 13 rest) (Qn g (Lq before (sqf 13 rest))) (sqf 13 rest))/\Vp (Qn g (Lq before (sqf 13 rest))):=by
 obtain⟨f,q,j,h2,n,h4,Z,⟨h7,-⟩|⟨-,rfl,rfl,W⟩⟩:=hI.ex
 .omega
 obtain⟨a1,a2,a3,a4,a5,a6,a7,a8,a9,a0,b0,F,G,c0,H,c5,I,o⟩:=Zdx h v j;obtain⟨b1,b2,b3,b4,b5,b6,b7,b8,b9,c6,c7,P,Q,c8,s,l,R,u⟩:=Zdx h v H;obtain⟨c1,c2,S,c4⟩:=Cg j.1 j.2.1 o u;have V:=Z.next j.1 j.2.1 j.2.2.1 o u;have ho:=h.l;obtain⟨s1,s2,s3⟩:=V.sz h.v.tr v h.s O (Qi _ _) s.1;obtain⟨o1,o2,o3⟩:=Z.sz h.v.tr v h.s O h4 j.1;have c9:(Cu 13 q).length<=11:=by have e:=aI List.length c2;rw [Ov S P.tr c4 l]at e;have:=aE.2 l;omega
 have B:Sz 450 (Cu 13 q):=by obtain⟨a,ha,e⟩:=V;have e2:Yz xs=Qn (Qn (Qn a (Oe 13 (Oe 13 q))) g) (Cu 13 q):=e.trans ((Qi _ _).ext (Qi _ _) λi=>Nj (λx=>by simp only [Yo];grind) i);exact(Zxc h.v.tr v h.s O (Qi _ _) S e2).1.mono O
 have hd:Bl (sqf 13 q) (sqf 13 (Oe 13 q))=0:=by
  have m1:=Qq G;have m2:=Qq Q;have l1:=aE.2 l;unfold Bl;rw [aD O];split
  .rfl
  .have:((sqf 13 q).length-(sqf 13 (Oe 13 q)).length+1)*(Xm (sqf 13 (Oe 13 q))+1)<=12*240:=aR O O;rw [aD O]
 have Y:Vp (Cu 13 q):=⟨B.mono O,S,O⟩;have hm:¬Az g (Cu 13 q):=λhF=>by have m1:=Qq o1;have m2:=Qq B;rcases hF.2.2 with w|w<;>omega
 refine⟨F,hd,c1,Y,hm,λD=>?_,λD=>?_,⟨s1.mono O,Qi _ _,aB s2 O⟩⟩
 .cases f with
  | zero=>exact absurd (aE.2 j.2.1) O
  | succ f=>unfold Zp9 at n;rw [aD W,aF D]at n;exact n
 .cases f with
  | zero=>exact absurd (aE.2 j.2.1) O
  | succ f=>
   unfold Zp9 at n;rw [aD W,aD D]at n;have l1:=I W;have l2:=R D;exact⟨f,Oe 13 (Oe 13 q),s,O,n,Qi _ _,V,.inl ⟨O,rfl⟩⟩
theorem Ydh(h:Cvd xs)(f:xs≠[]):Lt xs=Cp 13 xs.length (Yz xs):=by have e:=Dp.start h.v.tr f;have j:=h.l;have g:=(e.ok h.v.tr f h.s O O (show xs.length<=13+1 by omega)).2;unfold Lt;rw [Zzx h.v.tr f h.s O O O xs.length [1] (Yz xs) (.inr (show cf [1] 0≠0 by decide)) e (by rw [Pm h.v.tr];exact aH _),Zzq (Zjp (p:=xs) e.1 e.2.1 g)]
theorem Zby(h:Cvd xs)(f:xs≠[]):Odp 13 205 xs (Lt xs)/\Vp (Lt xs)/\Sz 220 (Lt xs)/\(Lt xs).length<=xs.length/\Zaw (Lt xs):=by
 have g:=Dp.start h.v.tr f;have G:=h.l;have o:=(g.ok h.v.tr f h.s O O (show xs.length<=13+1 by omega)).2;have n:=Ydh h f;have j:Tr (Lt xs):=by rw [n];exact Zjp (p:=xs) g.1 g.2.1 o
 obtain⟨⟨B,s⟩,-⟩:=Fo h.v.tr f h.s O O (show xs.length<=13+1 by omega) xs.length (Yz xs) g (by rw [Pm h.v.tr];exact aH _);rw [<-n]at s;have e:Yz xs=Qn (Qn B B) (Lt xs):=g.1.ext (Qi _ _) λi=>Nj (λx=>by rw [s x,Yo,Yo];grind) i;obtain⟨l,D,u⟩:=Zxc h.v.tr f h.s O (Qi _ _) j e;have w:=(chG 13 j u l O O O).1;refine⟨⟨h.v.tr,f,h.s,O,O,O,n,j,u,w⟩,⟨l.mono O,j,O⟩,l,D,.inr ?_⟩;have H:=Qq l;have v:((Lt xs).length+2)*((Lt xs).length+2)<=13*13:=aR O O;have F:((Lt xs).length+2)*((Lt xs).length+2)*(Xm (Lt xs)+16)<=13*13*236:=aR v O;omega
def Cq(xs:List Int):List (List Int):=if xs.length=0 then []else chn 13 (Lt xs)
def Pg(xs:List Int):List (List Int):=Zfi xs.length xs
theorem Zuy:∀(n k:Nat) (p:List Int),Tr p->p.length<=25->Sz k p->∀q∈Zfi n p,Tr q/\q.length<=p.length/\Sz (k+5*n) q
 | 0,_,_,_,_,_,q,e=>absurd e (by simp [Zfi])
 | n+1,k,p,g,l,hs,q,e=>by
  unfold Zfi at e;by_cases f:p.length=0
  .rw [aF f]at e;exact absurd e O5
  .rw [aD f]at e;rcases bQ.1 e with rfl|e
   .exact⟨g,aH _,hs.mono O⟩
   .have o:=Od p;obtain⟨h,s,j⟩:=Zuy n (k+5) (Yx p) (Ni g) O (Gp hs l) q e;exact⟨h,O,j.mono O⟩
theorem Dk(h:Cvd xs):∀q∈Pg xs,Vp q/\Xm q<=6150/\q.length<=11:=λq g=>by have l:=h.l;obtain⟨f,j,e⟩:=Zuy xs.length 205 xs h.v.tr O h.s q g;have:=Qq e;exact⟨⟨e.mono O,f,O⟩,O,O⟩
theorem Zg3(h:Cvd xs):∀q∈Cq xs,Vp q/\Xm q<=6150/\q.length<=11:=λq f=>by
 have F:=h.l;unfold Cq at f;by_cases j:xs.length=0
 .rw [aF j]at f;exact absurd f O5
 .rw [aD j]at f;have l:xs≠[]:=λe=>j (by rw [e];rfl);obtain⟨g,o,s,v,w⟩:=Zby h l;obtain⟨u,B,D,n⟩:=chG 13 g.otr g.one s O O (show(Lt xs).length<=13+1 by omega);exact⟨Yet o g.one u q f,(n q f).1,by have:=(n q f).2;omega⟩
theorem Zj1(xs:List Int):(Cq xs).length<=1000:=by
 unfold Cq;split
 .exact bG _
 .have:=Zaq 13 (sqf 13 (Lt xs)) (Zx (Yx (sqf 13 (Lt xs))));unfold chn;omega
theorem Zsr(g:Xm p<=6150)(h:p.length<=11)(a:bl m.1.natAbs<=5300)(b:bl m.2.natAbs<=5300):¬Kq p m.1 m.2:=λf=>by
 have e:Xm [m.1,m.2]<=5300:=by show max (bl m.1.natAbs) (max (bl m.2.natAbs) 0)<=5300;omega
 have j:(p.length-1)*Xm [m.1,m.2]<=10*5300:=aR O e;have:=f.2;omega
def Zdb(h:Cvd xs)(a:bl m.1.natAbs<=5300)(b:bl m.2.natAbs<=5300):(∀p∈Pg xs,¬Kq p m.1 m.2)/\(∀p∈Cq xs,¬Kq p m.1 m.2):=
 ⟨λp e=>Zsr (Dk h p e).2.1 (Dk h p e).2.2 a b,λp e=>Zsr (Zg3 h p e).2.1 (Zg3 h p e).2.2 a b⟩
theorem Ygz(e:0<a.2)(f:0<b.2):((a.1*b.2-b.1*a.2:Int):Rat)=(qv a-qv b)*((a.2:Rat)*(b.2:Rat)):=by have g:=Gg e;have h:=Gg f;unfold qv;push_cast;grind
theorem Yo3(g:0<a.2)(j:0<b.2):cmp a b<0↔qv a<qv b:=by
 have e:=Ygz g j;have l:=bD (Gg g) (Gg j);unfold cmp;rw [Pe];constructor
 .intro h;have f:((a.1*b.2-b.1*a.2:Int):Rat)<0:=by exact_mod_cast h
  rcases(show qv a<qv b\/qv b<=qv a by grind)with q|q
  .exact q
  .have:=aJ (show 0<=qv a-qv b by grind) (Rat.le_of_lt l);grind
 .intro h;have:=bD (show 0<qv b-qv a by grind) l;have f:((a.1*b.2-b.1*a.2:Int):Rat)<0:=O4;exact_mod_cast f
theorem Zrh(f:0<a.2)(g:0<b.2):cmp a b=0↔qv a=qv b:=by
 have e:=Ygz f g;have l:=bD (Gg f) (Gg g);unfold cmp;rw [eP];constructor
 .intro h;rw [h]at e;rcases fE.1 (show(qv a-qv b)*((a.2:Rat)*(b.2:Rat))=0 by rw [<-e];rfl)with q|q
  .grind
  .rw [q]at l;grind
 .intro h;have j:((a.1*b.2-b.1*a.2:Int):Rat)=0:=by rw [e,h];grind
  exact_mod_cast j
theorem Zrg(g:0<a.2)(j:0<b.2):cmp a b<=0↔qv a<=qv b:=by
 have e:=Yo3 g j;have f:=Zrh g j;constructor
 .intro h;rcases(show cmp a b<0\/cmp a b=0 by omega)with q|q
  .exact dE (e.1 q)
  .have:=f.1 q;grind
 .intro h;rcases(show qv a<qv b\/qv a=qv b by grind)with q|q
  .exact eC (e.2 q)
  .exact oG (f.2 q)
def Yjc(e:0<m.2)(p:List Int):Ds m.1 m.2 p=Ea (Zf p (qv m)):=Zeb e p
theorem Ypb(h:Cvd xs)(l:xs≠[])(v:0<a.2)(n:0<b.2):crb (Cq xs) a b=true↔Zah 13 (Lt xs) (qv a) (qv b):=by
 obtain⟨j,G,H,I,P⟩:=Zby h l;have g:xs.length≠0:=λe=>l (aC e);unfold crb Zah Cq;rw [aD g];have B:∃r,chn 13 (Lt xs)=sqf 13 (Lt xs)::r:=by unfold chn Nu;split<;>exact⟨_,rfl⟩
 obtain⟨r,o⟩:=B;have s:∀m:R2,0<m.2->chv (chn 13 (Lt xs)) m=vch 13 (Lt xs) (qv m):=λm D=>(cvc_v (F:=13) (xs:=Lt xs) D);rw [aD (by rw [o];simp),s a v,s b n];have w:(chn 13 (Lt xs)).getD 0 []=sqf 13 (Lt xs):=by rw [o];rfl
 rw [w,Yjc n];have u:Ea (Zf (sqf 13 (Lt xs)) (qv b))=0↔Zf (Lt xs) (qv b)=0:=⟨λe=>(j.zero _).1 (Zs3 e),λe=>Zs4 ((j.zero _).2 e)⟩;by_cases f:Zf (Lt xs) (qv b)=0
 .rw [aF f,aF (u.2 f)];exact fG
 .rw [aD f,aD (λe=>f (u.1 e))];exact fG
theorem Zkc(f:0<m.2):vlu (Pg xs) m=Ea (Zf xs (qv m)):=by
 unfold vlu Pg;by_cases e:xs.length=0
 .have:xs=[]:=aC e;subst this;rfl
 .obtain⟨n,g⟩:∃n,xs.length=n+1:=⟨xs.length-1,O⟩;rw [g];unfold Zfi;rw [aD e,aD O5];exact Yjc f xs
theorem Zjt(h:Cvd xs)(g:0<a.2)(u:0<b.2)(s:qv a<=qv b):ngb (Pg xs) (Cq xs) a b=true↔Yej xs (qv a) (qv b):=by
 unfold ngb;by_cases l:cmp a b=0
 .rw [aF l,Zkc g,fG];have e:=(Zrh g u).1 l;constructor
  .intro f;refine⟨qv a,gJ,s,?_⟩;rcases Pj (Zf xs (qv a))with⟨o,j⟩|⟨o,j⟩|⟨o,j⟩
   .rw [j]at f;exact absurd f O3
   .exact o
   .rw [j]at f;exact absurd f O3
  .rintro⟨x,D,F,w⟩;have:x=qv a:=O4;rw [<-this,Zn3 w];decide
 .rw [aD l];have v:qv a<qv b:=by have:=λe=>l ((Zrh g u).2 e);grind
  by_cases n:xs=[]
  .subst n;constructor
   .intro f;exact absurd f (by show ¬(decide ((0:Int)<0) || false)=true;decide)
   .rintro⟨x,D,F,w⟩;exact absurd w (by show ¬(0:Rat)<0;grind)
  .obtain⟨B,G,H,I,P⟩:=Zby h n;rw [<-B.sem v,mP,fG,Ypb h n g u,show aft (Pg xs) a=Eo xs.length xs (qv a)from Zuz g _ _ (aH _)]
theorem Zu5(h:Cvd xs){m:Nat}(j:m<=100):Zcn xs m:=by refine .inr ?_;have g:=h.l;have l:=Qq h.s;have e:(xs.length+2)*(xs.length+2)<=13*13:=aR O O;have f:(xs.length+2)*(xs.length+2)*(Xm xs+m+2*(xs.length-1)+32)<=13*13*357:=aR e O;omega
theorem Zoq(h:xs.length=0):Pg xs=[]:=by unfold Pg;rw [h];rfl
theorem Ypa(h:xs.length=0):Cq xs=[]:=by unfold Cq;rw [aF h]
theorem Zrk(h:xs.length≠0):Cq xs=chn 13 (Lt xs):=by unfold Cq;rw [aD h]
theorem Zor:∀(n m:Nat) (p:List Int),p.length<=n->p.length<=m->Zfi n p=Zfi m p
 | 0,m,p,f,g=>by
  have e:p.length=0:=O;cases m with
  | zero=>rfl
  | succ m=>unfold Zfi;rw [aF e]
 | n+1,m,p,f,g=>by
  have h:=Od p;cases m with
  | zero=>unfold Zfi;rw [aF O]
  | succ m=>
   unfold Zfi;by_cases e:p.length=0
   .rw [aF e,aF e]
   .rw [aD e,aD e,Zor n m (Yx p) O O]
theorem Zed(h:p.length≠0):Pg p=p::Pg (Yx p):=by have f:=Od p;unfold Pg;obtain⟨n,e⟩:∃n,p.length=n+1:=⟨p.length-1,O⟩;rw [e,show Zfi (n+1) p=if p.length=0 then []else p::Zfi n (Yx p)from rfl,aD h,Zor n (Yx p).length (Yx p) O (aH _)]
def Ab(M:Nat)(p:List Int):Prop:=∀i,(cf p i).natAbs<=M
def Ab.sz{n:Nat}(h:Ab M p)(e:M<2^n):Sz n p:=λi=>(Qm n _).2 (aZ (h i) e)
def Ab.mono(h:Ab M p)(e:M<=N):Ab N p:=λi=>aB (h i) e
theorem Ep(h:Ab M p)(c:Int):Ab (M*c.natAbs) (Zs p c):=λi=>by rw [Yk,cH];exact aK _ (h i)
theorem Zsn{f:Nat->Int}{M n:Nat}(h:∀k,(f k).natAbs<=M)(e:∀k,n<=k->f k=0):∀m,(Yf f m).natAbs<=min m n*M
 | 0=>by show(0:Int).natAbs<=_;simp
 | m+1=>by
  have g:=Zsn h e m;rw [Yi];rcases bA m n with q|q
  .have:=h m;rw [show min (m+1) n=min m n+1 by omega,dB];omega
  .rw [e m q,fC,show min (m+1) n=min m n by omega];exact g
theorem Yli{n:Nat}(e:Ab M p)(f:Ab N q)(h:p.length<=n):Ab (n*(M*N)) (Qn p q):=λi=>by
 rw [Hh,PS.mul_c];exact aB (Zsn (n:=n) (M:=M*N) (λk=>by rw [cH];exact aR (e k) (f (i-k))) (λk g=>by show cf p k*_=0;rw [Yg O,cN]) _) (aK _ (Nat.min_le_right _ _))
theorem Zye(e:Ab M p)(f:Ab N q):Ab (M+N) (Fg p q):=λi=>by rw [Dw];have:=e i;have:=f i;omega
theorem Ylh(e:Ab M p)(f:Ab N q):Ab (M+N) (Dc p q):=λi=>by rw [Ix];have:=e i;have:=f i;omega
theorem ab_in(h:∀a∈c,Nz a):Ab (2^63) (tzl c):=λi=>by rw [Mv];obtain⟨e,f⟩:=Li h i;show(c.getD i 0).natAbs<=_;omega
theorem Zqo{n:Nat}(e:p.length<=n)(f:q.length<=n):(Fg p q).length<=n:=by unfold Fg;refine aB (Mp _) ?_;rw [Yu];omega
theorem Yae{n:Nat}(e:p.length<=n)(f:q.length<=n):(Dc p q).length<=n:=by unfold Dc;refine aB (Mp _) ?_;rw [Yu];omega
theorem Yaf{n m:Nat}(g:Tr p)(h:Tr q)(j:p.length<=n)(l:q.length<=m):(Qn p q).length<=n+m-1:=by
 by_cases e:p=[]
 .rw [e,Ff];exact bG _
 .by_cases f:q=[]
  .rw [f,Zbw];exact bG _
  .have:=Ov g h e f;omega
def dN:Nat->List Int->List Int
 | 0,p=>p
 | n+1,p=>Yx (dN n p)
def axQ(o:Nat)(c:List Int):List Int:=Zs (dN o (tzl c)) (1000^o)
def sqQ(o:Nat)(c:List Int):List Int:=Qn (axQ o c) (axQ o c)
def sumQ(o:Nat)(x y z:List Int):Nat->List Int
 | 0=>[]
 | i+1=>Fg (sumQ o x y z i) (sqQ o (Zp i x y z))
def kilo(o:Nat):Int:=Ax (List.replicate o 1000)
def timC(o:Nat)(m ov T:Int):Int:=Ax (m::ov::List.replicate o T)
def oneQ(o:Nat)(m ov T:Int):List Int:=Zs [1] (timC o m ov T)
def formP(o:Nat)(m ov T:Int)(x y z:List Int):List Int:=Zx (Dc (Qn (oneQ o m ov T) (oneQ o m ov T)) (sumQ o x y z 3))
structure Sgo (fr to ov:Int) (x y z:List Int):Prop where
 t1:0<=fr
 t2:fr<to
 t3:to<=3600000
 o1:1<=ov
 o2:ov<=4294967296
 hx:∀a∈x,Nz a
 hy:∀a∈y,Nz a
 hz:∀a∈z,Nz a
 lx:1<=x.length/\x.length<=6
 ly:1<=y.length/\y.length<=6
 lz:1<=z.length/\z.length<=6
def Sgo.hc{fr e:Int}{x:List Int}(h:Sgo fr e ov x y z)(i:Nat):∀a∈Zp i x y z,Nz a:=Kw h.hx h.hy h.hz i
def Sgo.lc{fr e:Int}{x:List Int}(h:Sgo fr e ov x y z)(i:Nat):1<=(Zp i x y z).length/\(Zp i x y z).length<=6:=Cc (p:=λl:List Int=>1<=l.length/\l.length<=6) h.lx h.ly h.lz
theorem Sgo.of{fr j:Int}{x:List Int}(v:∀a∈x,Nz a)(w:∀a∈y,Nz a)(B:∀a∈z,Nz a)(h:Cd fr j ov x y z=true):Sgo fr j ov x y z:=by unfold Cd Ycl axB at h;simp only [aQ,dQ]at h;obtain⟨⟨⟨⟨⟨⟨⟨⟨l,n⟩,o⟩,s⟩,u⟩,e⟩,f⟩,g⟩,-⟩:=h;exact⟨l,n,o,s,u,v,w,B,⟨e.1.1.1,e.1.1.2⟩,⟨f.1.1.1,f.1.1.2⟩,⟨g.1.1.1,g.1.1.2⟩⟩
def Mk:Nat->Nat
 | 0=>2^63
 | 1=>5*2^63
 | _=>4*(5*2^63)
theorem Zo4(h:c.length<=6):¬25<(tzl c).length:=by have:=Mp c;omega
def Lw(z:R2):Prop:=0<z.2/\Int.gcd z.1 z.2=1
theorem lgcd_p{y:Int}(e:0<y):Lv x y=(Int.gcd x y:Int):=by unfold Lv;rw [aD O]
theorem Yid{y:Int}(e:0<y):Lw (x/Lv x y,y/Lv x y):=by have f:0<Int.gcd x y:=Int.gcd_pos_of_ne_zero_right _ O;rw [lgcd_p e];refine⟨Int.ediv_pos_of_pos_of_dvd e O (jB ..),?_⟩;exact Int.gcd_ediv_gcd_ediv_gcd f
theorem Zqg(e:0<a.2)(h:¬Ia a.1 a.2):Lw (slow a):=by obtain⟨f,g,-⟩:=Zfb h;have:=Yid (x:=a.1) e;unfold slow;rw [f,g];exact this
theorem Yic(h:Zeu a b)(e:0<a.2)(f:0<b.2):Lw (Ob a b):=by obtain⟨j,l,-⟩:=Zfb h.2;have g:0<Ey (a.1*b.2+b.1*a.2) (a.2*b.2)*2:=iA (Zww h.1 (iA e f)) O3;have:=Yid (x:=Co (a.1*b.2+b.1*a.2) (a.2*b.2)*1) g;unfold Ob;rw [j,l];exact this
structure Hv (n Q j:Nat) (W:Rat) (a b:R2):Prop where
 hQ:0<Q
 hQ2:Q<2^(2*n)
 ea:En (2^n) Q j a
 eb:En (2^n) Q j b
 wd:(qv b-qv a)*((2^j:Nat):Rat)=W
 le:qv a<=qv b
 la:Lw a
 lb:Lw b
theorem Hv.start{n:Nat}(j:0<a.2)(l:0<b.2)(s:bl a.1.natAbs<=n)(D:bl a.2.natAbs<=n)(u:bl b.1.natAbs<=n)(F:bl b.2.natAbs<=n)(v:n<=65536)(o:qv a<=qv b):∃Q,Hv n Q 0 (qv b-qv a) (slow a) (slow b):=by
 obtain⟨S,V,Y,W,f⟩:=Zcm j s D v;obtain⟨t1,t2,t3,t4,t5⟩:=Zcm l u F v;have P:=(Qm n _).1 W;have R:=(Qm n _).1 t4;have w:=Zpv j (dZ ((Qm n _).1 s));have B:=Zpv l (dZ ((Qm n _).1 u));have g:0<(slow a).2.natAbs*(slow b).2.natAbs:=fW O O;have h:(slow a).2.natAbs*(slow b).2.natAbs<2^(2*n):=by rw [show 2*n=n+n by omega,bW];exact jF P (dZ R) (cE O3)
 generalize I:(slow a).2.natAbs*(slow b).2.natAbs=Q at *;have e:((Q*2^0:Nat):Int)=(slow a).2*(slow b).2:=by rw [fD,jH,<-I];push_cast;rw [kS O,kS O]
 have G:En (2^n) Q 0 (slow a):=⟨V,by rw [e];exact jC _ _,by rw [f];exact w.1,by rw [f];exact w.2⟩;have H:En (2^n) Q 0 (slow b):=⟨t2,by rw [e];exact Int.dvd_mul_left _ _,by rw [t5];exact B.1,by rw [t5];exact B.2⟩;exact⟨Q,g,h,G,H,by rw [f,t5,fD];push_cast;grind,by rw [f,t5];exact o,Zqg j S,Zqg l t1⟩
theorem Hv.mid{n Q j B:Nat}{W:Rat}(h:Hv n Q j W a b)(Z:3*n+2+j<=B)(o:B<=65536) :
  Zeu a b/\(bl (Ob a b).1.natAbs<=B/\bl (Ob a b).2.natAbs<=B/\0<(Ob a b).2)/\qv (Ob a b)=(qv a+qv b)/2/\(bl a.1.natAbs<=B/\bl a.2.natAbs<=B/\0<a.2)/\(bl b.1.natAbs<=B/\bl b.2.natAbs<=B/\0<b.2)/\
  Hv n Q (j+1) W a (Ob a b)/\Hv n Q (j+1) W (Ob a b) b:=by
 have f:∀m,m<=B->2^m<=2^B:=λm h=>dH O3 h;have l:Q*2^(j+1)<2^B:=by have:Q*2^(j+1)<2^(2*n)*2^(j+1):=eF h.hQ2 (cE O3);rw [<-bW]at this;exact dC this (f _ O)
 have s:2*2^n*(Q*2^j)<2^B:=by
  have H:Q*2^j<2^(2*n)*2^j:=eF h.hQ2 (cE O3);have D:2*2^n*(Q*2^j)<2*2^n*(2^(2*n)*2^j):=jI H (fW O3 (cE O3));have I:2*2^n*(2^(2*n)*2^j)=2^(3*n+1+j):=by rw [<-bW,<-nN,<-bW];congr 1;omega
  rw [I]at D;exact dC D (f _ O)
 obtain⟨G,u,v,R,S⟩:=mid_en h.ea h.eb h.hQ l s o;obtain⟨V,Y⟩:=Yjk (e:=j) (w:=0) (B:=B) h.ea h.hQ h.hQ2 O;obtain⟨r1,r2⟩:=Yjk (e:=j) (w:=0) (B:=B) h.eb h.hQ h.hQ2 O;have g:=Yic G h.ea.pos h.eb.pos;have F:((2^(j+1):Nat):Rat)=2*((2^j:Nat):Rat):=by rw [bX];push_cast;grind
 have P:=h.le;refine⟨G,⟨R,S,u.pos⟩,v,⟨V,Y,h.ea.pos⟩,⟨r1,r2,h.eb.pos⟩,⟨h.hQ,h.hQ2,h.ea.up,u,?_,O4,h.la,g⟩,⟨h.hQ,h.hQ2,u,h.eb.up,?_,O4,g,h.lb⟩⟩
 .rw [v,F,<-h.wd];grind
 .rw [v,F,<-h.wd];grind
def Ycn{n:Nat}(h:Sz k p)(e:k<=n)(i:Nat):(cf p i).natAbs<=2^n:=aB (Zhk h i) (dH O3 e)
theorem Ymn(h:Cvd xs)(j:xs≠[]):Ai 13 xs/\∀u v:Rat,-((2^34:Nat):Rat)<=u->u<=v->v<=((2^34:Nat):Rat)->v-u<=1/((2^5000:Nat):Rat)->vch 13 xs u-vch 13 xs v<=1:=by
 have F:=h.l;obtain⟨l,e,B,D⟩:=chG 13 h.v.tr j h.s O O O;have g:=Gp e O;have f:∀n,n<=11->2<=n->Zyy (2^34) (2^225) n 5000=true:=O6;obtain⟨n,o⟩:∃n:Nat,n=225:=⟨_,rfl⟩;rw [<-o]at f;have g:Sz n (Yx (sqf 13 xs)):=by rw [o];exact g
 have w:∀i,(cf (sqf 13 xs) i).natAbs<=2^n:=λi=>Ycn e O i;exact⟨l,λu v=>sep_of h.v.tr j l (cE O3) (A:=2^n) (cE O3) w (λi=>Zhk g i) (λs=>f _ O s) u v⟩
theorem Ydd{j e w:Nat}{x W:Rat}(v:1/((2^(e+1):Nat):Rat)<x)(B:x*((2^j:Nat):Rat)=W)(D:W<=((2^w:Nat):Rat)):j<e+1+w:=by
 have g:=two_pow_pos (e+1);have h:=two_pow_pos j;rcases bA j (e+1+w)with q|q
 .exact q
 .exfalso;have hi:0<((2^(e+1):Nat):Rat)⁻¹:=fZ.2 g;have f:((2^(e+1):Nat):Rat)*((2^(e+1):Nat):Rat)⁻¹=1:=lL _ O4;have l:((2^(e+1):Nat):Rat)*((2^w:Nat):Rat)<=((2^j:Nat):Rat):=by
   have:2^(e+1)*2^w<=2^j:=by rw [<-bW];exact dH O3 q
   exact_mod_cast this
  have n:((2^(e+1):Nat):Rat)⁻¹<x:=O4;have o:=bD (show 0<x-((2^(e+1):Nat):Rat)⁻¹ by grind) h;have s:=aJ (dE hi) (show 0<=((2^j:Nat):Rat)-((2^(e+1):Nat):Rat)*((2^w:Nat):Rat) by grind);have u:((2^(e+1):Nat):Rat)⁻¹*(((2^(e+1):Nat):Rat)*((2^w:Nat):Rat))=((2^w:Nat):Rat):=by rw [<-kO,kH (((2^(e+1):Nat):Rat)⁻¹),f,oK]
  grind
structure NIn (xs:List Int) (s t:Rat) (j:Nat) (a b:R2):Prop where
 ex:∃Q W,Hv 34 Q j W a b/\W<=((2^34:Nat):Rat)
 lo:s<=qv a
 hi:qv b<=t
 l0:-((2^33:Nat):Rat)<=s
 h0:t<=((2^33:Nat):Rat)
 pa:0<=Zf xs (qv a)
 pb:0<=Zf xs (qv b)
 ng:Yej xs (qv a) (qv b)
theorem rat34:((2^34:Nat):Rat)=2*((2^33:Nat):Rat)/\(1:Rat)<=((2^33:Nat):Rat):=by
 have h:∀n:Nat,((2^(n+1):Nat):Rat)=2*((2^n:Nat):Rat):=λn=>by rw [bX];push_cast;grind
 constructor
 .exact h 33
 .exact_mod_cast (show 1<=2^33 by decide)
theorem NIn.j{hi:Rat}{j:Nat}(g:Cvd xs)(f:xs≠[])(h:NIn xs lo hi j a b):j<5035:=by obtain⟨Q,W,l,n⟩:=h.ex;obtain⟨o,hs⟩:=Ymn g f;obtain⟨F,G⟩:=rat34;have u:=h.lo;have v:=h.hi;have B:=h.l0;have D:=h.h0;have:=Ynn (Zby g f).1 o (K:=2^34) (e:=5000) hs (s:=qv a) (t:=qv b) O4 O4 h.pa h.pb h.ng;exact Ydd (e:=5000) (w:=34) this l.wd n
theorem NIn.start(e:0<a.2)(f:0<b.2)(j:bl a.1.natAbs<=32)(D:bl a.2.natAbs<=32)(l:bl b.1.natAbs<=32)(F:bl b.2.natAbs<=32)(g:qv a<=qv b)(u:0<=Zf xs (qv a))(v:0<=Zf xs (qv b))(s:Yej xs (qv a) (qv b)) :
  NIn xs (qv a) (qv b) 0 (slow a) (slow b):=by
 obtain⟨Q,o⟩:=Hv.start (n:=34) e f O O O O O g;obtain⟨-,-,-,-,h⟩:=Zcm (n:=34) e O O O;obtain⟨-,-,-,-,t5⟩:=Zcm (n:=34) f O O O;have w:=Zpv (K:=2^33) e (aB (dZ ((Qm 32 _).1 j)) O3);have B:=Zpv (K:=2^33) f (aB (dZ ((Qm 32 _).1 l)) O3);obtain⟨G,H⟩:=rat34;exact⟨⟨Q,_,o,O4⟩,by rw [h];exact gJ,by rw [t5];exact gJ,w.1,B.2,by rw [h];exact u,by rw [t5];exact v,by rw [h,t5];exact s⟩
structure Fnd (xs:List Int) (s t:Rat) (m:R2):Prop where
 ng:Zf xs (qv m)<0
 lo:s<=qv m
 hi:qv m<=t
 b1:bl m.1.natAbs<=5200
 b2:bl m.2.natAbs<=5200
 lw:Lw m
theorem NIn.round{hi:Rat}{j:Nat}(D:Cvd xs)(P:xs≠[])(h:NIn xs lo hi j a b) :
  Zeu a b/\(bl (Ob a b).1.natAbs<=5200/\bl (Ob a b).2.natAbs<=5200/\0<(Ob a b).2)/\(bl a.1.natAbs<=5200/\bl a.2.natAbs<=5200/\0<a.2)/\(bl b.1.natAbs<=5200/\bl b.2.natAbs<=5200/\0<b.2)/\
  (vlu (Pg xs) (Ob a b)<0->Fnd xs lo hi (Ob a b))/\(¬vlu (Pg xs) (Ob a b)<0->ngb (Pg xs) (Cq xs) a (Ob a b)=true->NIn xs lo hi (j+1) a (Ob a b))/\
  (¬vlu (Pg xs) (Ob a b)<0->ngb (Pg xs) (Cq xs) a (Ob a b)=false->NIn xs lo hi (j+1) (Ob a b) b):=by
 have hj:=h.j D P;obtain⟨Q,W,v,w⟩:=h.ex;obtain⟨G,o,m3,u,H,Y,Z⟩:=v.mid (B:=5200) O O;have R:=v.le;have S:=h.lo;have V:=h.hi;have F:=Zkc (xs:=xs) o.2.2;have n:¬vlu (Pg xs) (Ob a b)<0->0<=Zf xs (qv (Ob a b)):=λe=>by
  rw [F]at e;rcases Pj (Zf xs (qv (Ob a b)))with⟨f,g⟩|⟨f,g⟩|⟨f,g⟩
  .exact dE f
  .rw [g]at e;exact absurd O3 e
  .rw [f];exact gJ
 have l:=Zjt D u.2.2 o.2.2 (show qv a<=qv (Ob a b) by grind);refine⟨G,o,u,H,λe=>?_,λe s=>?_,λe s=>?_⟩
 .have:Zf xs (qv (Ob a b))<0:=by
   rw [F]at e;rcases Pj (Zf xs (qv (Ob a b)))with⟨f,g⟩|⟨f,g⟩|⟨f,g⟩
   .rw [g]at e;exact absurd e O3
   .exact f
   .rw [g]at e;exact absurd e O3
  exact⟨this,O4,O4,o.1,o.2.1,Yic G u.2.2 H.2.2⟩
 .exact⟨⟨Q,W,Y,w⟩,S,O4,h.l0,h.h0,h.pa,n e,l.1 s⟩
 .refine⟨⟨Q,W,Z,w⟩,O4,V,h.l0,h.h0,n e,h.pb,?_⟩;obtain⟨x,x1,x2,I⟩:=h.ng;rcases(show x<=qv (Ob a b)\/qv (Ob a b)<=x by grind)with q|q
  .have:=l.2 ⟨x,x1,q,I⟩;rw [s]at this;exact absurd this O3
  .exact⟨x,q,x2,I⟩
def frs(xs:List Int):Nat->R2->R2->R2×R2
 | 0,a,b=>(a,b)
 | n+1,a,b=>if ngb (Pg xs) (Cq xs) a (Ob a b)then frs xs n a (Ob a b)else frs xs n (Ob a b) b
structure E32 (a:R2):Prop where
 p:0<a.2
 b1:bl a.1.natAbs<=32
 b2:bl a.2.natAbs<=32
theorem E32.slow(h:E32 a):E32 (slow a)/\qv (Go.Sky.slow a)=qv a/\Lw (Go.Sky.slow a)/\¬Ia a.1 a.2:=by obtain⟨e,f,g,j,l⟩:=Zcm (n:=32) h.p h.b1 h.b2 O;exact⟨⟨f,g,j⟩,l,Zqg h.p e,e⟩
theorem Zja(g:0<m.2):vlu (Pg xs) m<0↔Zf xs (qv m)<0:=by
 rw [Zkc g];rcases Pj (Zf xs (qv m))with⟨f,e⟩|⟨f,e⟩|⟨f,e⟩
 .rw [e];constructor
  .intro h;exact absurd h O3
  .intro h;grind
 .rw [e];exact⟨λ_=>f,λ_=>O3⟩
 .rw [e,f];constructor
  .intro h;exact absurd h O3
  .intro h;grind
theorem end_l(l:E32 a)(e:qv a<=qv b)(h:vlu (Pg xs) (slow a)<0):Fnd xs (qv a) (qv b) (slow a):=by obtain⟨f,g,n,o⟩:=l.slow;have j:=(Zja f.p).1 h;exact⟨j,by rw [g];exact gJ,by rw [g];exact e,aB f.b1 O3,aB f.b2 O3,n⟩
theorem end_r(l:E32 b)(e:qv a<=qv b)(h:vlu (Pg xs) (slow b)<0):Fnd xs (qv a) (qv b) (slow b):=by obtain⟨f,g,n,o⟩:=l.slow;have j:=(Zja f.p).1 h;exact⟨j,by rw [g];exact e,by rw [g];exact gJ,aB f.b1 O3,aB f.b2 O3,n⟩
theorem Ydi(n:Cvd xs)(f:E32 a)(g:E32 b)(h:qv a<=qv b)(j:¬vlu (Pg xs) (slow a)<0)(l:¬vlu (Pg xs) (slow b)<0)(o:ngb (Pg xs) (Cq xs) a b=true) :
  NIn xs (qv a) (qv b) 0 (slow a) (slow b):=by
 obtain⟨v,w,B,D⟩:=f.slow;obtain⟨t1,t2,t3,t4⟩:=g.slow;have s:¬Zf xs (qv (slow a))<0:=λe=>j ((Zja v.p).2 e);have u:¬Zf xs (qv (slow b))<0:=λe=>l ((Zja t1.p).2 e);rw [w]at s;rw [t2]at u;exact NIn.start f.p g.p f.b1 f.b2 g.b1 g.b2 h O4 O4 ((Zjt n f.p g.p h).1 o)
theorem ngb_ne(h:ngb (Pg xs) (Cq xs) a b=true):xs≠[]:=λe=>by
 subst e;unfold ngb at h;split at h
 .exact absurd h (by show ¬decide ((0:Int)<0)=true;decide)
 .exact absurd h (by show ¬(decide ((0:Int)<0) || false)=true;decide)
theorem E32.efit(h:E32 a):efit a=true:=by have:=h.b1;have:=h.b2;unfold Go.Sky.efit;exact aN O
structure FIn (xs:List Int) (j:Nat) (a b:R2):Prop where
 ex:∃Q W,Hv 34 Q j W a b
 bj:j<=200
theorem FIn.start(e:E32 a)(f:E32 b)(g:qv a<=qv b):FIn xs 0 (slow a) (slow b):=by obtain⟨Q,h⟩:=Hv.start (n:=34) e.p f.p (aB e.b1 O3) (aB e.b2 O3) (aB f.b1 O3) (aB f.b2 O3) O g;exact⟨⟨Q,_,h⟩,O⟩
theorem FIn.round{j:Nat}(h:FIn xs j a b) :
  Zeu a b/\(bl (Ob a b).1.natAbs<=5200/\bl (Ob a b).2.natAbs<=5200/\0<(Ob a b).2)/\(bl a.1.natAbs<=5200/\bl a.2.natAbs<=5200/\0<a.2)/\(bl b.1.natAbs<=5200/\bl b.2.natAbs<=5200/\0<b.2)/\
  (j<200->FIn xs (j+1) a (Ob a b)/\FIn xs (j+1) (Ob a b) b):=by
 obtain⟨Q,W,e⟩:=h.ex;have v:=h.bj;obtain⟨g,l,w,n,o,s,u⟩:=e.mid (B:=5200) O O;exact⟨g,l,n,o,λf=>⟨⟨⟨Q,W,s⟩,O⟩,⟨⟨Q,W,u⟩,O⟩⟩⟩
theorem Ynm(g:E32 a)(j:E32 b)(f:qv a<=qv b)(hi:i<2)(h:vlu (Pg xs) ([slow a,slow b].getD i (0,0))<0):Fnd xs (qv a) (qv b) ([slow a,slow b].getD i (0,0)):=by
 rcases(show i=0\/i=1 by omega)with e|e
 .subst e;exact end_l g f h
 .subst e;exact end_r j f h
theorem Yoh(f:E32 a)(g:E32 b)(i:Nat)(hi:i<2):E32 ([slow a,slow b].getD i (0,0)):=by
 rcases(show i=0\/i=1 by omega)with e|e
 .subst e;exact f.slow.1
 .subst e;exact g.slow.1
def Yo4(e:E32 a)(f:E32 b)(h:¬0<cmp a b):qv a<=qv b:=(Zrg e.p f.p).1 O
def e32_0:E32 (0,1):=⟨O3,O3,O3⟩
def e32_1:E32 (1,1):=⟨O3,O3,O3⟩
def Ykl:¬0<cmp (0,1) (1,1):=O6
def He(xs:List Int):Bool:=ngb (Pg xs) (Cq xs) (0,1) (1,1)
def slS(d:List Int):Nat->Int
 | 0=>0
 | k+1=>slS d k+Ax [d.getD k 0,(k:Int)+1]
def fsS(d:List Int)(k:Nat):Int:=if k=0 then 0 else d.getD 0 0
def qr(a b:Int):R2:=(Co a b,Ey a b)
def bgS(c:List Int):Int:=fsS (c.drop 1) (c.drop 1).length
def enS(c:List Int):Int:=slS (c.drop 1) (c.drop 1).length
def bS(ov T:Int)(x y z:List Int):Nat->List R2
 | 0=>List.replicate 3 (0,0)
 | i+1=>(bS ov T x y z i).set i (qr (bgS (Zp i x y z)) (Ax [ov,T]))
def eS(ov T:Int)(x y z:List Int):Nat->List R2
 | 0=>List.replicate 3 (0,0)
 | i+1=>(eS ov T x y z i).set i (qr (enS (Zp i x y z)) (Ax [ov,T]))
def joinB(fr h ov:Int)(x y z:List Int)(e g f:Int)(j l n:List Int):Bool:=
 decide (qr (bgS j) (Ax [f,g-e])=qr (enS x) (Ax [ov,h-fr])/\qr (bgS l) (Ax [f,g-e])=qr (enS y) (Ax [ov,h-fr])/\qr (bgS n) (Ax [f,g-e])=qr (enS z) (Ax [ov,h-fr]))
def plT(c:List Int)(a d:Int)(k:Nat):Int:=c.getD k 0*(a^k*d^(5-(k:Int)).toNat)
def plS(c:List Int)(a d:Int):Nat->Int
 | 0=>0
 | k+1=>plS c a d k+plT c a d k
def pl(c:List Int)(a d:Int):Int:=plS c a d c.length
def atS(a d:Int)(x y z:List Int):Nat->List Int
 | 0=>List.replicate 3 0
 | i+1=>(atS a d x y z i).set i (pl (Zp i x y z) a d)
def gS(ov a d:Int)(x y z:List Int):Nat->Int
 | 0=>ov*d^5
 | i+1=>(Int.gcd (gS ov a d x y z i) (pl (Zp i x y z) a d):Int)
abbrev plV (p q r o:Int):Value:= .agg #[.bool (decide (p<0)),.string (Qv p.natAbs),.bool (decide (q<0)),.string (Qv q.natAbs),.bool (decide (r<0)),.string (Qv r.natAbs),.bool (decide (o<0)),.string (Qv o.natAbs)]
theorem Bi(a d:Int)(x y z:List Int):∀i,(atS a d x y z i).length=3
 | 0=>rfl
 | i+1=>by show(List.set _ _ _).length=3;rw [cM];exact Bi a d x y z i
theorem Ylc(a d:Int)(x y z:List Int)(h:i<3):atS a d x y z i=(atS a d x y z i).set i 0:=by
 match i,h with
 | 0,_=>rfl
 | 1,_=>rfl
 | 2,_=>rfl
theorem Zsy{l:List Int}(v:Int)(h:i<l.length):(l.set i v).getD i 0=v:=by rw [aG,List.getElem?_set_self h];rfl
theorem Zzs(h:∀x∈c,Nz x){a:Int}(j:0<=a/\a<=3600000)(l:1<=d/\d<=3600000)(n:k<=5):(a^k*d^(5-(k:Int)).toNat).natAbs<=3600000^5/\(plT c a d k).natAbs<=9223372036854775808*3600000^5:=by
 have e:(a^k*d^(5-(k:Int)).toNat).natAbs<=3600000^5:=by rw [cH,lM,lM];refine aB (aR (fK (show a.natAbs<=3600000 by omega) k) (fK (show d.natAbs<=3600000 by omega) _)) ?_;rw [<-bW,show k+(5-(k:Int)).toNat=5 by omega];exact aH _
 obtain⟨f,g⟩:=Li h k;refine⟨e,?_⟩;unfold plT;rw [cH];exact aR O e
theorem Zzu{c:List Int}(h:∀x∈c,Nz x){a d:Int}(e:0<=a/\a<=3600000)(f:1<=d/\d<=3600000):∀k,k<=6->(plS c a d k).natAbs<=k*(9223372036854775808*3600000^5)
 | 0,_=>by show(0:Int).natAbs<=_;decide
 | k+1,g=>by have j:=Zzu h e f k O;have:=(Zzs h e f (k:=k) O).2;show(plS c a d k+plT c a d k).natAbs<=_;rw [dB];omega
def Zdi(h:∀x∈c,Nz x){a:Int}(f:0<=a/\a<=3600000)(g:1<=d/\d<=3600000)(e:k<=6):bl (plS c a d k).natAbs<=180:=
 (Qm 180 _).2 (aZ (Zzu h f g k e) (aZ (aK _ e) O3))
theorem Zrt(h:∀x∈c,Nz x){a:Int}(g:0<=a/\a<=3600000)(j:1<=d/\d<=3600000)(l:k<=5):bl (a^k*d^(5-(k:Int)).toNat).natAbs<=180/\bl (plT c a d k).natAbs<=180:=by obtain⟨e,f⟩:=Zzs h g j l;exact⟨(Qm 180 _).2 (aZ e O3),(Qm 180 _).2 (aZ f O3)⟩
theorem Zid{a:Int}(f:0<=a/\a<=3600000)(e:k<=5):bl (a^k).natAbs<=180:=by refine(Qm 180 _).2 ?_;rw [lM];exact aZ (aB (fK (show a.natAbs<=3600000 by omega) k) (dH O3 e)) O3
theorem Zuj{fr l ov:Int}{x y z:List Int}(h:Sgo fr l ov x y z){a d:Int}(e:0<=a/\a<=3600000)(f:1<=d/\d<=3600000):∀i,0<gS ov a d x y z i/\bl (gS ov a d x y z i).natAbs<=180
 | 0=>by have g:=h.o1;have j:=h.o2;refine⟨iA O (kR O),(Qm 180 _).2 ?_⟩;show(ov*d^5).natAbs<_;rw [cH,lM];exact aZ (aR (show ov.natAbs<=4294967296 by omega) (fK (show d.natAbs<=3600000 by omega) 5)) O3
 | i+1=>by obtain⟨g,j⟩:=Zuj h e f i;have n:0<Int.gcd (gS ov a d x y z i) (pl (Zp i x y z) a d):=lF _ O;have o:=Zj6 (gS ov a d x y z i) (pl (Zp i x y z) a d);have s:bl (pl (Zp i x y z) a d).natAbs<=180:=Zdi (h.hc i) e f (h.lc i).2;show 0<((Int.gcd _ _:Nat):Int)/\bl ((Int.gcd _ _:Nat):Int).natAbs<=180;exact⟨O,O⟩
def sameP(ov a d:Int)(x y z:List Int)(e g f:Int)(h j l:List Int):Bool:=
 decide (pl x a d/gS ov a d x y z 3=pl h g f/gS e g f h j l 3/\pl y a d/gS ov a d x y z 3=pl j g f/gS e g f h j l 3/\pl z a d/gS ov a d x y z 3=pl l g f/gS e g f h j l 3/\ov*d^5/gS ov a d x y z 3=e*f^5/gS e g f h j l 3)
def Zlr(g ov:Int)(x y z:List Int)(e f:Int)(h j l:List Int):Bool:=decide (g=e) && sameP ov 1 1 x y z f 0 1 h j l
structure Gin (g:Zv):Prop where
 f:Nz g.1.1
 t:Nz g.1.2.1
 o:Nz g.1.2.2
 x:∀a∈g.2.1.2,Nz a
 y:∀a∈g.2.2.1.2,Nz a
 z:∀a∈g.2.2.2.2,Nz a
def seB(g:Zv):Bool:=Cd g.1.1 g.1.2.1 g.1.2.2 g.2.1.2 g.2.2.1.2 g.2.2.2.2
def meG(g h:Zv):Bool:=Zlr g.1.2.1 g.1.2.2 g.2.1.2 g.2.2.1.2 g.2.2.2.2 h.1.1 h.1.2.2 h.2.1.2 h.2.2.1.2 h.2.2.2.2
abbrev SgG (g:Zv):Prop:=Sgo g.1.1 g.1.2.1 g.1.2.2 g.2.1.2 g.2.2.1.2 g.2.2.2.2
def Kz{g:Zv}(h:Gin g)(e:seB g=true):SgG g:=Sgo.of h.x h.y h.z e
def Zei(ps:List Zv)(i:Nat):Bool:=seB (ps.getD i G0) && (decide (i=0) || meG (ps.getD (i-1) G0) (ps.getD i G0))
def Om(ps:List Zv):Bool:=(List.range ps.length).all (Zei ps) && decide (1<=ps.length) && decide (ps.length<=256)
theorem Zbx{ps:List Zv}(h:Zei ps i=true):seB (ps.getD i G0)=true:=by unfold Zei at h;rw [aQ]at h;exact h.1
theorem Yhp{ps:List Zv}(h:seB (ps.getD i G0)=false):Zei ps i=false:=by unfold Zei;rw [h];rfl
theorem Yhq{ps:List Zv}(h:seB (ps.getD i G0)=true)(e:i=0):Zei ps i=true:=by unfold Zei;rw [h,aN e];rfl
theorem Zhx{ps:List Zv}(h:seB (ps.getD i G0)=true)(e:0<i):Zei ps i=meG (ps.getD (i-1) G0) (ps.getD i G0):=by unfold Zei;rw [h,aM O];rfl
theorem Zgb{ps:List Zv}(hi:i<ps.length)(h:Zei ps i=false):Om ps=false:=by
 unfold Om;have:(List.range ps.length).all (Zei ps)=false:=by
  cases hb:(List.range ps.length).all (Zei ps)with
  | false=>rfl
  | true=>have:=cJ.1 hb i (fX.2 hi);rw [h]at this;cases this
 rw [this];rfl
theorem Zjq{ps:List Zv}(h:∀i,i<ps.length->Zei ps i=true):Om ps=decide (1<=ps.length/\ps.length<=256):=by unfold Om;rw [cJ.2 λi hi=>h i (fX.1 hi)];simp
theorem Zn2(g:Zv)(i:Nat):seB g=false\/(seB g=true/\i=0)\/(seB g=true/\0<i):=by
 cases seB g
 .exact .inl rfl
 .exact .inr (by rcases aV i with h|h;exact .inl ⟨rfl,h⟩;exact .inr ⟨rfl,h⟩)
theorem Gi{ps:List Zv}(h:Om ps=true):(∀i,i<ps.length->Zei ps i=true)/\1<=ps.length/\ps.length<=256:=by unfold Om at h;simp only [aQ,dQ]at h;exact⟨λi hi=>cJ.1 h.1.1 i (fX.2 hi),h.1.2,h.2⟩
open Go.ChangeShapes Go.WideShapes Go.ChangeAt Go.RowKit Go.Joins Go.Deep
open Go.Proofs
variable {P:Program} {W:World} {H:Type} {enc:TypeId×Value->H}
theorem Zh3{n:Int}(h:(Lit.int .i64 n).wf=true):Nz n:=by simp [Lit.wf,IntKind.has,IntKind.min,IntKind.max,IntKind.bits,IntKind.signed]at h;exact⟨O,O⟩
theorem Zox{w:World}{a:Addr}{v:Value}(h:w.cell? a=some v):a.spot=none/\a.block<w.heap.size:=by
 unfold World.cell? at h;split at h
 .rename_i c t f e;refine⟨?_,(bB.1 e).1⟩;cases hs:a.spot with
  | none=>rfl
  | some x=>rw [hs]at h;simp at h
 .cases h
theorem Zhw{t e:TypeId}{c:Value}{x:DataW H×List MemPlace}(hs:P.underlying t=some (.slice e))(he:P.underlying e=some (.int .i64))(hc:P.cellsOf e=1)(h:DataW.trod enc P W 0 (λ_=>true) true fuel t [c]=some x) :
  ∃(s:SL) (l:List Int),c=Xn s/\(Yw 1 Yl (Xn s) l).holds W/\∀a∈l,Nz a:=by
 rcases open_ints hs he hc h with⟨B,_⟩|⟨a,f,n,zs,B,_,hl,hm,hz,_,o,Z⟩
 .cases B;exact⟨(none,0,0),[],rfl,Dg 1 Yl W,λx Q=>by cases Q⟩
 .cases B;have a0:zs.length=n:=by simpa using hz
  have D:(zs.take f).length=f:=by rw [aS];omega
  by_cases hn:f=0
  .subst hn;exact⟨(some a,0,n),[],rfl,⟨⟨some a,n,rfl,hl,hm,.inl rfl⟩,λb R=>absurd rfl R.1⟩,λx Q=>by cases Q⟩
  .have c0:=o 0 O;obtain⟨g,v,w⟩:=a;rw [show(⟨g,v,w⟩:Addr).add 0=⟨g,v,w⟩from rfl]at c0;obtain⟨I,G⟩:=Zox c0;simp only at I G;subst I;refine⟨(some ⟨g,v,none⟩,f,n),zs.take f,rfl,⟨⟨some ⟨g,v,none⟩,n,by rw [D],by rw [D];exact hl,hm,.inr ⟨g,v,rfl,λi x hi j u V=>?_⟩⟩,λb R=>by cases R.2;exact G⟩,λx Q=>?_⟩
   .have S:i<f:=by
     rcases bA i f with h|h
     .exact h
     .rw [bF (by rw [D];exact h)]at hi;cases hi
    have Y:j=0:=by
     rcases j with _|j
     .rfl
     .simp [Value.cells]at V
    subst Y;have F:=o i O;rw [Ok]at F;rw [mH S]at hi;rw [aG,hi]at F;simp [Value.cells]at V;subst V;simpa using F
   .have F:=Z x (eN Q);have h3:=bounds_i64 F;exact⟨O,O⟩
theorem Ycx {t ti ts e:TypeId} {f0 f1 f2 f3 f4 f5:Field} {cs:List Value}  {x:DataW H×List MemPlace} (ht:P.underlying t=some (.struct #[f0,f1,f2,f3,f4,f5]))
  (h0:f0.type=ti) (h1:f1.type=ti) (h2:f2.type=ti) (h3:f3.type=ts) (h4:f4.type=ts) (h5:f5.type=ts) (o0:f0.offset=0) (o1:f1.offset=1) (o2:f2.offset=2) (o3:f3.offset=3) (o4:f4.offset=4) (o5:f5.offset=5)
  (hi:P.underlying ti=some (.int .i64)) (hs:P.underlying ts=some (.slice e)) (v:P.underlying e=some (.int .i64)) (s:P.cellsOf e=1) (j:P.cellsOf ti=1) (l:P.cellsOf ts=1) (hC:P.cellsOf t=6)
  (h:DataW.trod enc P W 0 (λ_=>true) true fuel t cs=some x):∃g:Zv,cs=[.int .i64 g.1.1,.int .i64 g.1.2.1,.int .i64 g.1.2.2,Xn g.2.1.1,Xn g.2.2.1.1,Xn g.2.2.2.1]/\(qG g).holds W/\Gin g:=by
 obtain⟨xs,n,_,hx,hl,o,f⟩:=DataW.trod_struct ht h;rw [hC]at hl
 match cs,hl with
 | [c0,c1,c2,c3,c4,c5],_=>
 match xs,o with
 | [y0,y1,y2,y3,y4,y5],_=>
 have Q:=f 0 f0 rfl;have R:=f 1 f1 rfl;have S:=f 2 f2 rfl;have V:=f 3 f3 rfl;have Y:=f 4 f4 rfl;have Z:=f 5 f5 rfl;rw [h0,o0,j]at Q;rw [h1,o1,j]at R;rw [h2,o2,j]at S;rw [h3,o3,l]at V;rw [h4,o4,l]at Y;rw [h5,o5,l]at Z;obtain⟨m0,q0,w0⟩:=DataW.trod_int hi Q;obtain⟨m1,q1,w1⟩:=DataW.trod_int hi R;obtain⟨m2,q2,w2⟩:=DataW.trod_int hi S;obtain⟨sx,x,rfl,w,B⟩:=Zhw (enc:=enc) hs v s (c:=c3) (x:=y3) V;obtain⟨sy,y,rfl,D,F⟩:=Zhw (enc:=enc) hs v s (c:=c4) (x:=y4) Y;obtain⟨sz,z,rfl,G,I⟩:=Zhw (enc:=enc) hs v s (c:=c5) (x:=y5) Z;simp at q0 q1 q2;subst q0;subst q1;subst q2;exact⟨((m0,m1,m2),(sx,x),(sy,y),(sz,z)),rfl,λu hu=>by
  simp only [bQ,fQ,lJ]at hu;rcases hu with rfl|rfl|rfl
  .exact w
  .exact D
  .exact G,⟨Zh3 w0.2,Zh3 w1.2,Zh3 w2.2,B,F,I⟩⟩
end Go.Sky
namespace Go.Sky
variable{xs p c y q:List Int}{m i:Nat}{a d x ov:Int}{b:Bool}{zs:List (SL×List Int)}{z d0:SL×List Int}{f:Nat->List Int}
def lessx(xs:List Int)(m:Int):List Int:=Dc xs (tzl [m])
def Zvt(xs:List Int)(m:Int):Prop:=∃x:Rat,0<=x/\x<=1/\Zf xs x<(m:Rat)
theorem Ydp{m n:Int}(h:Zvt xs m)(e:m<=n):Zvt xs n:=by
 obtain⟨x,a,b,c⟩:=h;have:(m:Rat)<=(n:Rat):=by exact_mod_cast e
 exact⟨x,a,b,O4⟩
def lws:List Int->Int
 | []=>0
 | c::p=>-(c.natAbs:Int)+lws p
theorem Yib{n:Nat} : ∀p:List Int,(∀c∈p,c.natAbs<=n)->-((p.length*n:Nat):Int)<=lws p/\lws p<=0
 | [],_=>by show -((0*n:Nat):Int)<=0/\(0:Int)<=0;omega
 | c::p,h=>by have g:=Yib p λd e=>h d (bI _ e);have j:=h c bR;show -(((p.length+1)*n:Nat):Int)<=-(c.natAbs:Int)+lws p/\-(c.natAbs:Int)+lws p<=0;rw [dB];omega
theorem Zz8{x:Rat}(g:0<=x)(k:x<=1):∀p:List Int,((lws p:Int):Rat)<=Zf p x
 | []=>by show((0:Int):Rat)<=0;exact gJ
 | c::p=>by
  have j:=Zz8 g k p;have o:=(Yib (n:=p.foldl (λm c=>max m c.natAbs) 0) p (λc e=>by
   have:∀(l:List Int) (a:Nat),(a<=l.foldl (λm c=>max m c.natAbs) a)/\∀c∈l,c.natAbs<=l.foldl (λm c=>max m c.natAbs) a:=λl=>by
    induction l with
    | nil=>intro a;exact⟨aH _,λc e=>absurd e O5⟩
    | cons d l j=>
     intro a;obtain⟨h,t⟩:=j (max a d.natAbs);refine⟨aB (Nat.le_max_left _ _) h,λc e=>?_⟩;rcases bQ.1 e with rfl|e
     .exact aB (Nat.le_max_right _ _) h
     .exact t c e
   exact(this p 0).2 c e)).2
  have r:((lws p:Int):Rat)<=0:=by exact_mod_cast o
  have e:((-(c.natAbs:Int):Int):Rat)<=(c:Rat):=by exact_mod_cast (show -(c.natAbs:Int)<=c by omega)
  have u:=aJ (show 0<=1-x by grind) (show 0<=-((lws p:Int):Rat) by grind);have s:=aJ g (show 0<=Zf p x-((lws p:Int):Rat) by grind);show((-(c.natAbs:Int)+lws p:Int):Rat)<=(c:Rat)+x*Zf p x;push_cast at e ⊢;grind
theorem Yie(xs:List Int):¬Zvt xs (lws xs):=by rintro⟨x,a,b,c⟩;have:=Zz8 a b xs;grind
theorem Ymy(xs:List Int):Zf xs 0=((cf xs 0:Int):Rat):=by
 cases xs with
 | nil=>rfl
 | cons c p=>show(c:Rat)+0*Zf p 0=(c:Rat);grind
theorem Ydq(xs:List Int):Zvt xs (cf xs 0+1):=by refine⟨0,O4,O3,?_⟩;rw [Ymy];push_cast;grind
theorem Ynq{l h:Int}(e:¬Zvt xs l)(g:Zvt xs h):l<h:=by
 rcases gY l h with q|q
 .exact q
 .exact absurd (Ydp g q) e
def Zsl(hs:Sz 40 xs)(i:Nat):(cf xs i).natAbs<1099511627776:=(Qm 40 _).1 (hs i)
theorem Yia(hs:Sz 40 xs)(s:xs.length<=9)(i:Nat):-9895604649984<=lws (xs.take i)/\lws (xs.take i)<=0:=by
 obtain⟨l,g⟩:=Yib (n:=1099511627776) (xs.take i) λc h=>by
  obtain⟨k,j,rfl⟩:=dX.1 h;have r:=Zsl hs k;rw [aS]at j;have e:(xs.take i)[k]=cf xs k:=by rw [List.getElem_take];unfold cf;rw [aG,aL O];rfl
  rw [e];omega
 have o:(xs.take i).length*1099511627776<=9*1099511627776:=aK _ (by rw [aS];omega);exact⟨O,g⟩
structure FlI (xs:List Int) (lo hi:Int):Prop where
 l:¬Zvt xs lo
 h:Zvt xs hi
 b1:-17592186044416<=lo
 b2:hi<=17592186044416
def FlI.lt{lo hi:Int}(h:FlI xs lo hi):lo<hi:=Ynq h.l h.h
theorem FlI.start(hs:Sz 40 xs)(e:xs.length<=9)(hi:xs.length<=i):FlI xs (lws (xs.take i)) (cf xs 0+1):=by have g:=Yia hs e i;have h:=Zsl hs 0;refine⟨by rw [bL hi];exact Yie xs,Ydq xs,O,O⟩
structure Ef (a:R2):Prop where
 p:0<a.2
 b1:bl a.1.natAbs<=512
 b2:bl a.2.natAbs<=512
def E32.ef{a:R2}(h:E32 a):Ef a:=⟨h.p,aB h.b1 O3,aB h.b2 O3⟩
def plx(a b:R2):Int:=a.1*b.2
def ply(a b:R2):Int:=b.1*a.2
def pld(a b:R2):Int:=a.2*b.2
def plc(xs:List Int)(a b:R2):List Int:=Le xs (plx a b) (ply a b-plx a b) (pld a b)
def psum(c:List Int)(d j:Nat)(i:Nat):Int:=Yf (λi=>cf c i*(Ot (d-i) (j-i):Int)) i
def plainB(xs:List Int)(a b:R2):Bool:=if xs.length=0 then true else(List.range xs.length).all λj=>decide (0<=psum (plc xs a b) (xs.length-1) j (min (j+1) (plc xs a b).length))
abbrev PTs:=Int×R2×R2
abbrev P0:PTs:=(0,(0,0),(0,0))
abbrev encP9 (z:PTs):Value:= .agg #[.int .i64 z.1,.bool (decide (z.2.1.1<0)),.string (Qv z.2.1.1.natAbs),.bool (decide (z.2.1.2<0)),.string (Qv z.2.1.2.natAbs),.bool (decide (z.2.2.1<0)),.string (Qv z.2.2.1.natAbs),.bool (decide (z.2.2.2<0)),.string (Qv z.2.2.2.natAbs)]
def shw(xs:List Int)(z:PTs):Bool:=if z.1=1 then plainB xs z.2.1 z.2.2 else if xs.length=0\/cmp z.2.1 z.2.2=0 then decide (0<=vlu (Pg xs) z.2.1)else decide (0<aft (Pg xs) z.2.1) && !crb (Cq xs) z.2.1 z.2.2
def okpB(xs:List Int)(l:R2)(z:PTs):Bool:=decide (cmp l z.2.1=0) && decide (¬0<cmp z.2.1 z.2.2) && shw xs z
def lst(a:R2)(ps:List PTs)(i:Nat):R2:=if i=0 then a else(ps.getD (i-1) P0).2.2
def chkP(xs:List Int)(ps:List PTs)(a b:R2):Bool:=decide (0<ps.length) && (List.range ps.length).all (λk=>okpB xs (lst a ps k) (ps.getD k P0)) && decide (cmp (lst a ps ps.length) b=0)
def ValP(ps:List PTs):Prop:=∀z∈ps,(z.1=1\/z.1=2)/\Ef z.2.1/\Ef z.2.2
theorem Ef.efit{a:R2}(h:Ef a):Go.Sky.efit a=true:=by have:=h.b1;have:=h.b2;unfold Go.Sky.efit;exact aN O
theorem Zms(h:(!b)=true):b=false:=by cases b<;>simp_all
theorem Zic(h:(!b)=false):b=true:=by cases b<;>simp_all
def Hu(f:Nat->Rat):Nat->Rat
 | 0=>0
 | n+1=>Hu f n+f n
def Mc(f:Nat->Rat)(n:Nat):Hu f (n+1)=Hu f n+f n:=rfl
theorem Lc{f g:Nat->Rat} : ∀n,(∀i,i<n->f i=g i)->Hu f n=Hu g n
 | 0,_=>rfl
 | n+1,h=>by rw [Mc,Mc,Lc n λi hi=>h i O,h n O]
theorem Db(f:Nat->Rat):∀n,Hu f (n+1)=f 0+Hu (λi=>f (i+1)) n
 | 0=>by show 0+f 0=f 0+0;grind
 | n+1=>by rw [Mc,Db f n,Mc];grind
theorem Zla(f g:Nat->Rat):∀n,Hu (λi=>f i+g i) n=Hu f n+Hu g n
 | 0=>by show(0:Rat)=0+0;grind
 | n+1=>by rw [Mc,Mc,Mc,Zla f g n];grind
theorem Ec(c:Rat)(f:Nat->Rat):∀n,Hu (λi=>c*f i) n=c*Hu f n
 | 0=>by show(0:Rat)=c*0;grind
 | n+1=>by rw [Mc,Mc,Ec c f n];grind
theorem Zmm(n:Nat):Ot n 0=1:=by cases n<;>rfl
def chz_s(n k:Nat):Ot (n+1) (k+1)=Ot n k+Ot n (k+1):=rfl
theorem Yk3{u w:Rat}(h:u+w=1):∀n,Hu (λj=>(Ot n j:Rat)*(u^j*w^(n-j))) (n+1)=1
 | 0=>by rw [Db];show((Ot 0 0:Nat):Rat)*(u^0*w^0)+0=1;rw [Zmm,eH,eH];push_cast;grind
 | n+1=>by
  have e:=Yk3 h n;rw [Db];have g:Hu (λi=>(Ot (n+1) (i+1):Rat)*(u^(i+1)*w^(n+1-(i+1)))) (n+1)=Hu (λi=>u*((Ot n i:Rat)*(u^i*w^(n-i)))) (n+1)+Hu (λi=>(Ot n (i+1):Rat)*(u^(i+1)*w^(n-i))) (n+1):=by rw [<-Zla];refine Lc _ λi hi=>?_;rw [chz_s,show n+1-(i+1)=n-i by omega,dS];push_cast;grind
  have k:Hu (λi=>(Ot n (i+1):Rat)*(u^(i+1)*w^(n-i))) (n+1)=Hu (λi=>(Ot n (i+1):Rat)*(u^(i+1)*w^(n-i))) n:=by rw [Mc,Zml n (n+1) O];push_cast;grind
  have l:w*Hu (λj=>(Ot n j:Rat)*(u^j*w^(n-j))) (n+1)=w^(n+1)+Hu (λi=>(Ot n (i+1):Rat)*(u^(i+1)*w^(n-i))) n:=by
   rw [<-Ec,Db,Zmm];congr 1
   .rw [jK,eH,dS];push_cast;grind
   .refine Lc _ λi hi=>?_;rw [show n-i=(n-(i+1))+1 by omega,dS w];grind
  rw [g,k,Ec,e];rw [e]at l;rw [Zmm,eH,jK];push_cast;grind
def Hb(d:Nat)(c:List Int)(j:Nat):Int:=Yf (λi=>cf c i*(Ot (d-i) (j-i):Int)) (j+1)
theorem brS_0(d:Nat)(a:Int)(c:List Int):Hb d (a::c) 0=a:=by unfold Hb;rw [Yi,Hr];show 0+a*((Ot (d-0) (0-0):Nat):Int)=a;rw [show 0-0=0 from rfl,Zmm];omega
theorem brS_s(d:Nat)(a:Int)(c:List Int)(j:Nat):Hb (d+1) (a::c) (j+1)=a*(Ot (d+1) (j+1):Int)+Hb d c j:=by unfold Hb;rw [Mr];congr 1;refine Xa λi hi=>?_;rw [show d+1-(i+1)=d-i by omega,show j+1-(i+1)=j-i by omega];rfl
theorem Ypo(d j:Nat):Hb d [] j=0:=by unfold Hb;exact(Zhl (m:=0) (bG _) λi _ _=>by rw [show cf [] i=0 from rfl,cN]).trans (Hr _)
theorem bern{u w:Rat}(h:u+w=1):∀(d:Nat) (c:List Int),c.length<=d+1->Hu (λj=>(Hb d c j:Rat)*(u^j*w^(d-j))) (d+1)=Zf c u
 | d,[],_=>by
  rw [Lc (g:=λ_=>0) (d+1) λi hi=>by rw [Ypo];push_cast;grind];show Hu (λ_=>0) (d+1)=0;have:∀n,Hu (λ_=>0) n=0:=λn=>by
   induction n with
   | zero=>rfl
   | succ n k=>rw [Mc,k];grind
  exact this _
 | 0,[a],_=>by rw [Mc,brS_0];show 0+(a:Rat)*(u^0*w^0)=(a:Rat)+u*0;rw [eH,eH];grind
 | 0,a::b::c,hl=>by simp at hl
 | d+1,a::c,hl=>by
  have k:=bern h d c (by simpa using hl);have e:=Yk3 h (d+1);rw [Db]at e;rw [Db,brS_0];have l:Hu (λi=>(Hb (d+1) (a::c) (i+1):Rat)*(u^(i+1)*w^(d+1-(i+1)))) (d+1)=(a:Rat)*Hu (λi=>(Ot (d+1) (i+1):Rat)*(u^(i+1)*w^(d+1-(i+1)))) (d+1)+u*Hu (λj=>(Hb d c j:Rat)*(u^j*w^(d-j))) (d+1):=by rw [<-Ec,<-Ec,<-Zla];refine Lc _ λi hi=>?_;rw [brS_s,show d+1-(i+1)=d-i by omega,dS];push_cast;grind
  rw [l,k];show _=(a:Rat)+u*Zf c u;rw [Zmm]at e;push_cast at e ⊢;grind
theorem Dx(a:Int):∀(c:List Int) (i:Nat),cf (c.map λx=>a*x) i=a*cf c i
 | [],i=>by rw [fS,show cf [] i=0 from rfl,dO]
 | x::c,0=>rfl
 | x::c,i+1=>Dx a c i
theorem Zwe(c:List Int)(a b e:Int)(u:Rat):Zf (mk (c.length+1) λt=>cf c t*a+(if t=0 then e else cf c (t-1)*b)) u=Zf c u*((a:Rat)+(b:Rat)*u)+(e:Rat):=by
 have h:Zf (mk (c.length+1) λt=>cf c t*a+(if t=0 then e else cf c (t-1)*b)) u=Zf (Mt (c.map λx=>a*x) (e::c.map λx=>b*x)) u:=Nw u _ _ λi=>by
  rw [Lk,Dx,Nq]
  match i with
  | 0=>rw [aF O,aF rfl];show cf c 0*a+e=a*cf c 0+e;rw [cQ]
  | i+1=>
   show _=a*cf c (i+1)+cf (c.map λx=>b*x) i;rw [Dx];by_cases hi:i<c.length
   .rw [aF O,aD O,eT,cQ,cQ (cf c i)]
   .rw [aD O,Yg (p:=c) (i:=i+1) O,Yg (p:=c) (i:=i) O];omega
 rw [h,Xi,Zl];show _+((e:Rat)+u*Zf (c.map λx=>b*x) u)=_;rw [Zl];grind
theorem Zs9(p:List Int)(a b d:Int){t u:Rat}(g:t*(d:Rat)=(a:Rat)+(b:Rat)*u):∀j,j+1<=p.length->Zf (Mu p a b d j) u=(d:Rat)^j*Zf (p.drop (p.length-1-j)) t
 | 0,h=>by
  have e:p.drop (p.length-1-0)=[cf p (p.length-1)]:=by rw [jK,eO O,kC O];congr 1;unfold cf;rw [aG,aL O];rfl
  rw [Ft,e,eH,Pu,Pu];grind
 | j+1,h=>by
  have k:=Zs9 p a b d g j O;have e:p.drop (p.length-1-(j+1))=cf p (p.length-2-j)::p.drop (p.length-1-j):=by rw [eO O,show p.length-1-(j+1)+1=p.length-1-j by omega];congr 1;unfold cf;rw [aG,aL O];show p[p.length-1-(j+1)]=p[p.length-2-j];congr 1;omega
  rw [Zov,Zwe,k,e,<-g];show _=(d:Rat)^(j+1)*((cf p (p.length-2-j):Rat)+t*Zf (p.drop (p.length-1-j)) t);rw [dS];push_cast;rw [dS];generalize (d:Rat)^j=D;grind
theorem Zk1(a b d:Int){t u:Rat}(g:t*(d:Rat)=(a:Rat)+(b:Rat)*u)(e:p.length≠0):Zf (Le p a b d) u=(d:Rat)^(p.length-1)*Zf p t:=by unfold Le;rw [aD e,Nw u (tzl _) _ (λi=>Mv _ i),Zs9 p a b d g (p.length-1) O,gX,gO]
def Pa(c:List Int)(a b d:Int):List Int:=Zs (Le (tzl c) a b d) (d^(6-c.length))
def Zb8(h:a.natAbs<=3600000):bl a.natAbs<=22:=(Qm 22 _).2 (aZ h O3)
theorem Zoy(h:bl d.natAbs<=22):∀k,k<=5->bl (d^k).natAbs<=132
 | 0,_=>by rw [cL];decide
 | k+1,g=>by
  have e:∀k,bl (d^k).natAbs<=22*k+1:=λk=>by
   induction k with
   | zero=>rw [cL];decide
   | succ k j=>rw [dA];have:=Yq (d^k) d;omega
  have:=e (k+1);omega
theorem Zia(h:∀a∈c,Nz a)(v:1<=c.length/\c.length<=6){b:Int}(t:a.natAbs<=3600000)(u:b.natAbs<=3600000)(H:1<=d/\d<=3600000) :
  Vp (tzl c)/\¬Zmj (tzl c) a b d/\Vp (Le (tzl c) a b d)/\bl (d^(6-c.length)).natAbs<=132/\(∀i,bl (cf (Le (tzl c) a b d) i*d^(6-c.length)).natAbs<=65536)/\Vp (Pa c a b d)/\Sz 1000 (Pa c a b d)/\(Pa c a b d).length<=6:=by
 have D:(tzl c).length<=6:=aB (Mp c) v.2;have n:Sz 64 (tzl c):=(ab_in h).sz O3;have o:=Zb8 t;have r:=Zb8 u;have g:bl d.natAbs<=22:=Zb8 O;have l:=cp_not (cp_nf n o r g O O);have hs:Sz 300 (Le (tzl c) a b d):=by
  have h:=Zje (x:=a) (y:=b) (z:=d) (m:=22) n o r g ((tzl c).length-1);unfold Le;split
  .exact Sz.nil _
  .refine(Sz.tzl h).mono ?_;have:((tzl c).length-1)*(22+1)<=5*23:=aR O O;omega
 have B:Tr (Le (tzl c) a b d):=by
  unfold Le;split
  .exact .inl rfl
  .exact Qg _
 have j:(Le (tzl c) a b d).length<=6:=aB (Zfc _ _ _ _) D;have w:=Zoy g (6-c.length) O;have s:∀i,bl (cf (Le (tzl c) a b d) i*d^(6-c.length)).natAbs<=500:=λi=>by have F:=hs i;have G:=Yq (cf (Le (tzl c) a b d) i) (d^(6-c.length));omega
 have e:Sz 1000 (Pa c a b d):=λi=>by unfold Pa;rw [Yk];have:=s i;omega
 have k:(Pa c a b d).length<=6:=aB (Pt _ _) j;exact⟨⟨n.mono O,Qg _,O⟩,l,⟨hs.mono O,B,O⟩,w,λi=>by have:=s i;omega,⟨e.mono O,Qe _ _,O⟩,e,k⟩
def Zts(zs:List (SL×List Int)):List (SL×List Int):=zs ++ List.replicate (3-zs.length) ((none,0,0),[])
theorem Yij(h:zs.length<=3):(Zts zs).length=3:=by unfold Zts;rw [aY,aT];omega
theorem Yhj(hi:i<3)(h:zs.length=i):(Zts zs).set i z=Zts (zs ++ [z]):=by subst h;unfold Zts;rw [List.set_append_right _ _ (aH _),gX,aY,eD];congr 1;obtain⟨k,e⟩:∃k,3-zs.length=k+1:=⟨2-zs.length,O⟩;rw [e,jS,nQ,show 3-(zs.length+[z].length)=k by simp;omega];rfl
theorem Zvd{t:Nat}{s:SL}(g:zs.length=i)(h:∀t,t<i->(zs.getD t d0).2=f t)(j:t<i+1):((zs ++ [(s,f i)]).getD t d0).2=f t:=by
 subst g;rw [aG];rcases bC.1 j with e|e
 .rw [cW e,<-aG];exact h t e
 .subst e;simp
theorem Ye1{x z:List Int}{b:Int}(k:zs.length=3)(h:∀t,t<3->(zs.getD t d0).2=Pa (Zp t x y z) a b d):∃l n o:SL,zs=[(l,Pa x a b d),(n,Pa y a b d),(o,Pa z a b d)]:=by
 match zs,k with
 | [r,s,u],_=>
  have e:=h 0 O3;have g:=h 1 O3;have j:=h 2 O3;simp [Zp]at e g j;exact⟨r.1,s.1,u.1,by rw [<-e,<-g,<-j]⟩
def Yjx:List Int->List Int
 | []=>[]
 | a::p=>a::0::Yjx p
theorem Zpm(x:Rat):∀p:List Int,Zf (Yjx p) x=Zf p (x*x)
 | []=>rfl
 | a::p=>by show(a:Rat)+x*(((0:Int):Rat)+x*Zf (Yjx p) x)=(a:Rat)+x*x*Zf p (x*x);rw [Zpm x p];push_cast;grind
theorem Zx0:∀(p:List Int) (i:Nat),cf (Yjx p) (2*i)=cf p i
 | [],i=>rfl
 | a::p,0=>rfl
 | a::p,i+1=>by show cf (0::Yjx p) (2*i+1)=cf p i;exact Zx0 p i
theorem sq_nn(x:Rat):0<=x*x:=by
 rcases(show 0<=x\/x<=0 by grind)with h|h
 .exact aJ h h
 .have:=aJ (show 0<=-x by grind) (show 0<=-x by grind);grind
theorem Zs8(h:∀x:Rat,0<=x->Zf p x=Zf q x)(i:Nat):cf p i=cf q i:=by rw [<-Zx0 p,<-Zx0 q];exact Nj (λx=>by rw [Zpm,Zpm];exact h _ (sq_nn x)) _
theorem Zjl(f:Nat->Int)(x:Rat):∀n,Zf (mk n f) x=Hu (λj=>(f j:Rat)*x^j) n
 | 0=>rfl
 | n+1=>by rw [Gy,Zs7,Zjl f x n,Yu,Mc]
def NN(p:List Int):Prop:=∀i,0<=cf p i
theorem NN.smul{c:Int}(e:0<=c)(h:NN p):NN (p.map λa=>c*a):=λi=>by rw [Dx];exact eK e (h i)
theorem NN.add(e:NN p)(g:NN q):NN (Mt p q):=λi=>by rw [Lk];exact Int.add_nonneg (e i) (g i)
theorem NN.lmul{q:List Int}(e:NN q):∀{p:List Int},NN p->NN (lmul p q)
 | [],_=>λi=>by show 0<=cf [] i;rw [show cf [] i=0 from rfl];exact fA _
 | c::p,h=>NN.add (NN.smul (h 0) e) λi=>by
  match i with
  | 0=>exact fA _
  | i+1=>exact NN.lmul e (p:=p) (λj=>h (j+1)) i
def lpw(l:List Int):Nat->List Int
 | 0=>[1]
 | k+1=>lmul l (lpw l k)
theorem Zpj(l:List Int)(x:Rat):∀k,Zf (lpw l k) x=Zf l x^k
 | 0=>by rw [eH];show((1:Int):Rat)+x*0=1;push_cast;grind
 | k+1=>by rw [show lpw l (k+1)=lmul l (lpw l k)from rfl,Yc,Zpj l x k,dS,kH]
theorem NN.lpw{l:List Int}(h:NN l):∀k,NN (lpw l k)
 | 0=>λi=>by
  show 0<=cf [1] i
  match i with
  | 0=>exact Int.one_nonneg
  | i+1=>exact fA _
 | k+1=>NN.lmul (NN.lpw h k) h
theorem NN.two{b:Int}(e:0<=a)(g:0<=b):NN [a,b]:=λi=>by
 match i with
 | 0=>exact e
 | 1=>exact g
 | i+2=>exact fA _
def sQ(f:Nat->Int)(W:Nat->List Int):Nat->List Int
 | 0=>[]
 | k+1=>Mt (sQ f W k) ((W k).map λa=>f k*a)
theorem Zwd(f:Nat->Int)(W:Nat->List Int)(x:Rat):∀k,Zf (sQ f W k) x=Hu (λi=>(f i:Rat)*Zf (W i) x) k
 | 0=>rfl
 | k+1=>by rw [show sQ f W (k+1)=Mt (sQ f W k) ((W k).map λa=>f k*a)from rfl,Xi,Zwd f W x k,Zl,Mc]
theorem sQ_le{f g:Nat->Int}{W:Nat->List Int}{B:Int}(l:∀i,NN (W i)):∀k,(∀i,i<k->((f i).natAbs:Int)<=B*g i)->∀j,((cf (sQ f W k) j).natAbs:Int)<=B*cf (sQ g W k) j
 | 0,_,j=>by show((cf [] j).natAbs:Int)<=B*cf [] j;rw [show cf [] j=0 from rfl];simp
 | k+1,h,j=>by
  have v:=sQ_le l k (λi hi=>h i O) j;have n:=h k O;show((cf (Mt (sQ f W k) ((W k).map λa=>f k*a)) j).natAbs:Int)<=B*cf (Mt (sQ g W k) ((W k).map λa=>g k*a)) j;rw [Lk,Lk,Dx,Dx,kP,<-eE];have o:=l k j;have u:((f k*cf (W k) j).natAbs:Int)<=B*g k*cf (W k) j:=by rw [cH];push_cast;have e:((cf (W k) j).natAbs:Int)=cf (W k) j:=O;rw [e];exact eY n o
  generalize B*g k*cf (W k) j=t at *;generalize f k*cf (W k) j=s at *;generalize B*cf (sQ g W k) j=r at *;omega
theorem Zlm(a b:Rat):∀n:Nat,(a*b)^n=a^n*b^n
 | 0=>by rw [eH,eH,eH];grind
 | n+1=>by rw [dS,dS,dS,Zlm a b n];grind
theorem Yce(a:Rat)(m:Nat):∀n:Nat,a^(m+n)=a^m*a^n
 | 0=>by rw [eG,eH];grind
 | n+1=>by rw [<-fR,dS,dS,Yce a m n];grind
theorem Yk4{U V S:Rat}(h:U+V=S)(n:S≠0){d:Nat}(l:c.length<=d+1):Hu (λj=>(Hb d c j:Rat)*(U^j*V^(d-j))) (d+1)=S^d*Zf c (U/S):=by
 rw [<-bern (u:=U/S) (w:=V/S) (by rw [<-h];grind) d c l,<-Ec];refine Lc _ λj o=>?_;have e:U^j=S^j*(U/S)^j:=by rw [<-Zlm];congr 1;grind
 have g:V^(d-j)=S^(d-j)*(V/S)^(d-j):=by rw [<-Zlm];congr 1;grind
 have k:S^d=S^j*S^(d-j):=by rw [<-Yce];congr 1;omega
 rw [e,g,k];grind
theorem Yb4{U V S:Rat}(h:U+V=S)(l:S≠0)(d:Nat):Hu (λj=>(Ot d j:Rat)*(U^j*V^(d-j))) (d+1)=S^d:=by
 have:=Yk3 (u:=U/S) (w:=V/S) (by rw [<-h];grind) d;rw [<-Rat.mul_one (S^d),<-this,<-Ec];refine Lc _ λj n=>?_;have e:U^j=S^j*(U/S)^j:=by rw [<-Zlm];congr 1;grind
 have g:V^(d-j)=S^(d-j)*(V/S)^(d-j):=by rw [<-Zlm];congr 1;grind
 have k:S^d=S^j*S^(d-j):=by rw [<-Yce];congr 1;omega
 rw [e,g,k];grind
theorem Zy9(a b:Int)(x:Rat):Zf [a,b] x=(a:Rat)+(b:Rat)*x:=by show(a:Rat)+x*((b:Rat)+x*0)=_;grind
theorem onepw(n:Nat):(1:Rat)^n=1:=by
 induction n with
 | zero=>rw [eH]
 | succ n e=>rw [dS,e];grind
theorem Zdh(d:Int)(n:Nat):((d^n:Int):Rat)=(d:Rat)^n:=by
 induction n with
 | zero=>rw [cL,eH];rfl
 | succ n e=>rw [dA,dS,<-e];push_cast;rfl
def Wij(a e d:Int)(n i:Nat):List Int:=lmul (lpw [a,e] i) (lpw [d-a,d-e] (n-i))
def Wij_nn{e:Int}(g:0<=a)(h:0<=e)(j:a<=d)(k:e<=d)(n i:Nat):NN (Wij a e d n i):=NN.lmul (NN.lpw (NN.two O O) _) (NN.lpw (NN.two g h) _)
theorem Zza(a e d:Int)(n i:Nat)(x:Rat):Zf (Wij a e d n i) x=((a:Rat)+(e:Rat)*x)^i*(((d-a:Int):Rat)+((d-e:Int):Rat)*x)^(n-i):=by unfold Wij;rw [Yc,Zpj,Zpj,Zy9,Zy9]
theorem Ypq {X:List Int} {n:Nat} (hl:c.length<=n+1) (hX:X.length<=n+1) {b B:Int} (ha:0<=a) (hb:0<=b) (H:a+b<=d) (N:0<d) (hr:∀t u:Rat,t*(d:Rat)=(a:Rat)+(b:Rat)*u->Zf X u=(d:Rat)^m*Zf c t)
  (hB:∀j,j<n+1->((Hb n c j).natAbs:Int)<=B*(Ot n j:Int)):∀j,j<n+1->((Hb n X j).natAbs:Int)<=B*d^m*(Ot n j:Int):=by
 have R:(0:Rat)<(d:Rat):=by exact_mod_cast N
 have k:∀x:Rat,0<=x->(x+1)≠0:=λx e h=>O4;have o:∀x:Rat,((a:Rat)+((a+b:Int):Rat)*x)+(((d-a:Int):Rat)+((d-(a+b):Int):Rat)*x)=(d:Rat)*(x+1):=λx=>by push_cast;grind
 have l:∀x:Rat,0<=x->(d:Rat)*(x+1)≠0:=λx e h=>by have:=bD R (show(0:Rat)<x+1 by grind);grind
 have Y:∀x:Rat,0<=x->Zf (sQ (λi=>(Ot n i:Int)) (Wij a (a+b) d n) (n+1)) x=Zf (mk (n+1) λj=>d^n*(Ot n j:Int)) x:=λx e=>by
  rw [Zwd,Zjl];have w:=Yb4 (o x) (l x e) n;have D:=Yb4 (U:=x) (V:=1) (S:=x+1) rfl (k x e) n;have F:Hu (λi=>(((Ot n i:Nat):Int):Rat)*Zf (Wij a (a+b) d n i) x) (n+1)=((d:Rat)*(x+1))^n:=by rw [<-w];exact Lc _ λj s=>by rw [Zza];push_cast;rfl
  rw [F,Zlm,<-D,<-Ec];refine Lc _ λj s=>?_;rw [onepw];push_cast;rw [<-Zdh];push_cast;grind
 have Z:∀x:Rat,0<=x->Zf (mk (n+1) λj=>d^n*Hb n X j) x=Zf ((sQ (Hb n c) (Wij a (a+b) d n) (n+1)).map λq=>d^m*q) x:=λx e=>by
  rw [Zl,Zwd,Zjl];have w:=Yk4 (o x) (l x e) hl;have D:=Yk4 (U:=x) (V:=1) (S:=x+1) rfl (k x e) hX;have F:Hu (λi=>((Hb n c i:Int):Rat)*Zf (Wij a (a+b) d n i) x) (n+1)=((d:Rat)*(x+1))^n*Zf c (((a:Rat)+((a+b:Int):Rat)*x)/((d:Rat)*(x+1))):=by rw [<-w];exact Lc _ λj s=>by rw [Zza]
  have e4:Hu (λj=>((d^n*Hb n X j:Int):Rat)*x^j) (n+1)=(d:Rat)^n*Hu (λj=>(Hb n X j:Rat)*(x^j*1^(n-j))) (n+1):=by rw [<-Ec];refine Lc _ λj s=>?_;rw [onepw,<-Zdh];push_cast;grind
  rw [F,e4,D,hr (((a:Rat)+((a+b:Int):Rat)*x)/((d:Rat)*(x+1))) (x/(x+1)) ?_,Zlm,Zdh]
  .grind
  .have G:=k x e;have v:(d:Rat)≠0:=O4;push_cast;grind
 have I:=Zs8 Y;have M:=Zs8 Z;intro j s;have G:=I j;have v:=M j;rw [Nq,aF s]at G v;rw [Dx]at v;have h3:=sQ_le (f:=Hb n c) (g:=λi=>(Ot n i:Int)) (W:=Wij a (a+b) d n) (B:=B) (Wij_nn ha O O H n) (n+1) hB j;rw [G]at h3;have Q:0<d^n:=kR N;have P:0<=d^m:=eC (kR N);have h4:((d^n*Hb n X j).natAbs:Int)=d^n*((Hb n X j).natAbs:Int):=by rw [cH];push_cast;rw [show((d^n).natAbs:Int)=d^n by omega]
 have h5:((d^m*cf (sQ (Hb n c) (Wij a (a+b) d n) (n+1)) j).natAbs:Int)=d^m*((cf (sQ (Hb n c) (Wij a (a+b) d n) (n+1)) j).natAbs:Int):=by rw [cH];push_cast;rw [show((d^m).natAbs:Int)=d^m by omega]
 have h6:=iL h3 P;rw [<-h5,<-v,h4]at h6;refine lS (a:=d^n) ?_ Q;refine Int.le_trans h6 (oG ?_);generalize d^n=p;generalize d^m=q;generalize (Ot n j:Int)=r;grind
theorem Ydz{s:Bool}(j:x.natAbs<=9223372036854775807)(h:sg s x):(x=0/\dg U x.natAbs=[])\/(s=true/\x<0/\dg U x.natAbs=[x.natAbs])\/(s=false/\0<x/\dg U x.natAbs=[x.natAbs]):=by
 have g:x.natAbs≠0->dg U x.natAbs=[x.natAbs]:=λk=>by have e:x.natAbs<U:=aZ j O3;rw [Zb3 O3 O,aW e,cP e];rfl
 rcases kE x 0 with q|q|q
 .right;left;refine⟨?_,q,g O⟩;cases s
  .have:=h.2 rfl;omega
  .rfl
 .subst q;exact .inl ⟨rfl,rfl⟩
 .right;right;refine⟨?_,q,g O⟩;cases s
  .rfl
  .have:=h.1 rfl;omega
theorem int_wn(e:x.natAbs<=9223372036854775807)(h:x<0):IntKind.i64.wrap (18446744073709551616-(x.natAbs:Int))=x:=by simp only [IntKind.wrap,IntKind.bits,IntKind.signed];simp;omega
theorem int_wp(e:x.natAbs<=9223372036854775807)(h:0<x):IntKind.i64.wrap ((([x.natAbs]:List Nat).getD 0 0:Nat):Int)=x:=by show IntKind.i64.wrap (x.natAbs:Int)=x;rw [Zbi ⟨O,O⟩];omega
theorem int_d0(e:x.natAbs<=9223372036854775807):¬((([x.natAbs]:List Nat).getD 0 0:Nat):Int)>=9223372036854775808:=by show ¬(x.natAbs:Int)>=_;omega
theorem Yin(e:x.natAbs<=9223372036854775807):¬((([x.natAbs]:List Nat).getD 0 0:Nat):Int)>9223372036854775808:=by show ¬(x.natAbs:Int)>_;omega
theorem int_m(h:x<0)(e:x.natAbs<=9223372036854775807):(-((([x.natAbs]:List Nat).getD 0 0:Nat):Int))%18446744073709551616=18446744073709551616-(x.natAbs:Int):=by show(-(x.natAbs:Int))%_=_;omega
abbrev Yi3 (o:Nat) (m:Int) (g:Zv):List Int:=formP o m g.1.2.2 (g.1.2.1-g.1.1) g.2.1.2 g.2.2.1.2 g.2.2.2.2
def Yik(o:Nat)(ps:List Zv)(m:Int):Bool:=ps.all λg=>!He (Yi3 o m g)
def Ymd(p:Nat->Bool):Nat->Nat->Nat->Nat
 | 0,i,_=>i
 | f+1,i,j=>if i<j then(if p ((i+j)/2)then Ymd p f i ((i+j)/2)else Ymd p f ((i+j)/2+1) j)else i
def Yl5(o:Nat)(ps:List Zv):Nat:=Ymd (λn=>Yik o ps (n:Int)) 14 0 10001
def joG(g h:Zv):Bool:=joinB g.1.1 g.1.2.1 g.1.2.2 g.2.1.2 g.2.2.1.2 g.2.2.2.2 h.1.1 h.1.2.1 h.1.2.2 h.2.1.2 h.2.2.1.2 h.2.2.2.2
def joAll(ps:List Zv):Bool:=(List.range ps.length).all λi=>decide (i=0) || joG (ps.getD (i-1) G0) (ps.getD i G0)
def topV(ps:List Zv):Int×Int×Int:=
 if 10000<Yl5 1 ps\/10000<Yl5 2 ps then(0,0,3)else if joAll ps then((Yl5 1 ps:Int),(Yl5 2 ps:Int),0)else(0,0,10)
theorem Zp5{ps:List Zv}(l:∀g∈ps,Gin g)(k:Om ps=true):∀g∈ps,SgG g:=λg j=>by obtain⟨i,hi,e⟩:=dX.1 j;have h:=Zbx ((Gi k).1 i hi);rw [aG,aL hi,fP,e]at h;exact Kz (l g j) h
def g8(g:Zv):Bool:=decide (g.2.1.2.length<=8) && decide (g.2.2.1.2.length<=8) && decide (g.2.2.2.2.length<=8)
def Zh5(ps:List Zv)(m:Nat):Bool:=(List.range ps.length).all (λi=>decide (m<i) || g8 (ps.getD i G0)) && decide (ps.length<=m)
theorem g8_t{g:Zv}(e:g.2.1.2.length<=8)(h:g.2.2.1.2.length<=8)(j:g.2.2.2.2.length<=8):g8 g=true:=by unfold g8;rw [aN e,aN h,aN j];rfl
theorem g8_f{g:Zv}(h:¬(g.2.1.2.length<=8/\g.2.2.1.2.length<=8/\g.2.2.2.2.length<=8)):g8 g=false:=by
 cases hb:g8 g with
 | false=>rfl
 | true=>
  unfold g8 at hb;simp only [aQ,dQ]at hb;exact absurd ⟨hb.1.1,hb.1.2,hb.2⟩ h
theorem Zxb{ps:List Zv}(hi:i<ps.length)(e:i<=m)(h:g8 (ps.getD i G0)=false):Zh5 ps m=false:=by
 cases hb:Zh5 ps m with
 | false=>rfl
 | true=>
  unfold Zh5 at hb;rw [aQ]at hb;have:=cJ.1 hb.1 i (fX.2 hi);rw [h,aM O]at this;cases this
theorem Yja{ps:List Zv}{n:Nat}(e:n=ps.length\/m<n)(h:∀k,k<n->g8 (ps.getD k G0)=true):Zh5 ps m=decide (ps.length<=m):=by
 unfold Zh5;rw [cJ.2 λi hi=>by
  have hi:=fX.1 hi;rcases bA m i with q|q
  .rw [aN q];rfl
  .rw [h i O,Bool.or_true]]
 rfl
theorem Yo9:∀n,n<=5->∀i,i<n->(Ot n i:Int)*((n:Int)-(i:Int))/((i:Int)+1)=(Ot n (i+1):Int):=by intro n g i hi;have e:∀n,n<6->∀i,i<n->(Ot n i:Int)*((n:Int)-(i:Int))/((i:Int)+1)=(Ot n (i+1):Int):=O6;exact e n O i hi
theorem getD3{α:Type}{a b c d:α}(h:i<3):[a,b,c].getD i d=Zp i a b c:=by
 match i,h with
 | 0,_=>rfl
 | 1,_=>rfl
 | 2,_=>rfl
theorem Yf3{α β:Type}(i:Nat)(a b c:α×β):(Zp i a b c).2=Zp i a.2 b.2 c.2:=by unfold Zp;split<;>rfl
theorem Zhc{e g j:SL}{x z:List Int}{d:SL×List Int}(h:i<3):([(e,x),(g,y),(j,z)].getD i d).2=Zp i x y z:=by rw [getD3 h,Yf3]
theorem Zv4{b:Int} : 0<(a-b).sign↔b<a:=by rw [sgp];omega
theorem Yfw{b:Int} : (a-b).sign<0↔a<b:=by rw [Pe];omega
def Yov(t m:Int):m<t\/(¬m<t/\t < -m)\/(¬m<t/\¬t < -m):=O
def axc(c:List Int):Bool:=!(decide (1<=c.length) && decide (c.length<=6) && !(decide (1<c.length) && decide (c.getD (c.length-1) 0=0)))
theorem axc_f(h:b=axc c)(e:b=false):1<=c.length/\c.length<=6/\¬(1<c.length/\c.getD (c.length-1) 0=0):=by subst h;unfold axc at e;simp only [Bool.not_eq_false',aQ,gC,iW,dQ,gD]at e;exact⟨e.1.1,e.1.2,λh=>by rcases e.2 with q|q;exact q h.1;exact q h.2⟩
theorem axc_t(h:b=axc c)(e:b=true):axB c ov=false:=by
 cases ha:axB c ov with
 | false=>rfl
 | true=>
  exfalso;unfold axB at ha;rw [aQ]at ha;have:axc c=false:=by unfold axc;rw [ha.1];rfl
  rw [h,this]at e;cases e
theorem Yca(h:¬1<=c.length):true=axc c:=by unfold axc;rw [aM h];rfl
theorem Yb9(h:¬c.length<=6):true=axc c:=by unfold axc;rw [aM h,lN];rfl
theorem Yb8(e:1<=c.length)(g:c.length<=6)(h:¬1<c.length):false=axc c:=by unfold axc;rw [aN e,aN g,aM h];rfl
theorem Yb7(e:1<=c.length)(g:c.length<=6)(h:1<c.length):decide (c.getD (c.length-1) 0=0)=axc c:=by unfold axc;rw [aN e,aN g,aN h];simp
theorem Ypt(h:bl ov.natAbs<=64):bl (62914560*ov).natAbs<=100:=by have e:=Yq 62914560 ov;have g:bl (62914560:Int).natAbs<=30:=O3;omega
end Go.Sky

