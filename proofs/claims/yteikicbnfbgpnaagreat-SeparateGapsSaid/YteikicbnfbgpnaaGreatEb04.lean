/- Rules, arithmetic and contracts: part 5. No conditions but those that each theorem names. -/
import Derived.Test.YteikicbnfbgpnaaGreatEb03
import Derived.Scope
set_option linter.all false
namespace Go.Sky
variable{a b p x y xs:List Int}{f:FuncId}{F i:Nat}{s:Int}{ls:List (SL×List Int)}{ats:Array TypeId}{vs:List Value}{pre:List Pc}{w0:World}{M0:Nat->Prop}{fn:Func}
def Psim(a b:List Int):Prop:=∃m n:Int,0<m/\0<n/\∀i,m*cf a i=n*cf b i
def Psim.refl(a:List Int):Psim a a:=⟨1,1,O2,O2,λ_=>rfl⟩
def Psim.symm : Psim a b->Psim b a:=λ⟨m,n,c,d,h⟩=>⟨n,m,d,c,λi=>(h i).symm⟩
theorem Psim.trans{c:List Int} : Psim a b->Psim b c->Psim a c:=λ⟨m,n,d,e,h⟩ ⟨u,v,g,j,k⟩=>
 ⟨m*u,n*v,Int.mul_pos d g,Int.mul_pos e j,λi=>by have l:=h i;have o:=k i;grind⟩
def Psim.sim : Psim a b->Sim a b:=λ⟨m,n,c,d,h⟩=>⟨m,n,O,O,h⟩
theorem Zeq(h:Tr p):Psim (Zz p) p:=by
 by_cases c:p=[]
 .subst c;exact Psim.refl _
 .exact⟨Ym p,1,by have:=Nb p;have:=Bt h c;omega,O2,λi=>by rw [Int.one_mul,Int.mul_comm];exact Gg p i⟩
theorem Zkw(g:Tr a)(j:Tr b)(h:Psim a b):Zz a=Zz b:=by
 by_cases c:a=[]
 .rw [h.sim.nil j c,c]
 .have k:b≠[]:=λe=>c (h.sim.symm.nil g e);obtain⟨m,n,B,D,e⟩:=(Zeq g).trans (h.trans (Zeq j).symm);have r:=Xb g;have w:=Xb j;have hs:Sim (Zz a) (Zz b):=⟨m,n,O,O,e⟩;have d:Zz a≠[]:=λe=>c (List.eq_nil_of_length_eq_zero (by rw [<-Ya,e];rfl));rcases Zkd r w d (Kd g c) (Kd j k) hs with l|l
  .exact l
  .exfalso;have q:=r.mem d;have o:=e ((Zz a).length-1);have t:=l ((Zz a).length-1);rw [t]at o q;generalize cf (Zz b) ((Zz a).length-1)=z at o q;rw [Int.mul_neg]at o;have u:(m+n)*z=0:=by rw [Int.add_mul];omega
   rcases Int.mul_eq_zero.1 u with v|v<;>omega
def Zbp(y:List Int):Int:=if cf y (y.length-1)<0 then-cf y (y.length-1)else cf y (y.length-1)
def rb(x y:List Int):Int:=if cf y (y.length-1)<0 then-cf x (x.length-1)else cf x (x.length-1)
def Zck(x y:List Int):List Int:=Ct (Zm x (Zbp y)) (shm y (rb x y) (x.length-y.length) y.length)
def Zaq:Nat->List Int->List Int->List Int
 | 0,x,_=>x
 | f+1,x,y=>if x.length<y.length then x else Zaq f (Zck x y) y
theorem Zp9(e:Tr x)(g:0<y.length)(d:y.length<=x.length):(Zck x y).length<x.length:=by
 have h:=Zbg (p:=Zck x y) (n:=x.length-1) λi hi=>by
  unfold Zck;rw [Ds,Yu,Yka];by_cases c:i=x.length-1
  .subst c;rw [if_pos O,show x.length-1-(x.length-y.length)=y.length-1 by omega];unfold Zbp rb;split
   .grind
   .grind
  .rw [Yl (p:=x) O,if_neg O];omega
 rw [show tzl (Zck x y)=Zck x y from Zab (Zfe _ _)]at h;omega
theorem Yfr(x:List Int)(t:Nat):Zbp y*cf x t=(ps (mono (x.length-y.length) (rb x y))*ps y).c t+cf (Zck x y) t:=by
 unfold Zck;rw [Zk7,Ds,Yu,Yka,Oh];by_cases c:x.length-y.length<=t
 .rw [if_pos c];by_cases d:t<x.length-y.length+y.length
  .rw [if_pos ⟨c,d⟩,Int.mul_comm (cf x t)];omega
  .rw [if_neg O,Yl (p:=y) O,Int.mul_comm (cf x t)];omega
 .rw [if_neg c,if_neg O,Int.mul_comm (cf x t)];omega
theorem Zft(d:Tr y)(c:y≠[]):0<Zbp y:=by have:=d.mem c;unfold Zbp;split<;>omega
theorem Zfp{y:List Int}(m:Tr y)(d:y≠[]):∀(f:Nat) (x:List Int),Tr x->x.length<y.length+f->Tr (Zaq f x y)/\(Zaq f x y).length<y.length/\∃(k:Nat) (s:List Int),∀t,Zbp y^k*cf x t=(ps s*ps y).c t+cf (Zaq f x y) t
 | 0,x,c,e=>⟨c,e,0,[],λt=>by rw [Kp (λt=>Yl (Nat.zero_le _)),Int.pow_zero];unfold Zaq;omega⟩
 | f+1,x,c,e=>by
  unfold Zaq;by_cases h:x.length<y.length
  .rw [if_pos h];exact⟨c,h,0,[],λt=>by rw [Kp (λt=>Yl (Nat.zero_le _)),Int.pow_zero];omega⟩
  .rw [if_neg h];have n:=Zp9 c (List.length_pos_iff.2 d) O;obtain⟨g,j,k,s,hs⟩:=Zfp m d f (Zck x y) (Zfe _ _) O;refine⟨g,j,k+1,Ct (Zm s 1) (Zm (mono (x.length-y.length) (rb x y)) (-(Zbp y^k))),λt=>?_⟩;have o:=hs t;have l:=Yfr x (y:=y) t;rw [Zk6,Int.pow_succ];generalize Zbp y^k=K at *;generalize Zbp y=a at *;generalize (ps (mono (x.length-y.length) (rb x y))*ps y).c t=M at *;generalize (ps s*ps y).c t=S at *;generalize cf (Zck x y) t=X at *;generalize cf (Zaq f (Zck x y) y) t=Z at *;have:K*a*cf x t=K*(a*cf x t):=O4;rw [this,l];grind
theorem Ztn(l:Int)(h:l≠0):∀n:Nat,(l<0/\n%2=1->l^n<0)/\(¬(l<0/\n%2=1)->0<l^n)
 | 0=>⟨λh=>O,λ_=>by rw [Int.pow_zero];decide⟩
 | n+1=>by
  have e:=Ztn l h n;rw [Int.pow_succ];by_cases d:l<0
  .by_cases g:n%2=1
   .have c:=e.1 ⟨d,g⟩;exact⟨λh=>O,λ_=>Int.mul_pos_of_neg_of_neg c d⟩
   .have c:=e.2 O;exact⟨λ_=>Int.mul_neg_of_pos_of_neg c d,λh=>O⟩
  .have c:=e.2 O;exact⟨λh=>O,λ_=>Int.mul_pos c O⟩
def Zes(p:List Int):List Int:=Zm p (-1)
theorem Dt(p:List Int)(i:Nat):cf (Zes p) i=- cf p i:=by unfold Zes;rw [Yu];omega
theorem Zwo(h:Tr p):Zz (Zes p)=Zes (Zz p):=by
 have e:Ym (Zes p)=Ym p:=by
  have c:Ym (Zes p)∣Ym p:=Fn λi=>by have h:=Lo (Zes p) i;rw [Dt]at h;exact Int.dvd_neg.1 h
  have d:Ym p∣Ym (Zes p):=Fn λi=>by rw [Dt];exact Int.dvd_neg.2 (Lo p i)
  exact Int.dvd_antisymm (Nb _) (Nb _) c d
 refine(Xb (Qk _ _)).ext (Qk _ _) λi=>?_;show cf (Zz (Zes p)) i=cf (Zes (Zz p)) i;rw [Dt,Za7,Dt,e,Za7];exact Int.neg_ediv_of_dvd (Lo p i)
theorem Zhb{f:Nat}(v:Tr x)(n:Tr y)(g:y≠[])(G:y.length<=x.length)(D:x.length<y.length+f):Zz (Zes (Zaq f x y))=Nn x y:=by
 obtain⟨R,Q,k,s,hs⟩:=Zfp n g f x v D;have I:=List.length_pos_iff.2 g;obtain⟨M,h⟩:=Zhg (p:=x) I G _ (Nat.le_refl _);have H:∀t,cf (Pb x y (x.length-y.length+1)) t=cf (Qp x y) t:=λt=>by unfold Qp;rw [if_neg O,Ks]
 have lp:=Oa x g;have j:=Ix (q:=y) v;have c:=n.mem g;have o:0<Zbp y^k:=Int.pow_pos (Zft n g);have d:=Ztn (cf y (y.length-1)) c (x.length-y.length+1);generalize w:cf y (y.length-1)^(x.length-y.length+1)=L at h d;have B:L≠0:=by rw [<-w];exact Kq c _
 generalize Zbp y^k=K at hs o;have l:∀t,(ps (Ct (Zm M K) (Zm s L))*ps y).c t=cf (Ct (Zm (Zaq f x y) L) (Zm (Qp x y) K)) t:=λt=>by rw [Zk6,Ds,Yu,Yu,<-H t];have r:=hs t;have N:=h t;generalize cf (Pb x y (x.length-y.length+1)) t=A at *;grind
 have z:=Yno n g l λt P=>by rw [Ds,Yu,Yu,Yl (p:=Zaq f x y) O,Yl (p:=Qp x y) O];omega
 have e:∀t,L*cf (Zaq f x y) t=K*cf (Qp x y) t:=λt=>by have r:=l t;rw [Kp z,Ds,Yu,Yu]at r;grind
 unfold Nn;by_cases m:cf y (y.length-1)<0/\(x.length-y.length+1)%2=1
 .rw [if_pos m];have u:=d.1 m;exact Zkw (Qk _ _) j ⟨-L,K,O,o,λt=>by rw [Dt,<-e];grind⟩
 .rw [if_neg m];have u:=d.2 m;rw [show Zm (Zz (Qp x y)) (-1)=Zes (Zz (Qp x y))from rfl,<-Zwo j];exact Zkw (Qk _ _) (Qk _ _) ⟨L,K,u,o,λt=>by rw [Dt,Dt,Int.mul_neg,e,Int.mul_neg]⟩
theorem Zce(c:Tr x):Tr (Nn x y):=by
 unfold Nn;split
 .exact Xb (Ix c)
 .exact Qk _ _
theorem Zbu(c:Tr x):(Nn x y).length=(Qp x y).length:=by
 unfold Nn;have h:Tr (Zz (Qp x y)):=Xb (Ix c);split
 .exact Ya _
 .rw [<-Ya (Qp x y)];exact((Zem (Zz (Qp x y)) (by decide:(-1:Int)≠0)).len h (Qk _ _)).symm
theorem Zv4{n:Nat}(h:Sz n p):Sz n (Xe p):=λi=>by
 unfold Xe;rw [El];split
 .rw [Int.natAbs_neg];exact Fs h i
 .exact Fs h i
theorem Zk2(h:Tr p)(c:p≠[]):Xe p≠[]:=λe=>c (List.eq_nil_of_length_eq_zero (by rw [<-Pm h,e];rfl))
theorem Bu{g:List Int}(h:Tr g)(c:g≠[]):0<cf (Hx g) ((Hx g).length-1):=by have d:=h.mem c;rw [Zbv h,El];have:g.length≠0:=λe=>c (List.eq_nil_of_length_eq_zero e);split<;>omega
theorem Zaw(h:Tr p)(c:p≠[]):Ym (Xe p)=1:=by unfold Xe;rw [Zig];exact Kd h c
theorem Zwt(h:Tr p)(c:Ym p=1)(d:0<cf p (p.length-1)):Xe p=p:=by unfold Xe;rw [Zfv c];unfold Hx;rw [if_neg O]
theorem Ol(w:Tr xs)(z:xs≠[])(G:eok F (gA (Xe xs) (Xd (Xe xs))) (gB (Xe xs) (Xd (Xe xs)))) :
  pdv (Xe xs) (Mh F (Xe xs) (Xd (Xe xs)))/\Tr (sqf F xs)/\sqf F xs≠[]/\Xe xs=Qn (sqf F xs) (Mh F (Xe xs) (Xd (Xe xs)))/\Mh F (Xe xs) (Xd (Xe xs))≠[]/\Xe (sqf F xs)=sqf F xs:=by
 have hs:Tr (Xe xs):=Ov (Xb w);have l:Tr (Xd (Xe xs)):=Mp hs;have o:=Zk2 w z;have n:=(Zdl hs l G).1;have r:=Zff (F:=F) hs l;have d:Mh F (Xe xs) (Xd (Xe xs))≠[]:=λe=>o ((e▸n).zero hs);have N:=Zkz hs l d;obtain⟨k,s,P,h⟩:=n;obtain⟨q,Q⟩:=gauss N _ k s rfl P h;have c:Xe xs=Qn (tzl q) (Mh F (Xe xs) (Xd (Xe xs))):=hs.ext (Qa _ _) λi=>by rw [Hg,Q,Zpg]
 obtain⟨M,S⟩:=Zpp (Qc q) r d;have j:sqf F xs=tzl q:=by unfold sqf;have t:=S;rw [<-c]at t;exact t
 rw [<-c]at M;have g:tzl q≠[]:=λe=>o (by rw [c,e,Fc]);refine⟨M,by rw [j];exact Qc q,by rw [j];exact g,by rw [j];exact c,d,?_⟩;rw [j];refine Zwt (Qc q) ?_ ?_
 .have B:=Zaw w z;have u:Ym (tzl q)∣Ym (Xe xs):=Fn λi=>by
   rw [c,Hg,PS.mul_c];have H:∀m,Ym (tzl q)∣Ye (λk=>(ps (tzl q)).c k*(ps (Mh F (Xe xs) (Xd (Xe xs)))).c (i-k)) m:=λm=>by
    induction m with
    | zero=>exact Int.dvd_zero _
    | succ m R=>rw [Yj];exact Int.dvd_add R (Int.dvd_trans (Lo (tzl q) m) (Int.dvd_mul_right _ _))
   exact H _
  rw [B]at u;have D:=Nb (tzl q);have I:=Int.le_of_dvd O2 u;have v:Ym (tzl q)≠0:=Bt (Qc q) g;omega
 .have V:=List.length_pos_iff.2 g;have W:=List.length_pos_iff.2 d;have B:0<cf (Xe xs) ((Xe xs).length-1):=Bu (Xb w) (λe=>z (List.eq_nil_of_length_eq_zero (by rw [<-Ya,e];rfl)));have u:0<cf (Mh F (Xe xs) (Xd (Xe xs))) ((Mh F (Xe xs) (Xd (Xe xs))).length-1):=Bu (Zus F (Zj4 hs l) (Zj3 hs l)) (λe=>d (by unfold Mh;rw [e];rfl));have D:=Oo (Qc q) r g d;rw [<-c]at D;have I:cf (Xe xs) ((Xe xs).length-1)=cf (tzl q) ((tzl q).length-1)*cf (Mh F (Xe xs) (Xd (Xe xs))) ((Mh F (Xe xs) (Xd (Xe xs))).length-1):=by rw [D,c,Hg,<-c,show(tzl q).length+(Mh F (Xe xs) (Xd (Xe xs))).length-1-1=((tzl q).length-1)+((Mh F (Xe xs) (Xd (Xe xs))).length-1) by omega];exact Bv (λi hi=>Yl O) (λi hi=>Yl O)
  rw [I]at B;rcases Int.lt_or_le 0 (cf (tzl q) ((tzl q).length-1))with v|v
  .exact v
  .exfalso;have:=Int.mul_nonpos_of_nonpos_of_nonneg v (Int.le_of_lt u);omega
def Nv(p:List Int):(Xd p).length=p.length-1:=Yp _ _
theorem Zxh{n:Nat}(c:Sz n p)(j:p.length<=25)(i:Nat):bl (cf p (i+1)*((i:Int)+1)).natAbs<=n+5:=by
 rcases Nat.lt_or_ge (i+1) p.length with h|h
 .have d:=Xa (cf p (i+1)) ((i:Int)+1);have e:=c (i+1);have g:bl ((i:Int)+1).natAbs<=5:=(Qg 5 _).2 O;omega
 .rw [Yl h];simp [Lu]
theorem Zgr(p:List Int)(i:Nat):cf (Xd p) i=cf p (i+1)*((i:Int)+1):=by
 unfold Xd;rw [Nk];split
 .rfl
 .rw [Yl O,Int.zero_mul]
theorem Zan{n:Nat}(d:Sz n p)(c:p.length<=25):Sz (n+5) (Xd p):=λi=>by rw [Zgr];exact Zxh d c i
theorem Ze8(h:Vp p)(c:∀i,i<p.length->bl (cf p (i+1)*((i:Int)+1)).natAbs<=65536):Vp (Xd p):=by
 refine⟨λi=>?_,Mp h.tr,by rw [Nv];have:=h.len;omega⟩;rw [Zgr];by_cases hi:i<p.length
 .exact c i hi
 .rw [Yl O];simp [Lu]
def sf_t(h:xs.length=0):Value.bool (decide (Zap xs))= .bool true:=congrArg Value.bool (decide_eq_true (.inl h))
theorem sf_i{n:Int}(h:xs.length≠0)(d:n=(((xs.length+2)*(xs.length+2)*(Pa xs+16):Nat):Int)):Value.bool (decide (Zap xs))= .bool (decide (n<=65536)):=congrArg Value.bool (decide_eq_decide.2 (by
 subst d;show(xs.length=0\/(xs.length+2)*(xs.length+2)*(Pa xs+16)<=65536)↔_;constructor
 .intro c;rcases c with c|c
  .exact absurd c h
  .exact Int.ofNat_le.2 c
 .intro c;exact .inr (Int.ofNat_le.1 c)))
theorem Yb4(h:(Qp x y).length=0):Nn x y=[]:=by have c:Qp x y=[]:=List.eq_nil_of_length_eq_zero h;unfold Nn;rw [c];split<;>rfl
theorem Yl8(e:y.length<=x.length)(c:(cf y (y.length-1)).sign<0)(d:((x.length:Int)-(y.length:Int)+1)%2=1):Nn x y=Zz (Qp x y):=by unfold Nn;rw [if_pos ⟨(Oc _).1 c,O⟩]
theorem Zym(c:¬(cf y (y.length-1)).sign<0):Nn x y=Zm (Zz (Qp x y)) (-1):=by unfold Nn;rw [if_neg (λh=>c ((Oc _).2 h.1))]
theorem Zyl(d:y.length<=x.length)(c:¬((x.length:Int)-(y.length:Int)+1)%2=1):Nn x y=Zm (Zz (Qp x y)) (-1):=by unfold Nn;rw [if_neg (λh=>c O)]
theorem Zvz(l:Vp xs)(m:xs≠[])(h:Yl6 F xs):Vp (sqf F xs):=by
 obtain⟨_,_,_,d,c⟩:=h;have k:=Yd3 l;unfold sqf Kz;split
 .exact⟨Sz.nil _,Tr.nil,O7⟩
 .rename_i e;rcases c with c|c
  .exact absurd c e
  .have g:=(Zdy d).2 c.1;refine⟨?_,Qc _,?_⟩
   .rw [<-Zgl];exact(Zyi g c.2.1 _).tzl
   .have j:=Mx (Zhu (Xe xs) (Mh F (Xe xs) (Xd (Xe xs))) ((Xe xs).length-(Mh F (Xe xs) (Xd (Xe xs))).length+1));rw [Zgl,Zcs]at j;have:=k.len;have:=(Zdy d).1;omega
theorem Zle(j:Vp xs)(h:Yl6 F xs):(sqf F xs).length<=xs.length:=by
 obtain⟨_,_,_,d,c⟩:=h;have k:=Pm j.tr;unfold sqf Kz;split
 .exact Nat.zero_le _
 .rename_i e;rcases c with c|c
  .exact absurd c e
  .have g:=Mx (Zhu (Xe xs) (Mh F (Xe xs) (Xd (Xe xs))) ((Xe xs).length-(Mh F (Xe xs) (Xd (Xe xs))).length+1));rw [Zgl,Zcs]at g;have:=(Zdy d).1;have:=c.1;omega
theorem Yba{L:List Int}{n l:Int}(hi:i<L.length)(h:(n,l)=(L.take i).foldl Mn (0,0))(hs:L.getD i 0=s)(c:s=0):(n,l)=(L.take (i+1)).foldl Mn (0,0):=by rw [Ps 0 L i hi,Zeu,<-h,hs];unfold Mn;rw [if_pos c]
theorem Ya9{L:List Int}{n l:Int}(hi:i<L.length)(h:(n,l)=(L.take i).foldl Mn (0,0))(hs:L.getD i 0=s)(c:s≠0)(d:s=-l):(n+1,s)=(L.take (i+1)).foldl Mn (0,0):=by rw [Ps 0 L i hi,Zeu,<-h,hs];unfold Mn;rw [if_neg c];dsimp only;rw [if_pos d]
theorem Ya8{L:List Int}{n l:Int}(hi:i<L.length)(h:(n,l)=(L.take i).foldl Mn (0,0))(hs:L.getD i 0=s)(c:s≠0)(d:¬s=-l):(n,s)=(L.take (i+1)).foldl Mn (0,0):=by rw [Ps 0 L i hi,Zeu,<-h,hs];unfold Mn;rw [if_neg c];dsimp only;rw [if_neg d]
theorem Ypg{L:List Int}{n l:Int}(hi:L.length<=i)(h:(n,l)=(L.take i).foldl Mn (0,0)):n=chg L:=by rw [List.take_of_length_le hi]at h;unfold chg;rw [<-h]
theorem Yfa(z:Int):-1<=z.sign/\z.sign<=1:=by
 rcases Int.lt_trichotomy z 0 with h|h|h
 .rw [Int.sign_eq_neg_one_of_neg h];omega
 .subst h;simp
 .rw [Int.sign_eq_one_of_pos h];omega
theorem Yhr{α:Type}(d:α)(f:α->Int)(ls:List α)(h:i<ls.length):(ls.map f).getD i 0=f (ls.getD i d):=by simp [List.getD_eq_getElem?_getD,h]
def sgx(ls:List (SL×List Int))(f:List Int->Int):List Int:=ls.map λz=>f z.2
def Zst(ls:List (SL×List Int))(f:List Int->Int)(h:i<ls.length):(sgx ls f).getD i 0=f (ls.getD i ((none,0,0),[])).2:=Yhr _ _ _ h
def Zlf(ls:List (SL×List Int))(f:List Int->Int):(sgx ls f).length=ls.length:=List.length_map ..
def fr(p:List Int):Int:=(cf p (p.length-1)).sign
def fl(p:List Int):Int:=if p.length%2=0 then-(cf p (p.length-1)).sign else(cf p (p.length-1)).sign
def fat(x y:Int)(p:List Int):Int:=(pev p x y).sign
def fat_r(x y:Int)(p:List Int):-1<=fat x y p/\fat x y p<=1:=Yfa _
theorem Zm3:∀(f:Nat) {x y:List Int},Vp x->Vp y->cok f x y->∀p∈Mz f x y,Vp p
 | 0,x,y,d,_,_,p,c=>by rw [List.mem_singleton.1 c];exact d
 | f+1,x,y,d,e,h,p,c=>by
  unfold Mz at c;split at c
  .rw [List.mem_singleton.1 c];exact d
  .rcases h with h|h
   .contradiction
   .rcases List.mem_cons.1 c with rfl|c
    .exact d
    .exact Zm3 f e (Zr9 d h.1) h.2.2 p c
theorem vp_chn(e:Vp xs)(g:xs≠[])(k:Ae F xs):∀p∈chn F xs,Vp p:=by obtain⟨c,h,j⟩:=k;have d:=Zvz e g c;exact Zm3 F d (Iw (Ze8 d (λi hi=>h i (by have:=Zle e c;omega)))) j
def cnt(F:Nat)(xs:List Int)(x y:Int):Int:=chg ((chn F xs).map (fat x y))
def sright(F:Nat)(xs:List Int):Int:=chg ((chn F xs).map fr)
def sleft(F:Nat)(xs:List Int):Int:=chg ((chn F xs).map fl)
theorem Zyp{C:List (List Int)}(h:ls.map Prod.snd=C)(f:List Int->Int):sgx ls f=C.map f:=by rw [<-h,List.map_map];rfl
def Lj{C:List (List Int)}{p:List Int->Prop}(h:ls.map Prod.snd=C)(c:∀q∈C,p q):∀z∈ls,p z.2:=λz d=>c _ (h▸List.mem_map_of_mem d)
theorem Zhx(L:List Int):0<=chg L/\chg L<=L.length:=by
 unfold chg;suffices h:∀(l:List Int) (s:Int×Int),s.1<=(l.foldl Mn s).1/\(l.foldl Mn s).1<=s.1+l.length by have:=h L (0,0);simpa using this
 intro l
 induction l with
 | nil=>intro s;simp
 | cons x l c=>
  intro s;have d:=c (Mn s x);have e:=chg1_n s x;simp only [List.foldl_cons,List.length_cons];omega
theorem Zed:∀(f:Nat) (x y:List Int),(Mz f x y).length<=f+1
 | 0,x,y=>Nat.le_refl _
 | f+1,x,y=>by
  unfold Mz;split
  .simp
  .have:=Zed f y (Nn x y);simp;omega
def sm(xs:List Int)(i:Nat):Nat:=(xs.take i).foldl (λm c=>max m c.natAbs) 0
def Zah{x y:Int}(h:¬Ll x y):Gy x y=x/Le x y/\Ge x y=y/Le x y/\Yf4 x y=0:=⟨if_neg h,if_neg h,if_neg h⟩
theorem nr_bl{x y:Int}(h:¬Ll x y):bl (Gy x y).natAbs<=65536/\bl (Ge x y).natAbs<=65536:=by obtain⟨c,d,_⟩:=Zah h;rw [c,d];unfold Ll at h;omega
theorem Zpx{x y:Int}(h:¬Ll x y)(c:0<y):0<Ge x y:=by rw [(Zah h).2.1];exact Yc0 c
abbrev R2:=Int×Int
def Pq(a b:R2):R2:=(Gy (Gy (a.1*b.2+b.1*a.2) (a.2*b.2)*1) (Ge (a.1*b.2+b.1*a.2) (a.2*b.2)*2),Ge (Gy (a.1*b.2+b.1*a.2) (a.2*b.2)*1) (Ge (a.1*b.2+b.1*a.2) (a.2*b.2)*2))
def Zec(a b:R2):Prop:=¬Ll (a.1*b.2+b.1*a.2) (a.2*b.2)/\¬Ll (Gy (a.1*b.2+b.1*a.2) (a.2*b.2)*1) (Ge (a.1*b.2+b.1*a.2) (a.2*b.2)*2)
instance (a b:R2):Decidable (Zec a b):=by unfold Zec;infer_instance
def Ycx{a b:R2}(h:Zec a b):Yf4 (Gy (a.1*b.2+b.1*a.2) (a.2*b.2)*1) (Ge (a.1*b.2+b.1*a.2) (a.2*b.2)*2)=0:=(Zah h.2).2.2
def isp(c:R2->Int)(e:Int):Nat->R2->R2->Int->Int->Nat->List (R2×R2)
 | 0,_,_,_,_,_=>[]
 | f+1,a,b,fr,g,d=>if fr=g then []else if fr-g=1/\e<=(d:Int)then [(a,b)]else isp c e f a (Pq a b) fr (c (Pq a b)) (d+1) ++ isp c e f (Pq a b) b (c (Pq a b)) g (d+1)
def Zz3(c:R2->Int)(g:R2->Prop)(e:Int):Nat->R2->R2->Int->Int->Nat->Prop
 | 0,_,_,_,_,_=>False
 | f+1,a,b,fr,h,d=>fr=h\/(fr-h=1/\e<=(d:Int))\/(d<1000/\Zec a b/\g (Pq a b)/\Zz3 c g e f a (Pq a b) fr (c (Pq a b)) (d+1)/\Zz3 c g e f (Pq a b) b (c (Pq a b)) h (d+1))
instance ispDec (c:R2->Int) (e:R2->Prop) [DecidablePred e] (g:Int):∀f a b fr h d,Decidable (Zz3 c e g f a b fr h d)
 | 0,_,_,_,_,_=>inferInstanceAs (Decidable False)
 | f+1,a,b,fr,h,d=>@instDecidableOr _ _ _ (@instDecidableOr _ _ _ (@instDecidableAnd _ _ _ (@instDecidableAnd _ _ _ (@instDecidableAnd _ _ _ (@instDecidableAnd _ _ (ispDec c e g f a (Pq a b) fr (c (Pq a b)) (d+1)) (ispDec c e g f (Pq a b) b (c (Pq a b)) h (d+1)))))))
def okQ(z:R2):Prop:=bl z.1.natAbs<=65536/\bl z.2.natAbs<=65536/\0<z.2
def evok(ls:List (SL×List Int))(m:R2):Prop:=∀z∈ls,¬Kr z.2 m.1 m.2
def cvx(ls:List (SL×List Int))(m:R2):Int:=chg (sgx ls (fat m.1 m.2))
def cvc(F:Nat)(xs:List Int)(m:R2):Int:=cnt F xs m.1 m.2
def evc(F:Nat)(xs:List Int)(m:R2):Prop:=∀p∈chn F xs,¬Kr p m.1 m.2
def slow(a:R2):R2:=(Gy a.1 a.2,Ge a.1 a.2)
def sisol(F:Nat)(xs:List Int)(f:Nat)(a b:R2)(c:Int):List (R2×R2):=isp (cvc F xs) c f (slow a) (slow b) (cvc F xs a) (cvc F xs b) 0
def isOK(F:Nat)(xs:List Int)(f:Nat)(a b:R2)(c:Int):Prop:=Ae F xs/\evc F xs a/\evc F xs b/\¬Ll a.1 a.2/\¬Ll b.1 b.2/\Zz3 (cvc F xs) (evc F xs) c f (slow a) (slow b) (cvc F xs a) (cvc F xs b) 0/\(sisol F xs f a b c).length<=1000000
open Go.RowKit (Below)
variable {P:Program} {N:Nat} {sc:Nat->Prop} {env env':Ph} {H H':Hp} {Q Q':Exit->Act->World->Prop} {M:Nat->Prop}
def CalM(P:Program)(f:FuncId)(args:Array Value)(pre:List Pc){G:Type}(φ:G->Prop)(Yh:G->Value)(d c:G->Pc):Prop:=
 ∀w,(∀p∈pre,p.holds w)->Calls P f args w λe h=>∃g,e= .returned (Yh g)/\φ g/\Below w.heap.size w h/\(d g).holds h/\(∀b,(d g).fp b->w.heap.size<=b)/\
  (c g).holds h/\(c g).own=false/\(∀b,(c g).fp b->w.heap.size<=b\/∃q∈pre,q.fp b)/\∀b,(d g).fp b->(c g).fp b->False
theorem Yly {o:Oper}  {xs:List Operand}  {d n:Nat}   {G:Type} {φ:G->Prop} {Yh:G->Value} {it D:G->Pc}  
  (hc:CalM P f vs.toArray pre φ Yh it D)
  (ho:o.op= .call { callee:= .value (.func f),args:=xs.toArray,argTypes:=ats }) (hd:o.dst=some d) (hN:Nat.blt d N=true)
  (t:EvL env xs vs) (u:∀args w,(callFunc f args).run P w= .ok (.enter f args) w) (k:PreOk H true pre)
  (h0:lk H 0=some (Yo w0 M0)) (hw:∀b,w0.heap.size<=b->sc b) :
  T P N sc M o env H φ (λg=>(d,Yh g)::env) (λg=>(n,it g)::(n+1,D g)::H):=λa w hs K Q hK=>by
 have hr:(execOp a.eval o).run P w= .ok (.enter f vs.toArray) w:=by rw [Ik hs ho t,u]
 unfold Oper.wp;rw [hr];refine(hc w (λp hp=>by obtain⟨i,it,_,hi,Z,_,_⟩:=k.mem p hp;exact Z w (hs.hold i it hi))).mono ?_
 rintro e w' ⟨g,rfl,hg,r,a2,S,a0,a1,W,R⟩;show K (a.put o.dst (Yh g)) w';rw [hd];have a5:Sat N sc env H a w':=hs.chg0 (Chg.of_below r);have a7:=(hs.hold 0 _ h0).size;have a6:=a5.add (n+1) (D g) a0 (λj I a3 l Lp b m c=>by
  rcases Lp with Lp|Lp
  .rw [a1]at Lp;cases Lp
  .rcases W b m with h|⟨q,hq,v⟩
   .have:=I.lt w b (hs.hold j I l) c;omega
   .obtain⟨i,B,V,hi,_,z,a4⟩:=k.mem q hq;by_cases Y:j=i
    .subst Y;rw [hi]at l;cases l;rw [a4 rfl]at Lp;cases Lp
    .exact hs.sep j i I B Y l hi Lp b c (z b v)) (λb m=>by
  rcases W b m with h|⟨q,hq,v⟩
  .exact hw b O
  .obtain⟨i,B,V,hi,_,z,_⟩:=k.mem q hq;exact hs.scope i B V hi b (z b v))
 refine hK g _ _ hg (Sat.put (a6.add n (it g) a2 (λj I a3 l Lp b m c=>?_) (λb m=>hw b (by have:=S b m;omega))) d _ hN) (Chg.of_below r);by_cases hk:n+1=j
 .subst hk;rw [Yd]at l;cases l;exact R b m c
 .rw [Zt _ _ hk]at l;have h1:=I.lt w b (hs.hold j I l) c;have h2:=S b m;omega
def Yla(P:Program)(fn:Func)(w0:World)(pre:List Pc){G:Type}(φ:G->Prop)(Yh:G->Value)(d c:G->Pc):Exit->Act->World->Prop:=
 bodyPost P fn λe h=>∃g,e= .returned (Yh g)/\φ g/\Below w0.heap.size w0 h/\(d g).holds h/\(∀b,(d g).fp b->w0.heap.size<=b)/\
  (c g).holds h/\(c g).own=false/\(∀b,(c g).fp b->w0.heap.size<=b\/∃q∈pre,q.fp b)/\∀b,(d g).fp b->(c g).fp b->False
theorem Ypj   {c:Code}   {G:Type} {φ:G->Prop} {Yh:G->Value} {I o:G->Pc} {N:Nat}
  (V:P.funcs[f]? = some fn) (g:fn.body=some c) (R:fn.ntmps=N) (m:Nat.ble vs.length N=true) (B:AllRo pre)
  (h:∀w0 (sc:Nat->Prop),(∀b,w0.heap.size<=b->sc b)->(∀b,sc b->w0.heap.size<=b\/∃q∈pre,q.fp b)->
   E P N sc c (Yla P fn w0 pre φ Yh I o) (Qs 0 vs) ((0,Yo w0 (λ_=>False))::Yv 1 pre)) :
  CalM P f vs.toArray pre φ Yh I o:=λw Y=>by
 refine calls_of_wp V g (h w (λb=>w.heap.size<=b\/∃q∈pre,q.fp b) (λb g=> .inl g) (λb g=>g) _ w ?_);have m:vs.length<=N:=by simpa using m
 have d:∀i p,lk ((0,Yo w (λ_=>False))::Yv 1 pre) i=some p->(i=0/\p=Yo w (λ_=>False))\/(i≠0/\p∈pre/\p.own=false):=λi p hi=>by
   by_cases l:0=i
   .subst l;rw [Yd]at hi;cases hi;exact .inl ⟨rfl,rfl⟩
   .rw [Zt _ _ l]at hi;obtain⟨_,k⟩:=Nf pre 1 i p hi;exact .inr ⟨λe=>l e.symm,k,B.mem p k⟩
 refine⟨by simp [R];omega,rfl,λt v Z=>?_,λi p hi=>?_,λi j p q W hi hj z b g S=>?_,λi p r hi b g=>?_⟩
 .have D:vs.toArray[t]? = some v:=by simpa using(Ht vs 0 t v Z).2
  have u:=(Array.getElem?_eq_some_iff.1 D).1;rw [Array.getD_eq_getD_getElem?,Array.getElem?_append_left u,D];rfl
 .rcases d i p hi with⟨_,rfl⟩|⟨_,k,_⟩
  .exact Chg.refl _ w
  .exact Y p k
 .rcases d i p hi with⟨_,rfl⟩|⟨_,k,n⟩
  .cases z
  .rw [n]at z;cases z
 .rcases d i p hi with⟨l,_⟩|⟨_,k,_⟩
  .exact absurd l r
  .exact .inr ⟨p,k,g⟩
theorem Ylf   {G:Type} {φ:G->Prop} {Yh:G->Value} {k c:G->Pc}  {e:Exit} (Y:e= .ret\/e= .normal) (V:∀b,sc b->w0.heap.size<=b\/∃q∈pre,q.fp b)
  (g:G) (v:Value) (o:∀a w,Sat N sc env H a w->(results fn a.tmps).run P w= .ok v w) (hv:Yh g=v) (Z:φ g) (W:lk H 0=some (Yo w0 (λ_=>False)))
  (i:Nat) (z:Nat.beq i 0=false) (hi:lk H i=some (k g)) (d:(k g).own=true) (j:Nat) (I:Nat.beq j 0=false) (D:lk H j=some (c g)) (R:(c g).own=false) (B:Nat.beq i j=false) :
  X N sc e (Yla P fn w0 pre φ Yh k c) env H:=λa w hs=>by
 have l:i≠0:=λe=>by subst e;simp at z
 have n:j≠0:=λe=>by subst e;simp at I
 have m:i≠j:=λe=>by subst e;simp at B
 have r:a.defers=[]/\∃v,(results fn a.tmps).run P w= .ok v w/\(∃g,Ending.returned v= .returned (Yh g)/\φ g/\Below w0.heap.size w0 w/\(k g).holds w/\(∀b,(k g).fp b->w0.heap.size<=b)/\
   (c g).holds w/\(c g).own=false/\(∀b,(c g).fp b->w0.heap.size<=b\/∃q∈pre,q.fp b)/\∀b,(k g).fp b->(c g).fp b->False):=by
  refine⟨hs.defers,v,o a w hs,g,by rw [hv],Z,Kt (hs.hold 0 _ W),hs.hold i _ hi,λb t=>?_,hs.hold j _ D,R,λb t=>V b (hs.scope j _ n D b t),hs.sep i j _ _ m hi D d⟩;have hn:=hs.sep i 0 _ _ l hi W d b t;rcases Nat.lt_or_ge b w0.heap.size with S|u
  .exact absurd ⟨S,λh=>h⟩ hn
  .exact u
 rcases Y with rfl|rfl
 .exact r
 .exact r
theorem Zbi{β:Type}{q:β->Pc}{zs ys:List β}(i j n:Nat)(hi:lk H i=some (Lg q zs))(m:lk H j=some (Lg q ys))(d:Nat.beq i 0=false)(e:Nat.beq j 0=false) :
  ∀a w,Sat N sc env H a w->Sat N sc env ((n,Lg q (zs ++ ys))::H) a w:=
 Zwe i j n hi m d e rfl rfl (λw k l y g=>by
  rcases List.mem_append.1 g with h|h
  .exact k y h
  .exact l y h) (λb c=>by
  obtain⟨y,g,c⟩:=c;rcases List.mem_append.1 g with h|h
  .exact .inl ⟨y,h,c⟩
  .exact .inr ⟨y,h,c⟩) rfl
abbrev qD (z:SL×Nat):Pc:=Kf (Xi z.1) z.2
abbrev JE:=(R2×R2)×(SL×SL×SL×SL)
abbrev encJ (y:JE):Value:= .agg #[.bool (decide (y.1.1.1<0)),Xi y.2.1,.bool (decide (y.1.1.2<0)),Xi y.2.2.1,.bool (decide (y.1.2.1<0)),Xi y.2.2.2.1,.bool (decide (y.1.2.2<0)),Xi y.2.2.2.2]
abbrev qJ (y:JE):Pc:=Lg qD [(y.2.1,y.1.1.1.natAbs),(y.2.2.1,y.1.1.2.natAbs),(y.2.2.2.1,y.1.2.1.natAbs),(y.2.2.2.2,y.1.2.2.natAbs)]
abbrev J0:JE:=(((0,0),(0,0)),((none,0,0),(none,0,0),(none,0,0),(none,0,0)))
end Go.Sky
namespace Go.Sky
variable{M M0:Nat->Prop}{o:Oper}{x y:Operand}{t tb:TypeId}{cs:Array Value}{v:Value}{vs:List Value}{zs:List (SL×List Int)}{r:List Pc}{z:SL×List Int}
variable {P:Program} {N:Nat} {sc:Nat->Prop} {env env':Ph} {H H':Hp} {Q Q':Exit->Act->World->Prop}
theorem Zsy(w:World)(g:Nat)(cs:Array Value)(t:TypeId)(fr:Nat×Nat)(a:w.heap[g]? = some (.cells cs t fr)):w.setRow g cs=w:=by
 obtain⟨b,c⟩:=Array.getElem?_eq_some_iff.1 a;have h:(w.setRow g cs).heap=w.heap:=by
  apply Array.ext_getElem?;intro i;by_cases h:g=i
  .subst h;rw [setRow_heap w g cs cs t fr a,a]
  .unfold World.setRow;dsimp only;rw [Array.getElem?_modify,if_neg h]
 have e:w.setRow g cs={ w with heap:=(w.setRow g cs).heap }:=rfl;rw [e,h]
theorem Znd     {i b j k:Nat}    (s:o.op= .store t x y) (p:o.dst=none)
  (D:ev env x=some (.pointer (some ⟨b,j,none⟩))) (F:ev env y=some v) (m:lk H i=some (Kl b tb cs)) (B:v.cells=vs.toArray) (q:∀w,(sizeOf t).run P w= .ok k w) (d:vs.length=k)
  (c:Nat.ble (j+vs.length) cs.size=true) (l:∀u∈vs,u.oneCell'=true) (e:Fl cs j vs=cs) :
  T P N sc M o env H (G:=Unit) (λ_=>True) (λ_=>env) (λ_=>H):=λa w hs K Q n=>by
 have g:w.heap[b]? = some (.cells cs tb (0,0)):=hs.hold i _ m;have f:=run_storeCells_at P b j tb vs 0 cs w g (by simpa using Nat.le_of_ble_eq_true c) l;simp only [Nat.add_zero]at f;have h:(execOp a.eval o).run P w= .ok .skip (w.setRow b (Fl cs j vs)):=by simp [execOp,s,hs.ev D,hs.ev F,Instr.storeAt,Instr.sureAddr,storeVar,B,q,d,f,Fl]
 rw [e,Zsy w b cs tb _ g]at h;unfold Oper.wp;rw [h];show K (a.put o.dst _) _;rw [p];exact n () _ _ trivial (hs.put_none undef) (Chg.refl _ _)
def Yoh{c:Code}(h:E P N sc c (Exit.noGoto Q) env H):E P N sc (.scope c) Q env H:=λa w hs=>wp_scope_straight (h a w hs)
def x_ngn(h:X N sc .normal Q env H):X N sc .normal (Exit.noGoto Q) env H:=h
def Yoi{l:Nat}(h:X N sc .normal Q env H):E P N sc (.label l) Q env H:=λa w hs=>wp_label (h a w hs)
def t_stp1     {i b j:Nat}   {w0:World}  (m:o.op= .store t x y) (k:o.dst=none)
  (p:ev env x=some (.pointer (some ⟨b,j,none⟩))) (q:ev env y=some v) (g:lk H i=some (box b tb cs)) (d:i≠0) (l:∀w,(sizeOf t).run P w= .ok 1 w) (c:Nat.ble (j+1) cs.size=true) (e:One N sc env H v)
  (f:lk H 0=some (Yo w0 M0)) (n:∀b,w0.heap.size<=b->sc b) (h:M b) :
  T P N sc M o env H (G:=Unit) (λ_=>True) (λ_=>env) (λ_=>(i,box b tb (Fl cs j [v]))::H):=λa w hs=>
 t_stp (cs':=#[]) (vs:=[v]) m k p q g d (Yc (e a w hs)) l rfl c ⟨e,trivial⟩ f n h a w hs
def Ygj{al:Bool}(i:Nat)(hi:lk H i=some (Xt 1 Nq (λy:SL×List Int=>Ys 2 wv (Xi y.1) y.2) v zs))(a:Nat.beq i 0=false)(b:z∈zs)(h:PreOk H al r):PreOk H al (Ys 2 wv (Xi z.1) z.2::r):=Ztl (q:=λy:SL×List Int=>Ys 2 wv (Xi y.1) y.2) (z:=z) i hi a b h
end Go.Sky
namespace Go.Sky
variable{v:Int}{o:Oper}{x y:Operand}{t tb:TypeId}{b i k:Nat}{kd:IntKind}{M M0:Nat->Prop}{w0:World}{cs:Array Value}
variable {P:Program} {N:Nat} {sc:Nat->Prop} {env env':Ph} {H H':Hp} {Q Q':Exit->Act->World->Prop}
def Ac(l:List Int):Array Value:=(l.map (Value.int .i64)).toArray
theorem Ybv(l:List Int):(Ac l).size=l.length:=by simp [Ac]
theorem Yd2{l:List Int}{j:Nat}(h:j<l.length):(Ac l)[j]? = some (.int .i64 (l.getD j 0)):=by simp [Ac,List.getElem?_eq_getElem h,List.getD_eq_getElem?_getD]
theorem Yd1{l:List Int}{j:Nat}(h:j<l.length):Fl (Ac l) j [.int .i64 v]=Ac (l.set j v):=by unfold Fl Ac;congr 1;rw [List.set_eq_take_append_cons_drop,if_pos h,List.map_append,List.map_cons,List.map_take,List.map_drop];simp
theorem Gt   {e:TypeId} {d c:Nat}  {m:Int} (j:o.op= .indexAddr t x y) (n:ev env x=some (.pointer (some ⟨b,d,none⟩))) (p:ev env y=some (.int kd m))
  (l:P.underlying t=some (.array c e)) (h:∀w,(sizeOf e).run P w= .ok k w) (f:m=(i:Int):=by omega) (g:i<c:=by omega):Mo P N sc o env H (.pointer (some ⟨b,d+i*k,none⟩)):=λa w hs=>by
 subst f;simp [execOp,j,hs.ev n,hs.ev p,Instr.indexAt,Instr.sureAddr,asIntOf,run_underlying l,h,g,Py]
theorem Ydl{j:Nat}{l:List Int}(d:o.op= .load t x)(f:ev env x=some (.pointer (some ⟨b,j,none⟩)))(a:lk H i=some (box b tb (Ac l)))(e:∀w,(isAgg t).run P w= .ok false w)(c:j<l.length:=by omega) :
  Mo P N sc o env H (.int .i64 (l.getD j 0)):=Ydm d f a e (Yd2 c)
theorem d_lwa{l:List Int}(e:o.op= .load t x)(h:ev env x=some (.pointer (some ⟨b,0,none⟩)))(a:lk H i=some (box b tb (Ac l)))(f:∀w,(isAgg t).run P w= .ok true w)(c:∀w,(sizeOf t).run P w= .ok k w)(d:l.length=k) :
  Mo P N sc o env H (.agg (Ac l)):=
 Zu7 (vs:=l.map (Value.int .i64)) e h a f c (by simpa using d) (λn u g=>by rw [Nat.zero_add];simpa [Ac]using g)
theorem Zv2     {j:Nat} {l:List Int}    (m:o.op= .store t x y) (g:o.dst=none)
  (q:ev env x=some (.pointer (some ⟨b,j,none⟩))) (r:ev env y=some (.int .i64 v)) (e:lk H i=some (box b tb (Ac l))) (h:∀w,(sizeOf t).run P w= .ok 1 w) 
  (d:lk H 0=some (Yo w0 M0)) (p:∀b,w0.heap.size<=b->sc b) (f:M b) (a:i≠0:=by decide) (c:j<l.length:=by omega) :
  T P N sc M o env H (G:=Unit) (λ_=>True) (λ_=>env) (λ_=>(i,box b tb (Ac (l.set j v)))::H):=by
 rw [<-Yd1 c];exact Zj8 (vs:=[.int .i64 v]) m g q r e a rfl h rfl (by rw [Ybv];exact c) (λu n=>Yf (by rw [List.mem_singleton.1 n];rfl)) rfl d p f
theorem Yee       {l:List Int}   (j:o.op= .store t x y) (f:o.dst=none)
  (p:ev env x=some (.pointer (some ⟨b,0,none⟩))) (q:ev env y=some (.agg (Ac l))) (d:lk H i=some (box b tb cs)) (g:∀w,(sizeOf t).run P w= .ok k w) (h:l.length=k) (r:cs.size=k)
  (c:lk H 0=some (Yo w0 M0)) (n:∀b,w0.heap.size<=b->sc b) (e:M b) (a:i≠0:=by decide) :
  T P N sc M o env H (G:=Unit) (λ_=>True) (λ_=>env) (λ_=>(i,box b tb (Ac l))::H):=
 Zj8 (vs:=l.map (Value.int .i64)) j f p q d a rfl g (by simpa using h) O8 (λu m=>Yf (by obtain⟨z,_,rfl⟩:=List.mem_map.1 m;rfl)) (by unfold Fl Ac;rw [List.take_zero,List.nil_append,Nat.zero_add,List.drop_eq_nil_of_le O8,List.append_nil]) c n e
def Oi:Nat->Nat->Nat
 | _,0=>1
 | 0,_+1=>0
 | n+1,k+1=>Oi n k+Oi n (k+1)
theorem Zxq:∀n k,Oi n k<=2^n
 | 0,0=>O2
 | _+1,0=>Nat.two_pow_pos _
 | 0,_+1=>Nat.zero_le _
 | n+1,k+1=>by have a:=Zxq n k;have c:=Zxq n (k+1);show Oi n k+Oi n (k+1)<=2^(n+1);rw [Nat.pow_succ];omega
theorem Zl6:∀n k,n<k->Oi n k=0
 | _,0,h=>absurd h (Nat.not_lt_zero _)
 | 0,_+1,_=>rfl
 | n+1,k+1,h=>by show Oi n k+Oi n (k+1)=0;rw [Zl6 n k O,Zl6 n (k+1) O]
structure Tab (l:List Int) (n k:Nat):Prop where
 len:l.length=625
 eq:∀r c,r<25->c<25->l.getD (r*25+c) 0=if r<n\/(r=n/\c<k)then(Oi r c:Int)else 0
theorem Zhq{l:List Int}{j:Nat}(hi:i<l.length:=by omega):(l.set i v).getD j 0=if j=i then v else l.getD j 0:=by
 rw [List.getD_eq_getElem?_getD,List.getD_eq_getElem?_getD,List.getElem?_set];by_cases h:i=j
 .subst h;rw [if_pos rfl,if_pos hi,if_pos rfl];rfl
 .rw [if_neg h,if_neg (λe=>h e.symm)]
theorem Tab.start:Tab (List.replicate 625 0) 0 0:=⟨List.length_replicate,λr c d a=>by rw [if_neg O,List.getD_eq_getElem?_getD];rw [List.getElem?_replicate];split<;>rfl⟩
theorem Tab.step{l:List Int}{n:Nat}(h:Tab l n k)(w:n<25)(u:k<25)(s:v=(Oi n k:Int)){j:Nat}(m:j=n*25+k):Tab (l.set j v) n (k+1):=by
 subst m;have p:=h.len;refine⟨by rw [List.length_set];exact p,λr c q f=>?_⟩;rw [Zhq,h.eq r c q f];by_cases e:r*25+c=n*25+k
 .have a:r=n:=O;have d:c=k:=O;subst a;subst d;rw [if_pos rfl,if_pos O];exact s
 .rw [if_neg e];have:¬(r=n/\c=k):=λ⟨a,d⟩=>e (by rw [a,d]);by_cases g:r<n\/(r=n/\c<k)
  .rw [if_pos g,if_pos O]
  .rw [if_neg g,if_neg O]
theorem Tab.row{l:List Int}{n:Nat}(h:Tab l n k)(f:n<k):Tab l (n+1) 0:=⟨h.len,λr c e d=>by
 rw [h.eq r c e d];by_cases g:r<n\/(r=n/\c<k)
 .rw [if_pos g,if_pos O]
 .rw [if_neg g];by_cases a:r<n+1\/(r=n+1/\c<0)
  .rw [if_pos a,Zl6 r c O];rfl
  .rw [if_neg a]⟩
theorem Tab.get{l:List Int}{n r c:Nat}(h:Tab l n k)(f:r<25)(d:c<25)(a:r<n\/(r=n/\c<k)){j:Nat}(e:j=r*25+c):l.getD j 0=(Oi r c:Int):=by rw [e,h.eq r c f d,if_pos a]
theorem Ya7{n:Nat}(c:1<=n:=by omega)(a:1<=k:=by omega):Oi n k=Oi (n-1) (k-1)+Oi (n-1) k:=by obtain⟨m,rfl⟩:∃m,n=m+1:=⟨n-1,O⟩;obtain⟨j,rfl⟩:∃j,k=j+1:=⟨k-1,O⟩;rfl
end Go.Sky
namespace Go.Sky
variable{k i:Nat}{t tb:TypeId}{cells:Array Value}{o:Oper}{x y:Operand}{kd:IntKind}{v0 v1 v2:Value}{M M0:Nat->Prop}
structure Tb (l:List Int) (n k:Nat):Prop where
 len:l.length=36
 eq:∀r c,r<6->c<6->l.getD (r*6+c) 0=if r<n\/(r=n/\c<k)then(Oi r c:Int)else 0
theorem Tb.start:Tb (List.replicate 36 0) 0 0:=⟨List.length_replicate,λr c b a=>by rw [if_neg O,List.getD_eq_getElem?_getD];rw [List.getElem?_replicate];split<;>rfl⟩
theorem Tb.step{l:List Int}{n:Nat}{v:Int}(h:Tb l n k)(u:n<6)(s:k<6)(q:v=(Oi n k:Int)){j:Nat}(f:j=n*6+k):Tb (l.set j v) n (k+1):=by
 subst f;have m:=h.len;refine⟨by rw [List.length_set];exact m,λr c p d=>?_⟩;rw [Zhq,h.eq r c p d];by_cases e:r*6+c=n*6+k
 .have a:r=n:=O;have b:c=k:=O;subst a;subst b;rw [if_pos rfl,if_pos O];exact q
 .rw [if_neg e];have:¬(r=n/\c=k):=λ⟨a,b⟩=>e (by rw [a,b]);by_cases g:r<n\/(r=n/\c<k)
  .rw [if_pos g,if_pos O]
  .rw [if_neg g,if_neg O]
theorem Tb.row{l:List Int}{n:Nat}(h:Tb l n k)(e:n<k):Tb l (n+1) 0:=⟨h.len,λr c d b=>by
 rw [h.eq r c d b];by_cases g:r<n\/(r=n/\c<k)
 .rw [if_pos g,if_pos O]
 .rw [if_neg g];by_cases a:r<n+1\/(r=n+1/\c<0)
  .rw [if_pos a,Zl6 r c O];rfl
  .rw [if_neg a]⟩
theorem Tb.get{l:List Int}{n r c:Nat}(h:Tb l n k)(e:r<6)(b:c<6)(a:r<n\/(r=n/\c<k)){j:Nat}(d:j=r*6+c):l.getD j 0=(Oi r c:Int):=by rw [d,h.eq r c e b,if_pos a]
theorem Zrf{n:Nat}(h:n<=5:=by omega):Oi n k<=32:=Nat.le_trans (Zxq n k) (Nat.le_trans (Nat.pow_le_pow_right O2 h) O2)
theorem Zd1 {P:Program} {e:TypeId} {n:Nat} {b a:TypeInfo} {z:Value} (parts:List (Nat×Value))  (hi:P.info? t=some b) (f:P.underlying t=some (.array n e)) (g:b.zero=some z) (c:P.info? e=some a)
  (d:Instr.fill (λi=>some (i*a.size,a.size)) z.cells parts=some cells):P.built t parts=some cells:=by
 unfold Program.built;simp only [hi,f,g,c,d]
variable {P:Program} {N:Nat} {sc:Nat->Prop} {env env':Ph} {H H':Hp} {Q Q':Exit->Act->World->Prop}
def Zo{α:Type _}(i:Nat)(a b c:α):α:=match i with
 | 0=>a
 | 1=>b
 | _=>c
theorem Dz{α:Type _}{p:α->Prop}{a b c:α}(d:p a)(e:p b)(f:p c):p (Zo i a b c):=by unfold Zo;split<;>assumption
theorem Zoa   {e:TypeId}   {m:Int}  (h:o.op= .index t x y) (l:ev env x=some (.agg #[v0,v1,v2])) (n:ev env y=some (.int kd m))
  (j:P.underlying t=some (.array 3 e)) (f:∀w,(sizeOf e).run P w= .ok 1 w) (d:∀w,(isAgg e).run P w= .ok false w) (b:m=(i:Int)) (g:i<3:=by omega):Mo P N sc o env H (Zo i v0 v1 v2):=λa w hs=>by
 subst b;have c:i=0\/i=1\/i=2:=O;rcases c with rfl|rfl|rfl<;>simp [execOp,h,hs.ev l,hs.ev n,Instr.index,asIntOf,run_underlying j,f,d,asAgg,part,Zo]
theorem Zhe {α:Type}  {enc:α->Value}  {f g j:List α} (i c d e n:Nat) (l:lk H c=some (Ys k enc v0 f)) (m:lk H d=some (Ys k enc v1 g)) (p:lk H e=some (Ys k enc v2 j))
  (q:Nat.beq c 0=false) (r:Nat.beq d 0=false) (s:Nat.beq e 0=false):∀a w,Sat N sc env H a w->Sat N sc env ((n,Ys k enc (Zo i v0 v1 v2) (Zo i f g j))::H) a w:=by
 match i with
 | 0=>exact Zd6 c n l q rfl (λw h=>h) (λb h=>h) rfl
 | 1=>exact Zd6 d n m r rfl (λw h=>h) (λb h=>h) rfl
 | i+2=>exact Zd6 e n p s rfl (λw h=>h) (λb h=>h) rfl
theorem Zu6{α:Type}{b j:Nat}{enc:α->Value}{l:List α}(d:α)(n:o.op= .load t x)(s:ev env x=some (.pointer (some ⟨b,0+j*k,none⟩)))(g:lk H i=some (box b tb (cellsOf enc l).toArray))(e:Enc P t k enc)(m:j<l.length) :
  Mo P N sc o env H (enc (l.getD j d)):=λa w hs=>by
 have hi:l[j]? = some (l.getD j d):=by simp [List.getD,List.getElem?_eq_getElem m]
 have h:=e.load (l.getD j d) w ⟨b,0+j*k,none⟩ (λq u p=>by have f:=Hy e.cells l j _ hi q u p;rw [Py,hs.boxc g];simpa using f)
 have c:=hs.ev s;generalize enc (l.getD j d)=r at h ⊢;generalize (⟨b,0+j*k,none⟩:Addr)=v at h c;simp [execOp,n,c,Instr.loadAt,Instr.sureAddr,h]
theorem t_sbe {α:Type}     {b j:Nat} {enc:α->Value} {l:List α} (z:α) {w0:World}  (q:o.op= .store t x y) (n:o.dst=none)
  (v:ev env x=some (.pointer (some ⟨b,0+j*k,none⟩))) (w:ev env y=some (enc z)) (h:lk H i=some (box b tb (cellsOf enc l).toArray)) (a:Enc P t k enc) (f:j<l.length)
  (g:lk H 0=some (Yo w0 M0)) (s:∀b,w0.heap.size<=b->sc b) (m:M b) (c:i≠0:=by decide) :
  T P N sc M o env H (G:=Unit) (λ_=>True) (λ_=>env) (λ_=>(i,box b tb (cellsOf enc (l.set j z)).toArray)::H):=by
 have p:=Xc a.cells l;have e:(enc z).cells.toList.length=k:=by simp [a.cells]
 have d:(j+1)*k<=l.length*k:=Nat.mul_le_mul_right _ f;rw [Nat.succ_mul]at d;refine Zj8 (vs:=(enc z).cells.toList) q n v w h c rfl a.size e (by rw [e,List.size_toArray,p];omega) (λu r=>Yf (a.one z u r)) ?_ g s m;unfold Fl;rw [Nat.zero_add,e,Cg a.cells l j z f]
end Go.Sky
namespace Go.Sky
variable{o:Oper}{x:Operand}{t tb te:TypeId}{M M0:Nat->Prop}{cs:Array Value}
variable {P:Program} {N:Nat} {sc:Nat->Prop} {env env':Ph} {H H':Hp} {Q Q':Exit->Act->World->Prop}
theorem d_lea{α:Type}{i b k q:Nat}{enc:α->Value}{l:List α}(f:o.op= .load t x)(j:ev env x=some (.pointer (some ⟨b,0,none⟩)))(a:lk H i=some (box b tb (cellsOf enc l).toArray))(c:Enc P te q enc)(g:∀w,(isAgg t).run P w= .ok true w)(d:∀w,(sizeOf t).run P w= .ok k w)(e:l.length*q=k) :
  Mo P N sc o env H (.agg (cellsOf enc l).toArray):=
 Zu7 (vs:=cellsOf enc l) f j a g d (by rw [Xc c.cells l];exact e) (λn u h=>by rw [Nat.zero_add];simpa using h)
theorem t_sea {α:Type}   {y:Operand}  {i b k q:Nat}  {enc:α->Value} {l:List α} {w0:World}  (r:o.op= .store t x y) (m:o.dst=none)
  (v:ev env x=some (.pointer (some ⟨b,0,none⟩))) (B:ev env y=some (.agg (cellsOf enc l).toArray)) (g:lk H i=some (box b tb cs)) (a:i≠0) (d:Enc P te q enc) (n:∀w,(sizeOf t).run P w= .ok k w) (p:l.length*q=k) (j:cs.size=k)
  (f:lk H 0=some (Yo w0 M0)) (s:∀b,w0.heap.size<=b->sc b) (h:M b) :
  T P N sc M o env H (G:=Unit) (λ_=>True) (λ_=>env) (λ_=>(i,box b tb (cellsOf enc l).toArray)::H):=by
 have c:(cellsOf enc l).length=k:=by rw [Xc d.cells l];exact p
 refine Zj8 (vs:=cellsOf enc l) r m v B g a rfl n c (by rw [c,Nat.zero_add,j];exact Nat.le_refl _) (λu e=>?_) (by unfold Fl;rw [List.take_zero,List.nil_append,Nat.zero_add,List.drop_eq_nil_of_le O8,List.append_nil]) f s h
 unfold cellsOf at e;obtain⟨z,_,D⟩:=List.mem_flatMap.1 e;exact Yf (d.one z u D)
end Go.Sky
namespace Go.Sky
variable {P:Program} {N:Nat} {sc:Nat->Prop} {env env':Ph} {H H':Hp} {Q Q':Exit->Act->World->Prop}
abbrev Zj:=(Int×Int×Int)×(SL×List Int)×(SL×List Int)×(SL×List Int)
abbrev Qe (g:Zj):Value:= .agg #[.int .i64 g.1.1,.int .i64 g.1.2.1,.int .i64 g.1.2.2,Xi g.2.1.1,Xi g.2.2.1.1,Xi g.2.2.2.1]
abbrev qC (z:SL×List Int):Pc:=Ys 1 Yg (Xi z.1) z.2
abbrev qG (g:Zj):Pc:=Lg qC [g.2.1,g.2.2.1,g.2.2.2]
abbrev G0:Zj:=((0,0,0),((none,0,0),[]),((none,0,0),[]),((none,0,0),[]))
def Qw{v:Value}{ps:List Zj}{g:Zj}{z:SL×List Int}(j n:Nat)(i:lk H j=some (Xt 6 Qe qG v ps))(c:Nat.beq j 0=false)(d:g∈ps)(e:z∈[g.2.1,g.2.2.1,g.2.2.2]):∀a w,Sat N sc env H a w->Sat N sc env ((n,Ys 1 Yg (Xi z.1) z.2)::H) a w:=
 Zd6 j n i c rfl (λw h=>h.2 g d z e) (λb f=> .inr ⟨g,d,z,e,f⟩) rfl
end Go.Sky
namespace Go.Sky
variable{x c y z a b xs:List Int}{i k F:Nat}{over ov Y:Int}{s η ε t δ:Rat}{f:Rat->Rat}{fs:List (Rat->Rat)}{ls:List (List Int)}
theorem Li{x:Int}(h:Ng x):bl x.natAbs<=64:=(Qg 64 _).2 (by obtain⟨d,e⟩:=h;omega)
theorem in_bl{x:Int}(h:bl x.natAbs<=63):Ng x:=by have:=(Qg 63 x.natAbs).1 h;exact⟨O,O⟩
theorem bl_pw{n:Int}(h:bl n.natAbs<=100)(hi:i<=10):bl (n^i).natAbs<=1000:=by
 rcases Nat.eq_zero_or_pos i with d|d
 .subst d;rw [Int.pow_zero];decide
 .exact Nat.le_trans (Eo n h i d) (by have:=Nat.mul_le_mul_right 100 hi;omega)
def Al:List Int->Int
 | []=>1
 | x::r=>x*Al r
def zc6_eq:(Value.agg (List.replicate 36 (Value.int .i64 0)).toArray).cells=Ac (List.replicate 36 0):=rfl
def Zr0:(Value.agg (List.replicate 36 (Value.int .i64 0)).toArray).cells.size=36:=rfl
def w60(n j k:Nat):Int:=60/(Oi n k:Int)*(Oi j k:Int)
def ctl(c:List Int)(j m:Nat):Int:=Ye (λk=>c.getD k 0*w60 (c.length-1) j k) m
def Yj1(c:List Int)(j m:Nat):ctl c j (m+1)=ctl c j m+c.getD m 0*w60 (c.length-1) j m:=rfl
theorem Zjp:∀{n k:Nat},k<=n->0<Oi n k
 | n,0,_=>by cases n<;>exact Nat.one_pos
 | n+1,k+1,h=>by have:=Zjp (n:=n) (k:=k) O;show 0<Oi n k+Oi n (k+1);omega
theorem Zvy{n j:Nat}(g:j<=5):0<=w60 n j k/\w60 n j k<=1920:=by have h:=Zrf (k:=k) g;unfold w60;have d:(0:Int)<=60/(Oi n k:Int):=Int.ediv_nonneg O2 O;have e:(60:Int)/(Oi n k:Int)<=60:=Int.ediv_le_self _ O2;refine⟨Int.mul_nonneg d O,?_⟩;have:=Int.mul_le_mul e (show(Oi j k:Int)<=32 by omega) O O2;omega
theorem Zmd{n j:Nat}(d:j<=5):bl (w60 n j k).natAbs<=11:=by have:=Zvy (n:=n) (k:=k) d;exact(Qg 11 _).2 O
theorem Lk(h:∀x∈c,Ng x)(k:Nat):Ng (c.getD k 0):=by
 by_cases d:k<c.length
 .exact h _ (Ze d)
 .rw [List.getD_eq_getElem?_getD,List.getElem?_eq_none O];exact⟨O2,O2⟩
theorem Zc8(h:∀x∈c,Ng x){j m:Nat}(d:j<=5)(e:m<=31):bl (ctl c j m).natAbs<=80:=
 Zjt (K:=75) (λk _=>by have g:=Li (Lk h k);have l:=Zmd (n:=c.length-1) (k:=k) d;have:=Xa (c.getD k 0) (w60 (c.length-1) j k);omega) e
def Zmc(c:List Int)(over:Int):Bool:=(List.range c.length).all λj=>decide ((ctl c j (j+1)).natAbs<=62914560*over)
theorem Zxw(h:∀j,j<c.length->((ctl c j (j+1)).natAbs:Int)<=62914560*over):Zmc c over=true:=by unfold Zmc;rw [List.all_eq_true];intro j d;exact decide_eq_true (h j (List.mem_range.1 d))
theorem Zxx{j:Nat}(d:j<c.length)(h:¬((ctl c j (j+1)).natAbs:Int)<=62914560*over):Zmc c over=false:=by
 cases hb:Zmc c over with
 | false=>rfl
 | true=>
  unfold Zmc at hb;rw [List.all_eq_true]at hb;exact absurd (of_decide_eq_true (hb j (List.mem_range.2 d))) h
theorem wc_abs(s:Int):(#[.bool false,.string (Qh s.natAbs)]:Array Value)=wc (s.natAbs:Int):=by have:decide (((s.natAbs:Nat):Int)<0)=false:=decide_eq_false O;rw [show wc (s.natAbs:Int)=#[.bool (decide (((s.natAbs:Nat):Int)<0)),.string (Qh ((s.natAbs:Nat):Int).natAbs)]from rfl,this,Int.natAbs_natCast]
theorem sgp(z:Int):0<z.sign↔0<z:=by simpa using Ft z
def axB(c:List Int)(over:Int):Bool:=decide (1<=c.length) && decide (c.length<=6) && !(decide (1<c.length) && decide (c.getD (c.length-1) 0=0)) && Zmc c over
def Np(g:Int):List Int->Int
 | []=>g
 | x::r=>Np (Int.gcd g x) r
def Iy:∀(a b:List Int) (g:Int),Np g (a ++ b)=Np (Np g a) b
 | [],_,_=>rfl
 | x::a,b,g=>Iy a b _
theorem Bh{l:List Int}(g:Int)(h:i<l.length):Np g (l.take (i+1))=(Int.gcd (Np g (l.take i)) (l.getD i 0):Int):=by rw [Ps 0 _ _ h,Iy];rfl
theorem Zgu:∀{l:List Int} {g:Int} {m:Nat},(∀x∈l,bl x.natAbs<=m)->bl g.natAbs<=m->bl (Np g l).natAbs<=m
 | [],_,_,_,h=>h
 | x::l,g,m,h,hg=>Zgu (l:=l) (λy d=>h y (List.mem_cons_of_mem _ d)) (Nat.le_trans (Zju g x) (by have:=h x (List.mem_cons_self ..);omega))
abbrev Cs:=List Int×List Int×List Int
def Yby(fr d ov:Int):Bool:=decide (0<=fr) && decide (fr<d) && decide (d<=3600000) && decide (1<=ov) && decide (ov<=4294967296)
def Ci(fr d ov:Int)(x y z:List Int):Bool:=Yby fr d ov && axB x ov && axB y ov && axB z ov && decide (Np ov (x ++ y ++ z)=1)
def Nw(i:Nat)(x y z:List Int):List Int:=match i with
 | 0=>[]
 | 1=>x
 | 2=>x ++ y
 | _=>x ++ y ++ z
theorem Fm(x y z:List Int)(h:i<3):Nw (i+1) x y z=Nw i x y z ++ Zo i x y z:=by
 match i,h with
 | 0,_=>rfl
 | 1,_=>rfl
 | 2,_=>rfl
theorem Zcj{fr d:Int}(h:axB (Zo i x y z) ov=false):Ci fr d ov x y z=false:=by unfold Ci;revert h;unfold Zo;split<;>intro h<;>simp [h]
theorem Zad{fr d:Int}(h:¬(0<=fr/\fr<d/\d<=3600000/\1<=ov/\ov<=4294967296)):Ci fr d ov x y z=false:=by
 cases hb:Ci fr d ov x y z with
 | false=>rfl
 | true=>
  unfold Ci Yby at hb;simp only [Bool.and_eq_true,decide_eq_true_eq]at hb;exact absurd O h
theorem Zmm(h:1<=c.length->c.length<=6->¬(1<c.length/\c.getD (c.length-1) 0=0)->Zmc c ov=true->False):axB c ov=false:=by
 cases hb:axB c ov with
 | false=>rfl
 | true=>
  unfold axB at hb;simp only [Bool.and_eq_true,Bool.not_eq_true',Bool.and_eq_false_iff,decide_eq_true_eq,decide_eq_false_iff_not]at hb;exact(h hb.1.1.1 hb.1.1.2 (λe=>by rcases hb.1.2 with d|d;exact d e.1;exact d e.2) hb.2).elim
theorem Ybo(e:1<=c.length)(g:c.length<=6)(h:¬(1<c.length/\c.getD (c.length-1) 0=0))(j:Zmc c ov=true):axB c ov=true:=by
 unfold axB;simp only [Bool.and_eq_true,Bool.not_eq_true',Bool.and_eq_false_iff,decide_eq_true_eq,decide_eq_false_iff_not];refine⟨⟨⟨e,g⟩,?_⟩,j⟩;by_cases d:1<c.length
 .exact .inr λl=>h ⟨d,l⟩
 .exact .inl d
theorem Yfi{fr g:Int}(d:0<=fr/\fr<g/\g<=3600000/\1<=ov/\ov<=4294967296)(e:∀k,k<3->axB (Zo k x y z) ov=true):Ci fr g ov x y z=decide (Np ov (Nw 3 x y z)=1):=by have h:axB x ov=true:=e 0 O2;have j:axB y ov=true:=e 1 O2;have l:axB z ov=true:=e 2 O2;unfold Ci Yby;rw [decide_eq_true d.1,decide_eq_true d.2.1,decide_eq_true d.2.2.1,decide_eq_true d.2.2.2.1,decide_eq_true d.2.2.2.2,h,j,l];rfl
def Kx(d:∀a∈x,Ng a)(e:∀a∈y,Ng a)(g:∀a∈z,Ng a)(i:Nat):∀a∈Zo i x y z,Ng a:=Dz (p:=λl=>∀a∈l,Ng a) d e g
theorem bl_fc(e:∀a∈x,Ng a)(g:∀a∈y,Ng a)(j:∀a∈z,Ng a)(l:bl ov.natAbs<=64)(i k:Nat):bl (Np (Np ov (Nw i x y z)) ((Zo i x y z).take k)).natAbs<=64:=by
 refine Zgu (λa d=>Li (Kx e g j i a (List.mem_of_mem_take d))) (Zgu (λa d=>Li ?_) l);unfold Nw at d;split at d
 .cases d
 .exact e a d
 .rcases List.mem_append.1 d with h|h
  .exact e a h
  .exact g a h
 .rcases List.mem_append.1 d with h|h
  .rcases List.mem_append.1 h with h|h
   .exact e a h
   .exact g a h
  .exact j a h
abbrev RWL:=List (Bool×ByteArray)
def smallR(r:RWL):Bool:=decide (r.length<=8) && r.all λc=>decide (c.2.size<=6)
noncomputable def dec (r:RWL):List Int:=if h:okP r=true then(okP_ex h).choose else []
noncomputable def bdE (r:RWL):Int:=if okP r=true then Zxr (dec r)else 2
noncomputable def bdZ (r:RWL):Int:=if bdE r=0 then sbound (dec r)else 0
def firstE(r:RWL)(x y d e:Int):Int:=if okP r=true then(if r.length=0\/0<x*e-d*y then 3 else 0)else 2
def chke:Nat->Nat->Nat->Nat->Nat->Bool
 | 0,d,_,A,_=>Nat.ble (A+d*64) 65500
 | f+1,d,e,A,B=>Nat.ble (A+d*64) 65500 && (Nat.beq e 0 || (List.range e).all λl=>chke f e l B (bif Nat.ble l 1 then 2 else A+(d-e+1)*B))
inductive SV:List Int->List Int->Prop
 | one (a:Int):SV [a] [a]
 | step (a:Int) (r t:List Int):SV r t->SV (a::r) (a::t)
 | skip (a u w:Int) (r t:List Int):(a=1\/a=-1)->(-1<=u/\u<=1)->(-1<=w/\w<=1)->SV (-a::r) (-a::t)->SV (a::u::-a::r) (a::w::-a::t)
theorem Zof{s:Int×Int}{a u:Int}(e:a=1\/a=-1)(g:-1<=u/\u<=1):Mn (Mn (Mn s a) u) (-a)=Mn (Mn s a) (-a):=by obtain⟨n,l⟩:=s;have d:u=-1\/u=0\/u=1:=O;rcases e with rfl|rfl<;>rcases d with rfl|rfl|rfl<;>simp [Mn]
theorem SV.fold(h:SV a b):∀s,a.foldl Mn s=b.foldl Mn s:=by
 induction h with
 | one a=>intro s;rfl
 | step a r t _ d=>intro s;exact d (Mn s a)
 | skip a u w r t e g j _ d=>
  intro s;show(r.foldl Mn (Mn (Mn (Mn s a) u) (-a)))=(t.foldl Mn (Mn (Mn (Mn s a) w) (-a)));rw [Zof e g,Zof e j];exact d (Mn s a)
def SV.chg(h:SV a b):chg a=chg b:=congrArg Prod.fst (h.fold (0,0))
def Er(x:Rat):Int:=if x<0 then -1 else if x=0 then 0 else 1
theorem Yfp(x:Rat):-1<=Er x/\Er x<=1:=by unfold Er;split;decide;split<;>decide
theorem Ah{x:Rat}(h:0<x):Er x=1:=by unfold Er;rw [if_neg O4,if_neg O4]
theorem Ai{x:Rat}(h:x<0):Er x=-1:=by unfold Er;rw [if_pos h]
def Big(η x:Rat)(f:Rat->Rat):Prop:=η<f x\/f x < -η
def Tri(η x:Rat):(Rat->Rat)->List (Rat->Rat)->Prop
 | _,[]=>True
 | _,[g]=>Big η x g
 | f,g::k::r=>(Big η x g/\Tri η x g (k::r))\/(Big η x k/\f x*k x<0/\Tri η x k r)
def Near(η x y:Rat)(f:Rat->Rat):Prop:=f x-f y<=η/\f y-f x<=η
theorem Zru{x y:Rat}(e:0<=η)(h:Big η x f)(d:Near η x y f):Er (f x)=Er (f y)/\(Er (f x)=1\/Er (f x)=-1):=by
 obtain⟨g,j⟩:=d;rcases h with h|h
 .rw [Ah O4,Ah O4];exact⟨rfl,.inl rfl⟩
 .rw [Ai O4,Ai O4];exact⟨rfl,.inr rfl⟩
theorem opp_sg{a b:Rat}(h:a*b<0):Er b=- Er a:=by
 rcases(show a<0\/a=0\/0<a by grind)with e|e|e
 .rw [Ai e,Ah (by
   rcases(show b<=0\/0<b by grind)with d|d
   .have:=Rat.mul_nonneg (a:=-a) (b:=-b) O4 O4;grind
   .exact d)];rfl
 .subst e;grind
 .rw [Ah e,Ai (by
   rcases(show 0<=b\/b<0 by grind)with d|d
   .have:=Rat.mul_nonneg (a:=a) (b:=b) O4 d;grind
   .exact d)]
theorem Zop{η x y:Rat}(h:0<=η):∀(n:Nat) (f:Rat->Rat) (fs:List (Rat->Rat)),fs.length<=n->Big η x f->(∀g∈f::fs,Near η x y g)->Tri η x f fs->
  SV ((f::fs).map λg=>Er (g x)) ((f::fs).map λg=>Er (g y))
 | _,f,[],_,q,d,_=>by have:=(Zru h q (d f (List.mem_cons_self ..))).1;simp only [List.map_cons,List.map_nil,this];exact SV.one _
 | 0,f,g::r,u,_,_,_=>absurd u O7
 | n+1,f,[g],u,q,d,m=>by have p:=(Zru h q (d f (List.mem_cons_self ..))).1;have e:=Zop h n g [] O7 m (λk o=>d k (List.mem_cons_of_mem _ o)) trivial;rw [List.map_cons,List.map_cons,p];exact SV.step _ _ _ e
 | n+1,f,g::k::r,u,q,d,m=>by
  have p:=Zru h q (d f (List.mem_cons_self ..));rcases m with⟨B,m⟩|⟨o,G,m⟩
  .have e:=Zop h n g (k::r) (by simp at u ⊢;omega) B (λk o=>d k (List.mem_cons_of_mem _ o)) m;rw [List.map_cons (l:=g::k::r),List.map_cons (l:=g::k::r),p.1];exact SV.step _ _ _ e
  .have e:=Zop h n k r (by simp at u ⊢;omega) o (λj D=>d j (List.mem_cons_of_mem _ (List.mem_cons_of_mem _ D))) m;have v:=(Zru h o (d k O7)).1;have w:=opp_sg G;rw [List.map_cons (l:=r),List.map_cons (l:=r)]at e;simp only [List.map_cons];rw [<-v]at e ⊢;rw [w]at e ⊢;rw [<-p.1];exact SV.skip _ _ _ _ _ p.2 (Yfp _) (Yfp _) e
structure Lnk (η x:Rat) (f g k:Rat->Rat):Prop where
 big:¬Big η x g->Big η x k
 opp:¬Big η x g->f x*k x<0
def Lnks(η x:Rat):(Rat->Rat)->List (Rat->Rat)->Prop
 | _,[]=>True
 | _,[g]=>Big η x g
 | f,g::k::r=>Lnk η x f g k/\Lnks η x g (k::r)
theorem Zlc{η x:Rat} : ∀(n:Nat) (f:Rat->Rat) (fs:List (Rat->Rat)),fs.length<=n->Lnks η x f fs->Tri η x f fs
 | _,f,[],_,_=>trivial
 | 0,f,g::r,e,_=>absurd e O7
 | n+1,f,[g],_,h=>h
 | n+1,f,[g,k],e,h=>by
  by_cases d:Big η x g
  .exact .inl ⟨d,h.2⟩
  .exact .inr ⟨h.1.big d,h.1.opp d,trivial⟩
 | n+1,f,g::k::j::r,e,h=>by
  by_cases d:Big η x g
  .exact .inl ⟨d,Zlc n g (k::j::r) (by simp at e ⊢;omega) h.2⟩
  .exact .inr ⟨h.1.big d,h.1.opp d,Zlc n k (j::r) (by simp at e ⊢;omega) h.2.2⟩
def Rl3(s t:Rat)(f g k:Rat->Rat):Prop:=∃m n Q:Rat,0<m/\0<n/\0<Q/\∀x,s<=x->x<=t->∃q,-Q<=q/\q<=Q/\m*f x=q*g x-n*k x
def Rl2(s t:Rat)(f g:Rat->Rat):Prop:=∃m Q:Rat,0<m/\0<Q/\∀x,s<=x->x<=t->∃q,-Q<=q/\q<=Q/\m*f x=q*g x
def Rls(s t:Rat):(Rat->Rat)->List (Rat->Rat)->Prop
 | _,[]=>True
 | f,[g]=>Rl2 s t f g
 | f,g::k::r=>Rl3 s t f g k/\Rls s t g (k::r)
theorem Zb3{q Q g e:Rat}(h:-Q<=q)(j:q<=Q)(l:-e<=g)(m:g<=e)(n:0<=Q):q*g<=Q*e/\-(Q*e)<=q*g:=by have a:=Rat.mul_nonneg (a:=Q-q) (b:=e+g) O4 O4;have b:=Rat.mul_nonneg (a:=Q+q) (b:=e-g) O4 O4;have c:=Rat.mul_nonneg (a:=Q-q) (b:=e-g) O4 O4;have d:=Rat.mul_nonneg (a:=Q+q) (b:=e+g) O4 O4;constructor<;>grind
theorem Zdo{x:Rat}{g:Rat->Rat}(h:¬Big η x g):-η<=g x/\g x<=η:=by unfold Big at h;constructor<;>grind
theorem Zx1{x:Rat}{g:Rat->Rat}(h:η<=ε)(d:Big ε x g):Big η x g:=by unfold Big at *;grind
theorem Hz{a b:Rat}(h:0<ε)(j:0<a)(l:0<b):∃e:Rat,0<e/\e<=ε/\e*a<=b:=by
 have g:0<b*a⁻¹:=Rat.mul_pos l (Rat.inv_pos.2 j);have m:b*a⁻¹*a=b:=O4;rcases(show ε<=b*a⁻¹\/b*a⁻¹<=ε by grind)with d|d
 .exact⟨ε,h,O4,by have:=Rat.mul_le_mul_of_nonneg_right d (show 0<=a by grind);grind⟩
 .exact⟨b*a⁻¹,g,d,O4⟩
theorem pair3{g k:Rat->Rat}(h:Rl3 s t f g k)(D:0<ε)(P:∀x,s<=x->x<=t->Big ε x f\/Big ε x g) :
  ∃e,0<e/\(∀x,s<=x->x<=t->Big e x g\/Big e x k)/\∀η,0<η->η<=e->∀x,s<=x->x<=t->Lnk η x f g k:=by
 obtain⟨m,n,Q,w,N,hQ,R⟩:=h;obtain⟨e,B,e2,e3⟩:=Hz D (show 0<Q+n by grind) (Rat.mul_pos w D);have l:∀η,0<η->η<=e->∀x,s<=x->x<=t->¬Big η x g->Big η x k/\f x*k x<0:=λη p r x hs j d=>by
  obtain⟨q,S,V,q3⟩:=R x hs j;obtain⟨I,M⟩:=Zdo d;obtain⟨p1,p2⟩:=Zb3 S V I M O4;have v:Big ε x f:=(P x hs j).resolve_right λh=>d (Zx1 O4 h);have W:η*(Q+n)<=m*ε:=by have:=Rat.mul_le_mul_of_nonneg_right r (show 0<=Q+n by grind);grind
  have Z:0<η*n:=Rat.mul_pos p N;rcases v with v|v
  .have G:m*ε<m*f x:=by have:=Rat.mul_pos w (show 0<f x-ε by grind);grind
   have H:n*k x < - (n*η):=O4;have u:k x < -η:=by
    rcases(show k x < -η\/-η<=k x by grind)with o|o
    .exact o
    .have:=Rat.mul_nonneg (a:=n) (b:=k x+η) O4 O4;grind
   refine⟨.inr u,?_⟩;have:=Rat.mul_pos (a:=f x) (b:=- k x) O4 O4;grind
  .have G:m*f x < - (m*ε):=by have:=Rat.mul_pos w (show 0 < -ε-f x by grind);grind
   have H:n*η<n*k x:=O4;have u:η<k x:=by
    rcases(show η<k x\/k x<=η by grind)with o|o
    .exact o
    .have:=Rat.mul_nonneg (a:=n) (b:=η-k x) O4 O4;grind
   refine⟨.inl u,?_⟩;have:=Rat.mul_pos (a:=- f x) (b:=k x) O4 O4;grind
 refine⟨e,B,λx hs j=>?_,λη p r x hs j=>⟨λd=>(l η p r x hs j d).1,λd=>(l η p r x hs j d).2⟩⟩;by_cases d:Big e x g
 .exact .inl d
 .exact .inr (l e B O4 x hs j d).1
theorem pair2{g:Rat->Rat}(h:Rl2 s t f g)(n:0<ε)(B:∀x,s<=x->x<=t->Big ε x f\/Big ε x g) :
  ∃e,0<e/\∀η,0<η->η<=e->∀x,s<=x->x<=t->Big η x g:=by
 obtain⟨m,Q,l,w,D⟩:=h;obtain⟨e,p,M,N⟩:=Hz n w (Rat.mul_pos l n);refine⟨e,p,λη P v x hs o=>?_⟩;by_cases j:Big η x g
 .exact j
 .exfalso;obtain⟨q,G,H,V⟩:=D x hs o;obtain⟨r,u⟩:=Zdo j;obtain⟨R,S⟩:=Zb3 G H r u O4;have d:Big ε x f:=(B x hs o).resolve_right λh=>j (Zx1 O4 h);have I:η*Q<=m*ε:=by have:=Rat.mul_le_mul_of_nonneg_right v (show 0<=Q by grind);grind
  rcases d with d|d
  .have:=Rat.mul_pos l (show 0<f x-ε by grind);grind
  .have:=Rat.mul_pos l (show 0 < -ε-f x by grind);grind
theorem Zt4{s t:Rat} : ∀(n:Nat) (f:Rat->Rat) (fs:List (Rat->Rat)) (ε:Rat),fs.length<=n->Rls s t f fs->0<ε->(∀g r,fs=g::r->∀x,s<=x->x<=t->Big ε x f\/Big ε x g)->
  ∃e,0<e/\∀η,0<η->η<=e->∀x,s<=x->x<=t->Lnks η x f fs
 | _,f,[],ε,_,_,l,_=>⟨ε,l,λ_ _ _ _ _ _=>trivial⟩
 | 0,f,g::r,ε,hl,_,_,_=>absurd hl O7
 | n+1,f,[g],ε,_,h,l,v=>pair2 h l (v g [] rfl)
 | n+1,f,g::k::r,ε,hl,h,l,v=>by
  obtain⟨e,w,D,B⟩:=pair3 h.1 l (v g (k::r) rfl);obtain⟨p,q,j⟩:=Zt4 n g (k::r) e (by simp at hl ⊢;omega) h.2 w (λH I u=>by injection u with d o;subst d;exact D)
  rcases(show e<=p\/p<=e by grind)with G|G
  .exact⟨e,w,λη d o x hs m=>⟨B η d o x hs m,j η d O4 x hs m⟩⟩
  .exact⟨p,q,λη d o x hs m=>⟨B η d O4 x hs m,j η d o x hs m⟩⟩
def Lip(s t L:Rat)(f:Rat->Rat):Prop:=∀x y,s<=x->x<=y->y<=t->f x-f y<=L*(y-x)/\f y-f x<=L*(y-x)
def vat(fs:List (Rat->Rat))(x:Rat):Int:=chg (fs.map λg=>Er (g x))
theorem Yl1{L:Rat}(u:0<L)(B:∀g∈f::fs,Lip s t L g)(n:0<δ)(m:∀x,s<=x->x<=t->Big δ x f)(D:Rls s t f fs) :
  ∃h,0<h/\∀x y,s<=x->x<=y->y<=t->y-x<=h->vat (f::fs) x=vat (f::fs) y:=by
 obtain⟨e,o,p⟩:=Zt4 fs.length f fs δ (Nat.le_refl _) D n (λg r _ x hs G=> .inl (m x hs G));obtain⟨η,l,N,P⟩:=Hz n (show(0:Rat)<1 by decide) o;obtain⟨h,q,I,M⟩:=Hz l u l;refine⟨h,q,λx y d j H w=>SV.chg ?_⟩;refine Zop O4 fs.length f fs (Nat.le_refl _) (Zx1 O4 (m x d O4)) (λg v=>?_) (Zlc _ _ _ (Nat.le_refl _) (p η l O4 x d O4));obtain⟨a,b⟩:=B g v x y d j H;have:=Rat.mul_le_mul_of_nonneg_right w (show 0<=L by grind);exact⟨O4,O4⟩
theorem Ybw{L:Rat}(B:0<L)(H:∀g∈f::fs,Lip s t L g)(G:0<δ)(D:∀x,s<=x->x<=t->Big δ x f)(M:Rls s t f fs)(o:s<=t) :
  vat (f::fs) s=vat (f::fs) t:=by
 obtain⟨h,v,q⟩:=Yl1 B H G D M;have p:∀n:Nat,∀y,s<=y->y<=t->y-s<=(n:Rat)*h->vat (f::fs) s=vat (f::fs) y:=λn=>by
  induction n with
  | zero=>
    intro y d e j;have:y=s:=by simp at j;grind
    rw [this]
  | succ n u=>
   intro y d e j;have r:((n+1:Nat):Rat)*h=(n:Rat)*h+h:=by push_cast;grind
   rcases(show y-s<=(n:Rat)*h\/(n:Rat)*h<y-s by grind)with l|l
   .exact u y d e l
   .have w:(0:Rat)<=(n:Rat)*h:=Rat.mul_nonneg (by exact_mod_cast Nat.zero_le n) O4;rcases(show s<=y-h\/y-h<s by grind)with m|m
    .rw [u (y-h) m O4 O4];exact q (y-h) y m O4 e O4
    .exact q s y O4 d e O4
 have d:∃n:Nat,t-s<=(n:Rat)*h:=by
  have e:0<h⁻¹:=Rat.inv_pos.2 v;refine⟨((t-s)*h⁻¹).ceil.toNat,?_⟩;have j:=@Rat.le_ceil ((t-s)*h⁻¹);have r:((((t-s)*h⁻¹).ceil:Int):Rat)<=((((t-s)*h⁻¹).ceil.toNat:Nat):Rat):=by have:((t-s)*h⁻¹).ceil<=((((t-s)*h⁻¹).ceil.toNat:Nat):Int):=Int.self_le_toNat _;exact_mod_cast this
  have l:=Rat.mul_le_mul_of_nonneg_right (Rat.le_trans j r) (show 0<=h by grind);have w:(t-s)*h⁻¹*h=t-s:=O4;grind
 obtain⟨n,I⟩:=d;exact p n t o O4 I
def Zd:List Int->Rat->Rat
 | [],_=>0
 | c::p,x=>(c:Rat)+x*Zd p x
theorem Yob(s t:Rat):∃K:Rat,0<K/\∀x,s<=x->x<=t->-K<=x/\x<=K:=by
 rcases(show(0<=s\/s<0) by grind)with h|h<;>rcases(show(0<=t\/t<0) by grind)with d|d
 .exact⟨t+1,O4,λx _ _=>O4⟩
 .exact⟨1,O4,λx _ _=>O4⟩
 .exact⟨t-s+1,O4,λx _ _=>O4⟩
 .exact⟨-s+1,O4,λx _ _=>O4⟩
theorem Ztb(s t:Rat):∀p:List Int,∃B:Rat,0<B/\∀x,s<=x->x<=t->-B<=Zd p x/\Zd p x<=B
 | []=>⟨1,O2,λx _ _=>by unfold Zd;grind⟩
 | c::p=>by obtain⟨B,e,g⟩:=Ztb s t p;obtain⟨K,o,q⟩:=Yob s t;obtain⟨C,r,h⟩:=Yob (c:Rat) (c:Rat);have u:=h (c:Rat) O4 O4;refine⟨C+K*B,by have:=Rat.mul_pos o e;grind,λx hs d=>?_⟩;obtain⟨j,l⟩:=g x hs d;obtain⟨m,n⟩:=q x hs d;obtain⟨f1,f2⟩:=Zb3 m n j l O4;unfold Zd;constructor<;>grind
theorem Cq(s t:Rat):∀p:List Int,∃L:Rat,0<L/\Lip s t L (Zd p)
 | []=>⟨1,O2,λx y _ _ _=>by unfold Zd;constructor<;>grind⟩
 | c::p=>by obtain⟨L,r,u⟩:=Cq s t p;obtain⟨B,D,j⟩:=Ztb s t p;obtain⟨K,n,o⟩:=Yob s t;refine⟨K*L+B,by have:=Rat.mul_pos n r;grind,λx y hs d h=>?_⟩;obtain⟨v,w⟩:=u x y hs d h;obtain⟨G,H⟩:=j y O4 h;obtain⟨l,m⟩:=o x hs O4;obtain⟨f1,f2⟩:=Zb3 (q:=x) (g:=Zd p x-Zd p y) (e:=L*(y-x)) l m O4 O4 O4;have I:=Rat.mul_nonneg (a:=B-Zd p y) (b:=y-x) O4 O4;have M:=Rat.mul_nonneg (a:=B+Zd p y) (b:=y-x) O4 O4;unfold Zd;constructor<;>grind
theorem Zkp(x:Rat):∀q:List Int,(∀i,cf q i=0)->Zd q x=0
 | [],_=>rfl
 | c::q,h=>by have d:c=0:=h 0;have e:=Zkp x q λi=>h (i+1);unfold Zd;rw [e,d];grind
theorem Om(x:Rat):∀p q:List Int,(∀i,cf p i=cf q i)->Zd p x=Zd q x
 | [],q,h=>by rw [Zkp x q λi=>(h i).symm.trans (Yl (Nat.zero_le _))];rfl
 | c::p,[],h=>by rw [Zkp x (c::p) λi=>(h i).trans (Yl (Nat.zero_le _))];rfl
 | c::p,d::q,h=>by have e:c=d:=h 0;have g:=Om x p q λi=>h (i+1);unfold Zd;rw [g,e]
def Ma:List Int->List Int->List Int
 | [],q=>q
 | p,[]=>p
 | a::p,b::q=>(a+b)::Ma p q
theorem Zug(p:List Int):Ma p []=p:=by cases p<;>rfl
theorem Xh(x:Rat):∀p q:List Int,Zd (Ma p q) x=Zd p x+Zd q x
 | [],q=>by unfold Ma;show Zd q x=0+Zd q x;grind
 | a::p,[]=>by rw [Zug];show Zd (a::p) x=Zd (a::p) x+0;grind
 | a::p,b::q=>by have h:=Xh x p q;unfold Ma Zd;rw [h];push_cast;grind
theorem Mb:∀(p q:List Int) (i:Nat),cf (Ma p q) i=cf p i+cf q i
 | [],q,i=>by unfold Ma;rw [show cf [] i=0 from Yl (Nat.zero_le _)];omega
 | a::p,[],i=>by rw [Zug,show cf [] i=0 from Yl (Nat.zero_le _)];omega
 | a::p,b::q,0=>rfl
 | a::p,b::q,i+1=>Mb p q i
theorem Zk(x:Rat)(c:Int):∀p:List Int,Zd (p.map λa=>c*a) x=(c:Rat)*Zd p x
 | []=>by show(0:Rat)=c*0;grind
 | a::p=>by have h:=Zk x c p;simp only [List.map_cons];unfold Zd;rw [h];push_cast;grind
theorem Qi(c:Int):∀(p:List Int) (i:Nat),cf (p.map λa=>c*a) i=c*cf p i
 | [],i=>by simp [cf]
 | a::p,0=>rfl
 | a::p,i+1=>Qi c p i
def lmul:List Int->List Int->List Int
 | [],_=>[]
 | c::p,q=>Ma (q.map λa=>c*a) (0::lmul p q)
theorem Zx(x:Rat):∀p q:List Int,Zd (lmul p q) x=Zd p x*Zd q x
 | [],q=>by show(0:Rat)=0*Zd q x;grind
 | c::p,q=>by have h:=Zx x p q;unfold lmul;rw [Xh,Zk];show(c:Rat)*Zd q x+(((0:Int):Rat)+x*Zd (lmul p q) x)=((c:Rat)+x*Zd p x)*Zd q x;rw [h];grind
theorem Ek:∀(p q:List Int) (i:Nat),cf (lmul p q) i=Ye (λk=>cf p k*cf q (i-k)) (i+1)
 | [],q,i=>by rw [show cf (lmul [] q) i=0 from Yl (Nat.zero_le _)];exact(Gd λk _=>by rw [show cf [] k=0 from Yl (Nat.zero_le _),Int.zero_mul]).symm
 | c::p,q,0=>by unfold lmul;rw [Mb,Qi,Yj,Hm];show c*cf q 0+0=0+c*cf q 0;omega
 | c::p,q,i+1=>by have h:=Ek p q i;unfold lmul;rw [Mb,Qi,Me];show c*cf q (i+1)+cf (lmul p q) i=c*cf q (i+1)+_;rw [h];congr 1;refine Yy λk d=>?_;show cf p k*cf q (i-k)=cf p k*cf q (i+1-(k+1));rw [show i+1-(k+1)=i-k by omega]
theorem Dn{a c:Int}{s:List Int}(h:∀t,a*cf x t=(ps s*ps y).c t-c*cf z t)(q:Rat):(a:Rat)*Zd x q=Zd s q*Zd y q-(c:Rat)*Zd z q:=by
 have d:∀t,cf (Ma (x.map λb=>a*b) (z.map λb=>c*b)) t=cf (lmul s y) t:=λt=>by rw [Mb,Qi,Qi,Ek,h t,PS.mul_c];show Ye (λk=>cf s k*cf y (t-k)) (t+1)-c*cf z t+c*cf z t=_;omega
 have e:=Om q _ _ d;rw [Xh,Zk,Zk,Zx]at e;grind
theorem Ych(D:Tr x)(p:Tr y)(h:y≠[])(N:y.length<=x.length):Rl3 s t (Zd x) (Zd y) (Zd (Nn x y)):=by
 have R:=List.length_pos_iff.2 h;obtain⟨r1,r2,k,u,M⟩:=Zfp p h x.length x D O;have hs:=Zhb (f:=x.length) D p h N O;have o:Tr (Zes (Zaq x.length x y)):=Qk _ _;obtain⟨m,n,P,Q,w⟩:=Zeq o;rw [hs]at w;have I:0<Zbp y^k:=Int.pow_pos (Zft p h);obtain⟨B,G,r⟩:=Ztb s t u;have l:(0:Rat)<(m:Rat):=by exact_mod_cast P
 have d:(0:Rat)<(n:Rat):=by exact_mod_cast Q
 have j:(0:Rat)<((Zbp y^k:Int):Rat):=by exact_mod_cast I
 refine⟨(n:Rat)*((Zbp y^k:Int):Rat),(m:Rat),(n:Rat)*B,Rat.mul_pos d j,l,Rat.mul_pos d G,λq e g=>⟨(n:Rat)*Zd u q,?_,?_,?_⟩⟩
 .have:=Rat.mul_nonneg (a:=(n:Rat)) (b:=Zd u q+B) O4 (by have:=r q e g;grind);grind
 .have:=Rat.mul_nonneg (a:=(n:Rat)) (b:=B-Zd u q) O4 (by have:=r q e g;grind);grind
 .have H:=Dn (a:=Zbp y^k) (c:=-1) (x:=x) (s:=u) (y:=y) (z:=Zaq x.length x y) (λt=>by rw [M t];omega) q;have v:Zd ((Nn x y).map λb=>m*b) q=Zd ((Zaq x.length x y).map λb=>(-n)*b) q:=Om q _ _ λi=>by rw [Qi,Qi,w i,Dt,Int.mul_neg,Int.neg_mul]
  rw [Zk,Zk]at v;push_cast at H v ⊢;grind
theorem rl2_of{g:Rat->Rat}(h:Rl3 s t f g (Zd [])):Rl2 s t f g:=by obtain⟨m,n,Q,l,v,j,o⟩:=h;refine⟨m,Q,l,j,λx d e=>?_⟩;obtain⟨q,p,r,u⟩:=o x d e;refine⟨q,p,r,?_⟩;have:Zd [] x=0:=rfl;rw [this]at u;grind
theorem Znp : ∀(f:Nat) (a b:List Int),Tr a->Tr b->cok f a b->∃r,Mz f a b=a::r/\Rls s t (Zd a) (r.map Zd)/\(b=[]->r=[])/\(b≠[]->∃r',r=b::r'):=λf=>by
 induction f with
 | zero=>
  intro a b j l h;have d:b=[]:=h;subst d;exact⟨[],rfl,trivial,λ_=>rfl,λh=>absurd rfl h⟩
 | succ f w=>
  intro a b j l h;by_cases d:b=[]
  .subst d;exact⟨[],Bo _ _,trivial,λ_=>rfl,λh=>absurd rfl h⟩
  .obtain⟨g,D,B,m,v,hs⟩:=Zl5 h d;obtain rfl:f=g:=O;obtain⟨r,o,p,q,u⟩:=w b (Nn a b) l (Zce j) v;have e:=Ych (s:=s) (t:=t) j l d m;refine⟨b::r,by rw [hs,o],?_,λh=>absurd h d,λ_=>⟨r,rfl⟩⟩;by_cases n:Nn a b=[]
   .rw [q n];rw [n]at e;exact rl2_of e
   .obtain⟨r',rfl⟩:=u n;exact⟨e,p⟩
theorem Zt5{L M:Rat}(h:L<=M)(j:Lip s t L f):Lip s t M f:=λx y d e g=>by obtain⟨a,b⟩:=j x y d e g;have:=Rat.mul_le_mul_of_nonneg_right h (show 0<=y-x by grind);constructor<;>grind
theorem Zzw(s t:Rat):∀ls:List (List Int),∃L:Rat,0<L/\∀g∈ls.map Zd,Lip s t L g
 | []=>⟨1,O2,λg d=>by cases d⟩
 | p::ls=>by
  obtain⟨L,j,e⟩:=Zzw s t ls;obtain⟨M,l,h⟩:=Cq s t p;refine⟨L+M,O4,λg d=>?_⟩;rw [List.map_cons]at d;rcases List.mem_cons.1 d with rfl|d
  .exact Zt5 O4 h
  .exact Zt5 O4 (e g d)
theorem Zfo{f:Nat}(l:Tr a)(m:Tr b)(n:cok f a b)(d:s<=t)(o:0<δ)(j:∀x,s<=x->x<=t->Big δ x (Zd a)) :
  vat ((Mz f a b).map Zd) s=vat ((Mz f a b).map Zd) t:=by
 obtain⟨r,g,h,_,_⟩:=Znp (s:=s) (t:=t) f a b l m n;obtain⟨L,p,e⟩:=Zzw s t (Mz f a b);rw [g]at e ⊢;exact Ybw p e o j h d
theorem Zs8(x:Rat)(l:Int):∀p:List Int,Zd (p ++ [l]) x=Zd p x+(l:Rat)*x^p.length
 | []=>by show(l:Rat)+x*0=0+l*x^0;rw [Rat.pow_zero];grind
 | c::p=>by have h:=Zs8 x l p;rw [List.cons_append,List.length_cons,Rat.pow_succ];unfold Zd;rw [h];grind
def alt:List Int->List Int
 | []=>[]
 | c::p=>c::(alt p).map λa=>-1*a
theorem Ygz(c:Int)(p:List Int)(X Y:Int)(h:p≠[]):pev (c::p) X Y=c*Y^p.length+X*pev p X Y:=by
 have d:=List.length_pos_iff.2 h;unfold pev;rw [List.length_cons,Me,<-Mr];congr 1
 .show c*(X^0*Y^(p.length+1-1-0))=_;rw [Int.pow_zero,Int.one_mul,show p.length+1-1-0=p.length by omega]
 .refine Yy λi hi=>?_;show cf p i*(X^(i+1)*Y^(p.length+1-1-(i+1)))=X*(cf p i*(X^i*Y^(p.length-1-i)));rw [show p.length+1-1-(i+1)=p.length-1-i by omega,Int.pow_succ];grind
theorem Zzm{X Y:Int}(e:0<Y):∀p:List Int,((pev p X Y:Int):Rat)=Zd p ((X:Rat)/(Y:Rat))*(Y:Rat)^(p.length-1)
 | []=>by show(0:Rat)=0*_;grind
 | [c]=>by
  have:pev [c] X Y=c:=by unfold pev;show 0+c*(X^0*Y^0)=c;rw [Int.pow_zero,Int.pow_zero];omega
  rw [this];show(c:Rat)=(c+X/Y*0)*(Y:Rat)^0;rw [Rat.pow_zero];grind
 | c::d::p=>by
  have h:=Zzm (X:=X) e (d::p);rw [Ygz c (d::p) X Y O7];have g:(Y:Rat)≠0:=by
    have:(0:Rat)<(Y:Rat):=by exact_mod_cast e
    grind
  push_cast;rw [h];show(c:Rat)*(Y:Rat)^(p.length+1)+X*(Zd (d::p) (X/Y)*(Y:Rat)^(p.length+1-1))=((c:Rat)+X/Y*Zd (d::p) (X/Y))*(Y:Rat)^(p.length+1+1-1);rw [show p.length+1-1=p.length by omega,show p.length+1+1-1=p.length+1 by omega,Rat.pow_succ];generalize Zd (d::p) (X/Y)=R;generalize (Y:Rat)^p.length=P;have:(X:Rat)/Y*Y=X:=O4;grind
theorem Ye4{z:Int}{r q:Rat}(j:0<q)(h:(z:Rat)=r*q):z.sign=Er r:=by
 rcases(show r<0\/r=0\/0<r by grind)with d|d|d
 .rw [Ai d];have:=Rat.mul_pos (a:=-r) (b:=q) O4 j;have e:(z:Rat)<0:=O4;have g:z<0:=by exact_mod_cast e
  exact Int.sign_eq_neg_one_of_neg g
 .subst d;have e:(z:Rat)=0:=O4;have g:z=0:=by exact_mod_cast e
  subst g;rfl
 .rw [Ah d];have:=Rat.mul_pos d j;have e:(0:Rat)<z:=O4;have g:0<z:=by exact_mod_cast e
  exact Int.sign_eq_one_of_pos g
theorem Zqs{X:Int}(d:0<Y)(p:List Int):fat X Y p=Er (Zd p ((X:Rat)/(Y:Rat))):=by
 have:(0:Rat)<(Y:Rat):=by exact_mod_cast d
 exact Ye4 (Rat.pow_pos this) (Zzm d p)
theorem Ymt(m:Tr xs)(j:xs≠[])(h:eok F (gA (Xe xs) (Xd (Xe xs))) (gB (Xe xs) (Xd (Xe xs)))):∃g:List Int,∀x,Zd xs x=Zd (sqf F xs) x*Zd g x:=by
 obtain⟨f1,f2,f3,f4,f5,f6⟩:=Ol (F:=F) m j h;have e:∃k:Int,∀i,cf xs i=k*cf (Xe xs) i:=by
  unfold Xe Hx;split
  .refine⟨-Ym xs,λi=>?_⟩;rw [Yu,<-Gg xs i];grind
  .refine⟨Ym xs,λi=>?_⟩;rw [<-Gg xs i];grind
 obtain⟨k,e⟩:=e;refine⟨(Mh F (Xe xs) (Xd (Xe xs))).map λa=>k*a,λx=>?_⟩;have l:Zd (Xe xs) x=Zd (sqf F xs) x*Zd (Mh F (Xe xs) (Xd (Xe xs))) x:=by
  have:=Dn (a:=1) (c:=0) (x:=Xe xs) (s:=sqf F xs) (y:=Mh F (Xe xs) (Xd (Xe xs))) (z:=[]) (λt=>by have d:=Hg (sqf F xs) (Mh F (Xe xs) (Xd (Xe xs))) t;rw [<-f4]at d;rw [d];omega) x
  push_cast at this;grind
 have d:Zd xs x=Zd ((Xe xs).map λa=>k*a) x:=Om x _ _ λi=>by rw [Qi];exact e i
 rw [d,Zk,Zk,l];grind
theorem Yll{x:Rat}{f:List Int->Int}(h:∀p∈ls,Er (Zd p x)=f p):vat (ls.map Zd) x=chg (ls.map f):=by unfold vat;rw [List.map_map];exact congrArg chg (List.map_congr_left λp d=>h p d)
def Yo1{X:Int}(d:0<Y):cnt F xs X Y=vat ((chn F xs).map Zd) ((X:Rat)/(Y:Rat)):=
 (Yll λp _=>(Zqs d p).symm).symm
end Go.Sky

