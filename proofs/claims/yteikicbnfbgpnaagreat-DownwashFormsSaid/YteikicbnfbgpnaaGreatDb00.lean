/- Rules, arithmetic and contracts: part 1. No conditions but those that each theorem names. -/
import Derived.Tactics
import Derived.Tactics2
import Derived.Orders
import Derived.Below
import Derived.Laws.AppendOwn
import Derived.Laws.MakeOwn
import Derived.KernelRfl
set_option linter.all false
namespace Go.Sky
theorem O {p:Prop}(h:p:=by omega):p:=h
theorem O1 {p:Prop}(h:p:=by first | omega | (dsimp only<;>omega)):p:=h
theorem O2 {p:Prop}(h:p:=by first | omega | (simp only [List.length_set];omega)):p:=h
theorem O3 {p:Prop}(h:p:=by decide):p:=h
theorem O4 {p:Prop}(h:p:=by grind):p:=h
theorem O5 {p:Prop}(h:p:=by decide +kernel):p:=h
theorem O6 {p:Prop}(h:p:=by kernel_rfl):p:=h
theorem O7 {p:Prop}(h:p:=by simp):p:=h
theorem O8 {p:Prop}(h:p:=by simp;omega):p:=h
theorem O9 {p:Prop}(h:p:=by simp [Kl,Zy,Pk]):p:=h
theorem O10 {p:Prop}(h:p:=by simp [Value.oneCell']):p:=h
theorem O11 {p:Prop}(h:p:=by dsimp only;omega):p:=h
def Zy(f:Nat→Int):Nat→Int
 | 0=>0
 | n+1=>Zy f n+f n
theorem Kw(f:Nat→Int):Zy f 0=0:=rfl
theorem Yi(f:Nat→Int)(n:Nat):Zy f (n+1)=Zy f n+f n:=rfl
theorem Yu{f g:Nat→Int} : ∀{n:Nat},(∀i,i<n→f i=g i)→Zy f n=Zy g n
 | 0,_=>rfl
 | n+1,h=>by rw [Yi,Yi,Yu (fun i hi=>h i O),h n O]
theorem Fe(f g:Nat→Int):∀n,Zy (fun i=>f i+g i) n=Zy f n+Zy g n
 | 0=>rfl
 | n+1=>by simp only [Yi,Fe f g n];omega
theorem Np(c:Int)(f:Nat→Int):∀n,Zy (fun i=>c*f i) n=c*Zy f n
 | 0=>by simp [Zy]
 | n+1=>by simp only [Yi,Np c f n];grind
theorem Zhm(c:Int)(f:Nat→Int)(n:Nat):Zy (fun i=>f i*c) n=Zy f n*c:=by
 rw [Int.mul_comm,←Np];exact Yu fun i _=>Int.mul_comm _ _
theorem Hb{f:Nat→Int} : ∀{n:Nat},(∀i,i<n→f i=0)→Zy f n=0
 | 0,_=>rfl
 | n+1,h=>by rw [Yi,Hb (fun i hi=>h i O),h n O];rfl
theorem Ng(f:Nat→Int):∀n,Zy f (n+1)=f 0+Zy (fun i=>f (i+1)) n
 | 0=>by simp [Zy]
 | n+1=>by rw [Yi,Ng f n,Yi];omega
theorem Zkj(f:Nat→Int):∀n,Zy f n=Zy (fun i=>f (n-1-i)) n
 | 0=>rfl
 | n+1=>by
  rw [Yi,Ng (fun i=>f (n+1-1-i)),Zkj f n]
  have:Zy (fun i=>f (n-1-i)) n=Zy (fun i=>f (n+1-1-(i+1))) n:=Yu fun i hi=>by congr 1;omega
  rw [this]
  simp only [Nat.add_sub_cancel,Nat.sub_zero];omega
theorem Ze8{f:Nat→Int}{m n:Nat}(hmn:m≤n)(h:∀i,m≤i→i<n→f i=0):Zy f n=Zy f m:=by
 induction n with
 | zero=>simp at hmn;subst hmn;rfl
 | succ n ih=>
  by_cases he:m=n+1
  ·subst he;rfl
  ·rw [Yi,ih O (fun i h1 h2=>h i h1 O),h n O O];omega
theorem Zkh(f:Nat→Nat→Int):∀n,Zy (fun i=>Zy (fun k=>f k (i-k)) (i+1)) n=Zy (fun k=>Zy (fun j=>f k j) (n-k)) n
 | 0=>rfl
 | n+1=>by
  rw [Yi,Zkh f n,Yi (fun k=>Zy (fun j=>f k j) (n+1-k))]
  have h1:Zy (fun k=>Zy (fun j=>f k j) (n+1-k)) n=Zy (fun k=>Zy (fun j=>f k j) (n-k)+f k (n-k)) n:=
   Yu fun k hk=>by rw [show n+1-k=n-k+1 by omega,Yi]
  rw [h1,Fe,Yi (fun k=>f k (n-k)) n]
  rw [show n+1-n=0+1 by omega,Yi,Kw,show n-n=0 by omega]
  omega
structure PS where
 c:Nat→Int
theorem PS.ext'{f g:PS}(h:∀i,f.c i=g.c i):f=g:=by
 cases f;cases g;congr;exact funext h
namespace PS
def conv(f g:PS):PS:=⟨fun i=>Zy (fun k=>f.c k*g.c (i-k)) (i+1)⟩
def C(n:Int):PS:=⟨fun i=>if i=0 then n else 0⟩
def xp(k:Nat):PS:=⟨fun i=>if i=k then 1 else 0⟩
instance:Zero PS:=⟨⟨fun _=>0⟩⟩
instance:One PS:=⟨C 1⟩
instance:Add PS:=⟨fun f g=>⟨fun i=>f.c i+g.c i⟩⟩
instance:Neg PS:=⟨fun f=>⟨fun i=>- f.c i⟩⟩
instance:Sub PS:=⟨fun f g=>⟨fun i=>f.c i-g.c i⟩⟩
instance:Mul PS:=⟨conv⟩
instance:NatCast PS:=⟨fun n=>C n⟩
instance (n:Nat):OfNat PS n:=⟨C n⟩
instance:IntCast PS:=⟨C⟩
instance:SMul Nat PS:=⟨fun n f=>⟨fun i=>(n:Int)*f.c i⟩⟩
instance:SMul Int PS:=⟨fun n f=>⟨fun i=>n*f.c i⟩⟩
def npow(f:PS):Nat→PS
 | 0=>1
 | n+1=>npow f n*f
instance:HPow PS Nat PS:=⟨npow⟩
theorem Ye1(f g:PS)(i:Nat):(f+g).c i=f.c i+g.c i:=rfl
theorem mul_c(f g:PS)(i:Nat):(f*g).c i=Zy (fun k=>f.c k*g.c (i-k)) (i+1):=rfl
theorem one_c(i:Nat):(1:PS).c i=if i=0 then 1 else 0:=rfl
theorem C_c(n:Int)(i:Nat):(C n).c i=if i=0 then n else 0:=rfl
theorem mul_comm'(f g:PS):f*g=g*f:=ext' fun i=>by
 rw [mul_c,mul_c,Zkj]
 exact Yu fun k hk=>by
  simp only [Nat.add_sub_cancel]
  rw [show i-(i-k)=k by omega,Int.mul_comm]
theorem C_mul(n:Int)(f:PS):C n*f=⟨fun i=>n*f.c i⟩:=ext' fun i=>by
 rw [mul_c,Ng]
 rw [Hb (f:=fun k=>(C n).c (k+1)*f.c (i-(k+1))) (fun k hk=>by simp [C_c])]
 simp [C_c]
theorem C_mul_c(n:Int)(f:PS)(i:Nat):(C n*f).c i=n*f.c i:=by rw [C_mul]
theorem Ybp(f:PS):1*f=f:=ext' fun i=>by
 show(C 1*f).c i=f.c i
 rw [C_mul_c,Int.one_mul]
theorem mul_assoc'(f g h:PS):f*g*h=f*(g*h):=ext' fun i=>by
 rw [mul_c,mul_c]
 have h1:Zy (fun k=>(f*g).c k*h.c (i-k)) (i+1)=Zy (fun k=>Zy (fun j=>f.c j*g.c (k-j)*h.c (i-(j+(k-j)))) (k+1)) (i+1):=
  Yu fun k hk=>by
   rw [mul_c,←Zhm]
   exact Yu fun j hj=>by rw [show j+(k-j)=k by omega]
 rw [h1,Zkh (fun j m=>f.c j*g.c m*h.c (i-(j+m)))]
 refine Yu fun j hj=>?_
 rw [mul_c,←Np,show i+1-j=i-j+1 by omega]
 exact Yu fun m hm=>by rw [Int.mul_assoc,show i-(j+m)=i-j-m by omega]
theorem Zyy(f g:PS):f+g=g+f:=ext' fun i=>by rw [Ye1,Ye1,Int.add_comm]
theorem Ztx(f g h:PS):f+g+h=f+(g+h):=ext' fun i=>by simp only [Ye1];omega
theorem mul_one'(f:PS):f*1=f:=by rw [mul_comm',Ybp]
instance:Std.Commutative (α:=PS) (· + ·):=⟨Zyy⟩
instance:Std.Associative (α:=PS) (· + ·):=⟨Ztx⟩
instance:Std.Commutative (α:=PS) (· * ·):=⟨mul_comm'⟩
instance:Std.Associative (α:=PS) (· * ·):=⟨mul_assoc'⟩
end PS
def tzl(xs:List Int):List Int:=(xs.reverse.dropWhile (· == 0)).reverse
def cf(p:List Int)(i:Nat):Int:=p.getD i 0
def mk(n:Nat)(f:Nat→Int):List Int:=(List.range n).map f
def ps(p:List Int):PS:=⟨cf p⟩
def Tr(p:List Int):Prop:=p=[]∨cf p (p.length-1)≠0
theorem Oj(p:List Int)(i:Nat):(ps p).c i=cf p i:=rfl
theorem Yl{p:List Int}{i:Nat}(h:p.length≤i):cf p i=0:=by simp [cf,List.getD,List.getElem?_eq_none h]
theorem Zba{p:List Int}{i:Nat}(h:i<p.length):cf p i=p[i]:=by simp [cf,List.getD,h]
theorem Yq(n:Nat)(f:Nat→Int):(mk n f).length=n:=by simp [mk]
theorem Mh(n:Nat)(f:Nat→Int)(i:Nat):cf (mk n f) i=if i<n then f i else 0:=by
 by_cases h:i<n
 ·rw [if_pos h,Zba (by rw [Yq];exact h)];simp [mk]
 ·rw [if_neg h,Yl (by rw [Yq];omega)]
theorem Lv{p q:List Int}(hl:p.length=q.length)(h:∀i,i<p.length→cf p i=cf q i):p=q:=by
 apply List.ext_getElem hl
 intro i h1 h2
 have:=h i h1
 rwa [Zba h1,Zba h2]at this
theorem Zbw(p:List Int):mk p.length (cf p)=p:=Lv (Yq _ _) fun i h=>by rw [Mh,Yq]at *;rw [if_pos h]
theorem Ix{n:Nat}{f g:Nat→Int}(h:∀i,i<n→f i=g i):mk n f=mk n g:=Lv (by rw [Yq,Yq]) fun i hi=>by
 rw [Yq]at hi;rw [Mh,Mh,if_pos hi,if_pos hi,h i hi]
theorem Zb4(p q:List Int)(i:Nat):cf (p ++ q) i=if i<p.length then cf p i else cf q (i-p.length):=by
 by_cases h:i<p.length
 ·rw [if_pos h];simp [cf,List.getD,List.getElem?_append_left h]
 ·rw [if_neg h];simp only [cf,List.getD];rw [List.getElem?_append_right O]
theorem Cm(n:Nat)(f:Nat→Int):mk (n+1) f=mk n f ++ [f n]:=by simp [mk,List.range_succ]
theorem Zji(p:List Int)(k:Nat)(x:Int)(i:Nat)(h:k<p.length):cf (p.set k x) i=if i=k then x else cf p i:=by
 by_cases hi:i=k
 ·subst hi;rw [if_pos rfl];simp [cf,List.getD,h]
 ·rw [if_neg hi];simp only [cf,List.getD];rw [List.getElem?_set_ne (Ne.symm hi)]
theorem Gr(p:List Int)(k i:Nat):cf (p.take k) i=if i<k then cf p i else 0:=by
 by_cases hi:i<k
 ·rw [if_pos hi];simp [cf,List.getD,List.getElem?_take,hi]
 ·rw [if_neg hi,Yl];rw [List.length_take];omega
theorem Za9(p:List Int)(f:Int→Int)(h0:f 0=0)(i:Nat):cf (p.map f) i=f (cf p i):=by
 by_cases hi:i<p.length
 ·rw [Zba (by simpa using hi),Zba hi];simp
 ·rw [Yl (by simpa using hi),Yl O,h0]
theorem Cx(xs:List Int):tzl (xs ++ [0])=tzl xs:=by simp [tzl]
theorem Es(xs:List Int)(x:Int)(h:x≠0):tzl (xs ++ [x])=xs ++ [x]:=by simp [tzl,h]
theorem Zgq{α:Type}(xs:List α):xs=[]∨∃ys y,xs=ys ++ [y]:=by
 rcases List.eq_nil_or_concat xs with h | ⟨ys,y,h⟩
 ·exact .inl h
 ·exact .inr ⟨ys,y,by simpa using h⟩
theorem Zlk{C:List Int→Prop}(h0:C [])(h1:∀xs,C xs→C (xs ++ [0]))(h2:∀xs x,x≠0→C (xs ++ [x]))(p:List Int):C p:=by
 have key:∀n (p:List Int),p.length=n→C p:=by
  intro n
  induction n with
  | zero=>intro p hp;rw [List.eq_nil_of_length_eq_zero hp];exact h0
  | succ n ih=>
   intro p hp
   rcases Zgq p with rfl | ⟨ys,y,rfl⟩
   ·exact h0
   ·by_cases hy:y=0
    ·subst hy;exact h1 _ (ih ys (by simpa using hp))
    ·exact h2 _ _ hy
 exact key _ p rfl
theorem Ko(p:List Int):(tzl p).length≤p.length:=by
 refine Zlk (C:=fun p=>(tzl p).length≤p.length) (Nat.le_refl _) (fun xs h=>?_) (fun xs x hx=>?_) p
 ·rw [Cx];simp;omega
 ·rw [Es _ _ hx];exact Nat.le_refl _
theorem Lj(p:List Int)(i:Nat):cf (tzl p) i=cf p i:=by
 refine Zlk (C:=fun p=>cf (tzl p) i=cf p i) rfl (fun xs h=>?_) (fun xs x hx=>?_) p
 ·rw [Cx,h,Zb4]
  split
  ·rfl
  ·rw [Yl O]
   by_cases h0:i-xs.length=0
   ·rw [h0];rfl
   ·rw [Yl O8]
 ·rw [Es _ _ hx]
theorem Tr.nil:Tr []:= .inl rfl
theorem Xp(p:List Int):Tr (tzl p):=by
 refine Zlk (C:=fun p=>Tr (tzl p)) Tr.nil (fun xs h=>?_) (fun xs x hx=>?_) p
 ·rw [Cx];exact h
 ·rw [Es _ _ hx];refine .inr ?_
  rw [Zb4];simp [cf];exact hx
theorem Ai{p:List Int}(h:Tr p):tzl p=p:=by
 rcases Zgq p with rfl | ⟨ys,y,rfl⟩
 ·rfl
 ·rcases h with h | h
  ·simp at h
  ·refine Es _ _ fun hy=>h ?_
   subst hy
   rw [Zb4];simp [cf]
theorem Tr.ext{p q:List Int}(hp:Tr p)(hq:Tr q)(h:∀i,cf p i=cf q i):p=q:=by
 have key:∀{p q:List Int},Tr p→(∀i,cf p i=cf q i)→p.length≤q.length:=fun {p q} hp h=>by
  rcases hp with rfl | hp
  ·exact Nat.zero_le _
  ·rw [h]at hp
   rcases Nat.lt_or_ge (p.length-1) q.length with h1 | h1
   ·omega
   ·exact absurd (Yl h1) hp
 exact Lv (Nat.le_antisymm (key hp h) (key hq fun i=>(h i).symm)) fun i _=>h i
theorem Yfn{p q:List Int}(h:∀i,cf p i=cf q i):tzl p=tzl q:=(Xp p).ext (Xp q) fun i=>by rw [Lj,Lj,h]
theorem Aj{p:List Int}{n:Nat}(h:∀i,n≤i→cf p i=0):(tzl p).length≤n:=by
 rcases Xp p with h1 | h1
 ·rw [h1];exact Nat.zero_le _
 ·rw [Lj]at h1
  rcases Nat.lt_or_ge ((tzl p).length-1) n with h2 | h2
  ·omega
  ·exact absurd (h _ h2) h1
theorem Mu(p:List Int):tzl p=[]↔∀i,cf p i=0:=
 ⟨fun h i=>by rw [←Lj,h];rfl,fun h=>List.eq_nil_of_length_eq_zero (Nat.le_zero.1 (Aj fun i _=>h i))⟩
theorem Tr.mem{p:List Int}(h:Tr p)(hp:p≠[]):cf p (p.length-1)≠0:=by
 rcases h with h | h
 ·exact absurd h hp
 ·exact h
theorem Zoh{xs:List Int}{k:Nat}(hk:k≤xs.length)(h0:0<k)(h:cf xs (k-1)=0):tzl (xs.take k)=tzl (xs.take (k-1)):=Yfn fun i=>by
 rw [Gr,Gr]
 by_cases hi:i=k-1
 ·subst hi;rw [if_pos O,if_neg O,h]
 ·by_cases h2:i<k
  ·rw [if_pos h2,if_pos O]
  ·rw [if_neg h2,if_neg O]
theorem Zdh{xs:List Int}{k:Nat}(hk:k≤xs.length)(h:k=0∨cf xs (k-1)≠0):tzl (xs.take k)=xs.take k:=by
 refine Ai ?_
 rcases h with rfl | h
 ·simp [Tr]
 ·rcases Nat.eq_zero_or_pos k with rfl | h0
  ·simp [Tr]
  ·refine .inr ?_
   rw [List.length_take,Nat.min_eq_left hk,Gr,if_pos O];exact h
def Ei(p q:List Int):List Int:=tzl (mk (max p.length q.length) fun i=>cf p i+cf q i)
def Bb(p q:List Int):List Int:=tzl (mk (max p.length q.length) fun i=>cf p i-cf q i)
def Zm(p:List Int)(c:Int):List Int:=tzl (p.map (· * c))
def Xs(p q:List Int):List Int:=tzl (mk (p.length+q.length-1) fun i=>(ps p*ps q).c i)
def Yx(p:List Int):List Int:=mk (p.length-1) fun i=>cf p (i+1)*((i:Int)+1)
def pev(p:List Int)(n d:Int):Int:=Zy (fun i=>cf p i*(n^i*d^(p.length-1-i))) p.length
def Ym(p:List Int):Int:=p.foldl (fun g c=>(Int.gcd g c:Int)) 0
def Zt(p:List Int):List Int:=p.map (· / Ym p)
theorem Cu(p q:List Int)(i:Nat):cf (Ei p q) i=cf p i+cf q i:=by
 unfold Ei
 rw [Lj,Mh]
 split
 ·rfl
 ·rw [Yl,Yl]<;>omega
theorem Dd(p q:List Int)(i:Nat):cf (Bb p q) i=cf p i-cf q i:=by
 unfold Bb
 rw [Lj,Mh]
 split
 ·rfl
 ·rw [Yl,Yl]<;>omega
theorem Yr(p:List Int)(c:Int)(i:Nat):cf (Zm p c) i=cf p i*c:=by
 unfold Zm
 rw [Lj,Za9 _ _ O7]
theorem Kq(p q:List Int)(i:Nat):cf (Xs p q) i=(ps p*ps q).c i:=by
 unfold Xs
 rw [Lj,Mh]
 split
 ·rfl
 ·rw [PS.mul_c,Hb]
  intro k hk
  rcases Nat.lt_or_ge k p.length with h | h
  ·rw [Oj,Oj,Yl (p:=q) O,Int.mul_zero]
  ·rw [Oj,Yl h,Int.zero_mul]
theorem Yfp(p q:List Int):Tr (Ei p q):=Xp _
theorem Zdj(p q:List Int):Tr (Bb p q):=Xp _
theorem Xq(p:List Int)(c:Int):Tr (Zm p c):=Xp _
theorem Xo(p q:List Int):Tr (Xs p q):=Xp _
theorem Ygo(p q:List Int):Bb p q=Ei p (Zm q (-1)):=(Zdj p q).ext (Yfp p _) fun i=>by
 rw [Cu,Yr,Dd];omega
theorem Di(p q:List Int):Xs p q=Xs q p:=(Xo p q).ext (Xo q p) fun i=>by rw [Kq,Kq,PS.mul_comm']
theorem Zl7(p q:List Int):ps (Xs p q)=ps p*ps q:=PS.ext' fun i=>Kq p q i
theorem Zkx(p:List Int)(c:Int):ps (Zm p c)=PS.C c*ps p:=PS.ext' fun i=>by rw [PS.C_mul_c,Int.mul_comm];exact Yr p c i
theorem Tr.ps_inj{p q:List Int}(hp:Tr p)(hq:Tr q)(h:ps p=ps q):p=q:=hp.ext hq fun i=>by rw [←Oj,h,Oj]
def tz(xs:List Nat):List Nat:=(xs.reverse.dropWhile (· == 0)).reverse
theorem Mv(xs:List Nat):tz (xs ++ [0])=tz xs:=by simp [tz]
theorem Kv(xs:List Nat)(x:Nat)(h:x≠0):tz (xs ++ [x])=xs ++ [x]:=by simp [tz,h]
theorem Po{α:Type}(d:α)(xs:List α)(k:Nat)(h:k<xs.length):xs.take (k+1)=xs.take k ++ [xs.getD k d]:=by
 rw [List.take_succ_eq_append_getElem h];simp [List.getD,h]
theorem Zbz{α:Type}(xs:List α)(k i:Nat)(d:α)(h:i<k):(xs.take k).getD i d=xs.getD i d:=by
 simp [List.getD,h]
theorem Zt2{xs:List Nat}{k:Nat}(hk:k≤xs.length)(h0:0<k)(h:(xs.take k).getD (k-1) 0=0):tz (xs.take k)=tz (xs.take (k-1)):=by
 rw [Zbz xs k (k-1) 0 O]at h
 have:=Po 0 xs (k-1) O
 rw [show k-1+1=k by omega]at this
 rw [this,h,Mv]
theorem Zdi{xs:List Nat}{k:Nat}(hk:k≤xs.length)(h:k=0∨(xs.take k).getD (k-1) 0≠0):tz (xs.take k)=xs.take k:=by
 rcases Nat.eq_zero_or_pos k with rfl | h0
 ·rfl
 ·have h:=h.resolve_left O
  rw [Zbz xs k (k-1) 0 O]at h
  have:=Po 0 xs (k-1) O
  rw [show k-1+1=k by omega]at this
  rw [this,Kv _ _ h]
theorem tz_eq{xs:List Nat}(h:xs=[]∨xs.getD (xs.length-1) 0≠0):tz xs=xs:=by
 have:=Zdi (xs:=xs) (k:=xs.length) (Nat.le_refl _) (by
  rcases h with rfl | h
  ·exact .inl rfl
  ·right;rwa [List.take_length])
 rwa [List.take_length]at this
def Ye(b:Nat):List Nat→Nat
 | []=>0
 | d :: r=>d+b*Ye b r
def dgf(b:Nat):Nat→Nat→List Nat
 | 0,_=>[]
 | f+1,n=>if n=0 then []else n%b :: dgf b f (n/b)
def dg(b n:Nat):List Nat:=dgf b n n
theorem Zqo{b:Nat}(hb:2≤b):∀(f f' n:Nat),n≤f→n≤f'→dgf b f n=dgf b f' n
 | 0,0,_,_,_=>rfl
 | 0,f'+1,n,h,_=>by
   have:n=0:=O
   subst this;simp [dgf]
 | f+1,0,n,_,h=>by
   have:n=0:=O
   subst this;simp [dgf]
 | f+1,f'+1,n,h,h'=>by
  unfold dgf
  by_cases hn:n=0
  ·simp [hn]
  ·have:n/b<n:=Nat.div_lt_self O O
   rw [if_neg hn,if_neg hn,Zqo hb f f' (n/b) O O]
theorem Iq(b:Nat):dg b 0=[]:=rfl
theorem Ay{b n:Nat}(hb:2≤b)(hn:0<n):dg b n=n%b :: dg b (n/b):=by
 unfold dg
 obtain⟨m,rfl⟩:∃m,n=m+1:=⟨n-1,O⟩
 conv=>lhs;unfold dgf
 rw [if_neg O]
 have:(m+1)/b<m+1:=Nat.div_lt_self O O
 rw [Zqo hb m ((m+1)/b) ((m+1)/b) O (Nat.le_refl _)]
theorem Nd{b:Nat}(hb:2≤b)(n:Nat):Ye b (dg b n)=n:=by
 induction n using Nat.strongRecOn with
 | _ n ih=>
  rcases Nat.eq_zero_or_pos n with rfl | h
  ·rfl
  ·rw [Ay hb h,Ye,ih _ (Nat.div_lt_self h O)]
   have:=Nat.mod_add_div n b
   omega
theorem Ok{b:Nat}(hb:2≤b)(n:Nat):∀d∈dg b n,d<b:=by
 induction n using Nat.strongRecOn with
 | _ n ih=>
  rcases Nat.eq_zero_or_pos n with rfl | h
  ·intro d hd;cases hd
  ·rw [Ay hb h]
   intro d hd
   rcases List.mem_cons.1 hd with rfl | hd
   ·exact Nat.mod_lt _ O
   ·exact ih _ (Nat.div_lt_self h O) d hd
theorem Ou(b:Nat)(xs ys:List Nat):Ye b (xs ++ ys)=Ye b xs+b^xs.length*Ye b ys:=by
 induction xs with
 | nil=>simp [Ye]
 | cons x r ih=>simp only [List.cons_append,Ye,ih,List.length_cons,Nat.pow_succ,Nat.mul_add];rw [Nat.mul_comm (b^r.length) b,Nat.mul_assoc];omega
theorem Ze0{b:Nat}(hb:0<b):∀(xs:List Nat),(∀d∈xs,d<b)→Ye b xs<b^xs.length
 | [],_=>by simp [Ye]
 | x :: r,h=>by
  have h1:=Ze0 hb r (fun d hd=>h d (List.mem_cons_of_mem _ hd))
  have h2:=h x (List.mem_cons_self ..)
  simp only [Ye,List.length_cons,Nat.pow_succ]
  have h3:b*(Ye b r+1)≤b*b^r.length:=Nat.mul_le_mul_left b h1
  rw [Nat.mul_comm (b^r.length) b]
  rw [Nat.mul_add]at h3
  omega
theorem Iv(b n:Nat):Ye b (List.replicate n 0)=0:=by
 induction n with
 | zero=>rfl
 | succ n ih=>simp [List.replicate_succ,Ye,ih]
theorem Xr(b:Nat)(xs:List Nat)(k:Nat):Ye b (xs.take (k+1))=Ye b (xs.take k)+xs.getD k 0*b^k:=by
 by_cases h:k<xs.length
 ·rw [Po 0 xs k h,Ou,Ye,Ye,List.length_take,Nat.min_eq_left O,Nat.mul_comm (b^k)];simp
 ·rw [List.take_of_length_le O,List.take_of_length_le O]
  have:xs.getD k 0=0:=by simp [List.getD,List.getElem?_eq_none (by omega:xs.length≤k)]
  rw [this];omega
theorem Na(b:Nat)(xs:List Nat)(k:Nat)(h:xs.length≤k):Ye b (xs.take k)=Ye b xs:=by rw [List.take_of_length_le h]
theorem Xh{b:Nat}(hb:0<b){xs:List Nat}(h:∀d∈xs,d<b)(k:Nat):xs.getD k 0<b:=by
 by_cases hk:k<xs.length
 ·have:xs.getD k 0=xs[k]:=by simp [List.getD,hk]
  rw [this];exact h _ (List.getElem_mem hk)
 ·have:xs.getD k 0=0:=by simp [List.getD,List.getElem?_eq_none (by omega:xs.length≤k)]
  omega
theorem Zjx{α:Type}(o:List α)(k:Nat)(d:α)(h:k<o.length):(o.set k d).take (k+1)=o.take k ++ [d]:=by
 have h':k<(o.set k d).length:=by simpa using h
 rw [Po d _ _ h']
 congr 1
 ·apply List.ext_getElem?;intro i
  rw [List.getElem?_take,List.getElem?_take]
  split
  ·rw [List.getElem?_set_ne O]
  ·rfl
 ·simp [List.getD,h]
theorem Zjy{α:Type}(o:List α)(k:Nat)(d:α):(o.set k d).take k=o.take k:=by
 apply List.ext_getElem?;intro i
 rw [List.getElem?_take,List.getElem?_take]
 split
 ·rw [List.getElem?_set_ne O]
 ·rfl
theorem Er(b:Nat)(o:List Nat)(k d:Nat)(h:k<o.length):Ye b ((o.set k d).take (k+1))=Ye b (o.take k)+d*b^k:=by
 rw [Zjx o k d h,Ou,Ye,Ye,List.length_take,Nat.min_eq_left O,Nat.mul_comm (b^k)];simp
theorem Mr{p:Nat→Prop}{o:List Nat}(h:∀d∈o,p d)(k d:Nat)(hd:p d):∀x∈o.set k d,p x:=by
 intro x hx
 rcases List.mem_or_eq_of_mem_set hx with h1 | h1
 ·exact h x h1
 ·rw [h1];exact hd
theorem Ob{p:Nat→Prop}(n:Nat)(h:p 0):∀d∈List.replicate n 0,p d:=by
 intro d hd;rw [(List.mem_replicate.1 hd).2];exact h
theorem Ak{α:Type}(xs:List α):xs=[]∨∃ys y,xs=ys ++ [y]:=by
 rcases List.eq_nil_or_concat xs with h | ⟨ys,y,h⟩
 ·exact .inl h
 ·exact .inr ⟨ys,y,by simpa using h⟩
theorem Ly{b:Nat}(hb:2≤b):∀(xs:List Nat),(∀d∈xs,d<b)→dg b (Ye b xs)=tz xs
 | [],_=>rfl
 | x :: r,h=>by
  have ih:=Ly hb r (fun d hd=>h d (List.mem_cons_of_mem _ hd))
  have hx:=h x (List.mem_cons_self ..)
  have hmod:(x+b*Ye b r)%b=x:=by rw [Nat.add_mul_mod_self_left,Nat.mod_eq_of_lt hx]
  have hdiv:(x+b*Ye b r)/b=Ye b r:=by rw [Nat.add_mul_div_left _ _ O,Nat.div_eq_of_lt hx];omega
  rcases Nat.eq_zero_or_pos (x+b*Ye b r)with h0 | h0
  ·have hx0:x=0:=O
   have hv0:Ye b r=0:=by
    rcases Nat.eq_zero_or_pos (Ye b r)with h1 | h1
    ·exact h1
    ·have:=Nat.mul_pos (by omega:0<b) h1;omega
   rw [hv0,Iq]at ih
   simp only [Ye,h0,Iq]
   subst hx0
   rcases Ak r with rfl | ⟨ys,y,rfl⟩
   ·rfl
   ·by_cases hy:y=0
    ·subst hy
     rw [Mv]at ih
     rw [show(0 :: (ys ++ [0]))=(0 :: ys) ++ [0]from rfl,Mv]
     have hrev:(ys.reverse.dropWhile (· == 0))=[]:=by
      have:=congrArg List.reverse ih.symm
      simpa [tz]using this
     unfold tz
     rw [List.reverse_cons,List.dropWhile_append,hrev]
     simp
    ·rw [Kv _ _ hy]at ih;simp at ih
  ·have:=Ay hb h0
   simp only [Ye]
   rw [this,hmod,hdiv,ih]
   rcases Ak r with rfl | ⟨ys,y,rfl⟩
   ·have:x≠0:=by simp [Ye]at h0;omega
    simp [tz,this]
   ·by_cases hy:y=0
    ·subst hy
     rw [Mv,show(x :: (ys ++ [0]))=(x :: ys) ++ [0]from rfl,Mv]
     have key:∀ys:List Nat,0<x+b*Ye b ys→x :: tz ys=tz (x :: ys):=by
      intro ys
      induction hn:ys.length using Nat.strongRecOn generalizing ys with
      | _ n ih2=>
       intro hpos
       rcases Ak ys with rfl | ⟨zs,z,rfl⟩
       ·have:x≠0:=by simp [Ye]at hpos;omega
        simp [tz,this]
       ·by_cases hz:z=0
        ·subst hz
         rw [Mv,show(x :: (zs ++ [0]))=(x :: zs) ++ [0]from rfl,Mv]
         refine ih2 zs.length (by simp at hn;omega) zs rfl ?_
         rw [Ou]at hpos;simpa [Ye]using hpos
        ·rw [Kv _ _ hz,show(x :: (zs ++ [z]))=(x :: zs) ++ [z]from rfl,Kv _ _ hz]
     refine key ys ?_
     rw [Ou]at h0;simpa [Ye]using h0
    ·rw [Kv _ _ hy,show(x :: (ys ++ [y]))=(x :: ys) ++ [y]from rfl,Kv _ _ hy]
theorem Zfn{b:Nat}(hb:2≤b){m n:Nat} : dg b m=dg b n↔m=n:=⟨fun h=>by rw [←Nd hb m,h,Nd hb],fun h=>by rw [h]⟩
theorem Ir{b:Nat}(hb:2≤b):∀(i n:Nat),(dg b n).getD i 0=n/b^i%b
 | 0,n=>by
  rcases Nat.eq_zero_or_pos n with rfl | h
  ·simp [Iq]
  ·rw [Ay hb h];simp
 | i+1,n=>by
  rcases Nat.eq_zero_or_pos n with rfl | h
  ·simp [Iq]
  ·rw [Ay hb h]
   have ih:=Ir hb i (n/b)
   simp only [List.getD_cons_succ]
   rw [ih,Nat.div_div_eq_div_mul,Nat.pow_succ,Nat.mul_comm b]
theorem Xj{b:Nat}(hb:2≤b):∀(k n:Nat),(dg b n).length≤k↔n<b^k
 | 0,n=>by
  rcases Nat.eq_zero_or_pos n with rfl | h
  ·simp [Iq]
  ·rw [Ay hb h];simp;omega
 | k+1,n=>by
  rcases Nat.eq_zero_or_pos n with rfl | h
  ·simp [Iq,Nat.pow_pos (by omega:0<b)]
  ·rw [Ay hb h]
   simp only [List.length_cons,Nat.add_le_add_iff_right]
   rw [Xj hb k (n/b),Nat.pow_succ,Nat.div_lt_iff_lt_mul O]
theorem Oh{b:Nat}(hb:2≤b)(k n:Nat):k<(dg b n).length↔b^k≤n:=by
 have:=Xj hb k n;omega
theorem dg_top{b n:Nat}(hb:2≤b)(hn:0<n):(dg b n).getD ((dg b n).length-1) 0≠0:=by
 have hpos:0<(dg b n).length:=by rw [Oh hb,Nat.pow_zero];omega
 have h1:b^((dg b n).length-1)≤n:=(Oh hb _ n).1 O
 have h2:n<b^(dg b n).length:=(Xj hb _ n).1 (Nat.le_refl _)
 rw [Ir hb]
 rw [show(dg b n).length=(dg b n).length-1+1 by omega,Nat.pow_succ]at h2
 have h3:n/b^((dg b n).length-1)<b:=by rw [Nat.div_lt_iff_lt_mul (Nat.pow_pos O),Nat.mul_comm];exact h2
 have h4:0<n/b^((dg b n).length-1):=Nat.div_pos h1 (Nat.pow_pos O)
 rw [Nat.mod_eq_of_lt h3];omega
theorem Pe{b:Nat}(hb:2≤b)(n:Nat):(dg b n).length=0↔n=0:=by
 have:=Xj hb 0 n;rw [Nat.pow_zero]at this;omega
theorem Zro{b:Nat}(hb:2≤b){o:List Nat}{x:Nat}(h:∀i,i<o.length→o.getD i 0=x/b^i%b)(hx:x<b^o.length):tz o=dg b x:=by
 have hlt:∀d∈o,d<b:=fun d hd=>by
  obtain⟨i,hi,rfl⟩:=List.getElem_of_mem hd
  have:=h i hi
  rw [show o.getD i 0=o[i] by simp [List.getD,hi]]at this
  rw [this];exact Nat.mod_lt _ O
 rw [←Ly hb o hlt]
 congr 1
 have key:∀k,k≤o.length→Ye b (o.take k)=x%b^k:=by
  intro k
  induction k with
  | zero=>intro _;simp [Ye,Nat.mod_one]
  | succ k ih=>
   intro hk
   rw [Xr,ih O,h k O,Nat.pow_succ,Nat.mod_mul,Nat.mul_comm]
 have:=key o.length (Nat.le_refl _)
 rw [List.take_length]at this
 rw [this,Nat.mod_eq_of_lt hx]
def bl(n:Nat):Nat:=(dg 2 n).length
theorem Xw(k n:Nat):bl n≤k↔n<2^k:=Xj O k n
theorem Zae(k n:Nat):k<bl n↔2^k≤n:=Oh O k n
theorem Lo:bl 0=0:=rfl
theorem Znx{n:Nat}(h:0<n):2^(bl n-1)≤n∧0<bl n:=by
 have h0:0<bl n:=(Zae 0 n).2 (by rw [Nat.pow_zero];omega)
 exact⟨(Zae _ n).1 O,h0⟩
theorem Fx(n:Nat):n<2^bl n:=(Xw _ n).1 (Nat.le_refl _)
theorem bl_eq{n k:Nat}(h1:n<2^k)(h2:k=0∨2^(k-1)≤n):bl n=k:=by
 have:=(Xw k n).2 h1
 rcases h2 with rfl | h2
 ·omega
 ·have:=(Zae (k-1) n).2 h2;omega
theorem Ztp(n k:Nat)(h:0<n):bl (n*2^k)=bl n+k:=by
 have hp:=Znx h
 refine bl_eq ?_ (.inr ?_)
 ·rw [Nat.pow_add];exact(Nat.mul_lt_mul_right (Nat.pow_pos O)).2 (Fx n)
 ·rw [show bl n+k-1=(bl n-1)+k by omega,Nat.pow_add];exact Nat.mul_le_mul_right _ hp.1
theorem Ij(n k:Nat):bl (n/2^k)=bl n-k:=by
 by_cases h:bl n≤k
 ·have:=(Xw k n).1 h
  rw [Nat.div_eq_of_lt this,Lo];omega
 ·have h1:2^k≤n:=(Zae k n).1 O
  have hn:0<n:=Nat.lt_of_lt_of_le (Nat.pow_pos O) h1
  have hp:=Znx hn
  refine bl_eq ?_ (.inr ?_)
  ·rw [Nat.div_lt_iff_lt_mul (Nat.pow_pos O),←Nat.pow_add,show bl n-k+k=bl n by omega];exact Fx n
  ·rw [Nat.le_div_iff_mul_le (Nat.pow_pos O),←Nat.pow_add,show bl n-k-1+k=bl n-1 by omega];exact hp.1
theorem Pn{m n:Nat}(h:m≤n):bl m≤bl n:=(Xw _ m).2 (Nat.lt_of_le_of_lt h (Fx n))
end Go.Sky
namespace Go.Sky
open Go.RowKit (Below)
abbrev Qw:=List (Nat×Value)
def lk{α:Type} : List (Nat×α)→Nat→Option α
  | [],_=>none
  | (k,v) :: r,n=>cond (Nat.beq k n) (some v) (lk r n)
def ev(e:Qw):Operand→Option Value
  | .tmp t=>lk e t
  | .const v=>some v
  | .global g=>some (.pointer (some ⟨g,0,none⟩))
  | .func f=>some (.func (.func f) #[] #[])
structure Chg (M:Nat→Prop) (w w':World):Prop where
  os:w'.os=w.os
  tape:w'.tape=w.tape
  output:w'.output=w.output
  size:w.heap.size≤w'.heap.size
  block:∀k,k<w.heap.size→¬M k→w'.heap[k]? = w.heap[k]?
theorem Chg.refl(M:Nat→Prop)(w:World):Chg M w w:=⟨rfl,rfl,rfl,Nat.le_refl _,fun _ _ _=>rfl⟩
theorem Chg.trans{M:Nat→Prop}{a b c:World}(h:Chg M a b)(k:Chg M b c):Chg M a c:=
  ⟨k.os.trans h.os,k.tape.trans h.tape,k.output.trans h.output,Nat.le_trans h.size k.size,fun i hi hm=>(k.block i (Nat.lt_of_lt_of_le hi h.size) hm).trans (h.block i hi hm)⟩
theorem Chg.of_below{M:Nat→Prop}{w w':World}(h:Below w.heap.size w w'):Chg M w w':=⟨h.os,h.tape,h.output,h.size,fun k hk _=>h.block k hk⟩
structure Pc where
  own:Bool
  fp:Nat→Prop
  holds:World→Prop
  lt:∀w b,holds w→fp b→b<w.heap.size
  stable:∀w w',holds w→Chg (fun b=>¬fp b) w w'→holds w'
abbrev Hp:=List (Nat×Pc)
structure Sat (N:Nat) (sc:Nat→Prop) (env:Qw) (H:Hp) (a:Act) (w:World):Prop where
  size:a.tmps.size=N
  defers:a.defers=[]
  env:∀t v,lk env t=some v→a.tmps.getD t undef=v
  hold:∀i it,lk H i=some it→it.holds w
  sep:∀i j it jt,i≠j→lk H i=some it→lk H j=some jt→it.own=true→∀b,it.fp b→jt.fp b→False
  scope:∀i it,i≠0→lk H i=some it→∀b,it.fp b→sc b
variable {P:Program} {N:Nat} {sc:Nat→Prop} {env env':Qw} {H H':Hp} {Q Q':Exit→Act→World→Prop}
def E(P:Program)(N:Nat)(sc:Nat→Prop)(c:Code)(Q:Exit→Act→World→Prop)(env:Qw)(H:Hp):Prop:=
  ∀a w,Sat N sc env H a w→c.wp P Q a w
def L(P:Program)(N:Nat)(sc:Nat→Prop)(ops:Array Oper)(rest:List Oper)(Q:Exit→Act→World→Prop)(env:Qw)(H:Hp):Prop:=
  ∀a w,Sat N sc env H a w→wpList P ops Q rest a w
def X(N:Nat)(sc:Nat→Prop)(e:Exit)(Q:Exit→Act→World→Prop)(env:Qw)(H:Hp):Prop:=
  ∀a w,Sat N sc env H a w→Q e a w
def Sub:Qw→Qw→Prop
  | [],_=>True
  | (t,v) :: r,e=>lk e t=some v∧Sub r e
def HSub:Hp→Hp→Prop
  | [],_=>True
  | (t,v) :: r,e=>lk e t=some v∧HSub r e
theorem Sub.lk:∀{e' e:Qw},Sub e' e→∀t v,lk e' t=some v→lk e t=some v
  | [],_,_,_,_,h=>by cases h
  | (k,u) :: r,e,h,t,v,hl=>by
    unfold Sky.lk at hl
    cases hb:Nat.beq k t with
    | true=>
      rw [hb]at hl
      have:=Nat.eq_of_beq_eq_true hb
      subst this
      simp only [cond_true]at hl
      cases hl
      exact h.1
    | false=>
      rw [hb]at hl
      exact Sub.lk h.2 t v hl
theorem HSub.lk:∀{e' e:Hp},HSub e' e→∀t v,lk e' t=some v→lk e t=some v
  | [],_,_,_,_,h=>by cases h
  | (k,u) :: r,e,h,t,v,hl=>by
    unfold Sky.lk at hl
    cases hb:Nat.beq k t with
    | true=>
      rw [hb]at hl
      have:=Nat.eq_of_beq_eq_true hb
      subst this
      simp only [cond_true]at hl
      cases hl
      exact h.1
    | false=>
      rw [hb]at hl
      exact HSub.lk h.2 t v hl
theorem Sat.weaken{a:Act}{w:World}(h:Sat N sc env H a w)(hs:Sub env' env)(hh:HSub H' H):Sat N sc env' H' a w:=
  ⟨h.size,h.defers,fun t v ht=>h.env t v (hs.lk t v ht),fun i it hi=>h.hold i it (hh.lk i it hi),
   fun i j it jt hne hi hj=>h.sep i j it jt hne (hh.lk i it hi) (hh.lk j jt hj),fun i it hi0 hi=>h.scope i it hi0 (hh.lk i it hi)⟩
theorem E.weaken{c:Code}(h:E P N sc c Q env' H')(hs:Sub env' env)(hh:HSub H' H):E P N sc c Q env H:=
  fun a w hs'=>h a w (hs'.weaken hs hh)
theorem X.weaken{e:Exit}(h:X N sc e Q env' H')(hs:Sub env' env)(hh:HSub H' H):X N sc e Q env H:=
  fun a w hs'=>h a w (hs'.weaken hs hh)
theorem Yb{α:Type}(k:Nat)(v:α)(r:List (Nat×α)):lk ((k,v) :: r) k=some v:=by
  simp [lk]
theorem Zl{α:Type}{k n:Nat}(v:α)(r:List (Nat×α))(h:k≠n):lk ((k,v) :: r) n=lk r n:=by
  have:Nat.beq k n=false:=by
    cases hb:Nat.beq k n with
    | false=>rfl
    | true=>exact absurd (Nat.eq_of_beq_eq_true hb) h
  simp [lk,this]
theorem Sat.ev{a:Act}{w:World}(h:Sat N sc env H a w){x:Operand}{v:Value}(hx:ev env x=some v):a.eval x=v:=by
  cases x with
  | tmp t=>exact h.env t v hx
  | const u=>simp only [Sky.ev,Option.some.injEq]at hx;exact hx
  | global g=>simp only [Sky.ev,Option.some.injEq]at hx;exact hx
  | func f=>simp only [Sky.ev,Option.some.injEq]at hx;exact hx
theorem Sat.put{a:Act}{w:World}(h:Sat N sc env H a w)(d:Nat)(v:Value)(hd:Nat.blt d N=true):Sat N sc ((d,v) :: env) H (a.put (some d) v) w:=by
  have hlt:d<N:=by simpa using hd
  refine⟨by simp [Act.put,h.size],h.defers,fun t u ht=>?_,h.hold,h.sep,h.scope⟩
  by_cases hk:d=t
  · subst hk
    rw [Yb]at ht
    cases ht
    simp [Act.put,h.size,hlt]
  · rw [Zl _ _ hk]at ht
    have:=h.env t u ht
    simp only [Act.put]
    rw [←this]
    simp [Array.getD_eq_getD_getElem?,Array.getElem?_setIfInBounds_ne hk]
theorem Sat.put_none{a:Act}{w:World}(h:Sat N sc env H a w)(v:Value):Sat N sc env H (a.put none v) w:=h
theorem e_seq{x y:Code}(h:E P N sc x (Exit.then (y.wp P Q) Q) env H):E P N sc (.seq x y) Q env H:=fun a w hs=>wp_seq (h a w hs)
theorem e_skip(h:X N sc .normal Q env H):E P N sc .skip Q env H:=fun a w hs=>wp_skip (h a w hs)
theorem e_ret(h:X N sc .ret Q env H):E P N sc .ret Q env H:=fun a w hs=>wp_ret (h a w hs)
theorem e_exit{id:Nat}(h:X N sc (.exit id) Q env H):E P N sc (.exit id) Q env H:=fun a w hs=>wp_exit (h a w hs)
theorem Yhu{id:Nat}{c:Code}(h:E P N sc c (Exit.inBlock id Q) env H):E P N sc (.block id c) Q env H:=fun a w hs=>wp_block (h a w hs)
theorem e_reg{id:Nat}{l:List Oper}(h:L P N sc l.toArray l Q env H):E P N sc (.region id l.toArray false) Q env H:=fun a w hs=>wp_region_lit (h a w hs)
theorem Zc{c:Operand}{x y:Code}{p:Prop}[Decidable p](hc:ev env c=some (.bool (decide p)))(ht:p→E P N sc x Q env H)(hf:¬p→E P N sc y Q env H) :
    E P N sc (.cond c x y) Q env H:=fun a w hs=>
  wp_cond_split (hs.ev hc) (fun h=>ht (by simpa using h) a w hs) (fun h=>hf (by simpa using h) a w hs)
theorem Lb{c:Operand}{x y:Code}{b:Bool}(hc:ev env c=some (.bool b))(ht:b=true→E P N sc x Q env H)(hf:b=false→E P N sc y Q env H) :
    E P N sc (.cond c x y) Q env H:=fun a w hs=>
  wp_cond_split (hs.ev hc) (fun h=>ht h a w hs) (fun h=>hf h a w hs)
theorem Yhs{c:Operand}{x y:Code}(hc:ev env c=some (.bool true))(ht:E P N sc x Q env H):E P N sc (.cond c x y) Q env H:=fun a w hs=>
  wp_cond_true (hs.ev hc) (ht a w hs)
theorem Yht{c:Operand}{x y:Code}(hc:ev env c=some (.bool false))(ht:E P N sc y Q env H):E P N sc (.cond c x y) Q env H:=fun a w hs=>
  wp_cond_false (hs.ev hc) (ht a w hs)
theorem l_nil{ops:Array Oper}(h:X N sc .normal Q env H):L P N sc ops [] Q env H:=fun a w hs=>wpList_nil (h a w hs)
theorem x_then{y:Code}(h:E P N sc y Q env H):X N sc .normal (Exit.then (y.wp P Q) Q) env H:=h
theorem x_ret{K:Act→World→Prop}(h:X N sc .ret Q env H):X N sc .ret (Exit.then K Q) env H:=h
theorem x_exit{id:Nat}{K:Act→World→Prop}(h:X N sc (.exit id) Q env H):X N sc (.exit id) (Exit.then K Q) env H:=h
theorem x_bn{id:Nat}(h:X N sc .normal Q env H):X N sc .normal (Exit.inBlock id Q) env H:=h
theorem x_br{id:Nat}(h:X N sc .ret Q env H):X N sc .ret (Exit.inBlock id Q) env H:=h
theorem x_be{id:Nat}(h:X N sc .normal Q env H):X N sc (.exit id) (Exit.inBlock id Q) env H:=fun a w hs=>by
  show(if id=id then Q .normal a w else Q (.exit id) a w)
  rw [if_pos rfl];exact h a w hs
theorem x_bo{id id':Nat}(hne:id'≠id)(h:X N sc (.exit id') Q env H):X N sc (.exit id') (Exit.inBlock id Q) env H:=fun a w hs=>by
  show(if id'=id then Q .normal a w else Q (.exit id') a w)
  rw [if_neg hne];exact h a w hs
theorem e_loop {c:Code} {G:Type} (genv:G→Qw) (gH:G→Hp) (inv:G→Prop) (μ:G→Nat) (g₀:G) (h₀:inv g₀) (hs:Sub (genv g₀) env) (hh:HSub (gH g₀) H)
    (round:∀g,inv g→E P N sc c (Exit.then (fun a w=>∃g',inv g'∧μ g'<μ g∧Sat N sc (genv g') (gH g') a w) Q) (genv g) (gH g)) :
    E P N sc (.loop c) Q env H:=by
  intro a0 w0 hsat
  have h1:=hsat.weaken hs hh
  suffices hx:∀n g,μ g=n→inv g→∀a w,Sat N sc (genv g) (gH g) a w→(Code.loop c).wp P Q a w from hx _ g₀ rfl h₀ a0 w0 h1
  intro n g _ hg a w hsat b k cs
  have key:∀n g,μ g=n→inv g→∀a w,Sat N sc (genv g) (gH g) a w→
      ∃e a' w',Q e a' w'∧Arrives P (lone (b.at a (.code c :: .inLoop c :: k)) cs w) b k cs e a' w':=by
    intro n
    induction n using Nat.strongRecOn with
    | _ n ih=>
      intro g hn hI a w hsat
      obtain⟨e,a₁,w₁,hq,harr⟩:=round g hI a w hsat b (.inLoop c :: k) cs
      cases e with
      | normal=>
        obtain⟨g',hI',hlt,hsat'⟩:=hq
        obtain⟨e₂,a₂,w₂,hq₂,harr₂⟩:=ih (μ g') (hn▸hlt) g' rfl hI' a₁ w₁ hsat'
        exact⟨e₂,a₂,w₂,hq₂,.of_steps (Steps.trans harr (.one step_inLoop)) harr₂⟩
      | exit id=>exact⟨_,a₁,w₁,hq,.pass (x:= .inLoop c) rfl (fun _ _=> .inl O7) harr⟩
      | goto l=>exact⟨_,a₁,w₁,hq,.pass (x:= .inLoop c) rfl (fun _ _=> .inl O7) harr⟩
      | ret=>exact⟨_,a₁,w₁,hq,.pass (x:= .inLoop c) rfl (fun _ _=> .inl O7) harr⟩
      | panic ch=>exact⟨_,a₁,w₁,hq,.pass (x:= .inLoop c) rfl (fun _ _=> .inl O7) harr⟩
      | outgrown=>exact⟨_,a₁,w₁,hq,.pass (x:= .inLoop c) rfl (fun _ _=> .inl O7) harr⟩
  obtain⟨e,a',w',hq,harr⟩:=key _ g rfl hg a w hsat
  exact⟨e,a',w',hq,.of_steps (.one step_loop) harr⟩
def Nt(P:Program)(N:Nat)(sc:Nat→Prop)(o:Oper)(env:Qw)(H:Hp)(v:Value):Prop:=
  ∀a w,Sat N sc env H a w→(execOp a.eval o).run P w= .ok (.value v) w
def T(P:Program)(N:Nat)(sc:Nat→Prop)(M:Nat→Prop)(o:Oper)(env:Qw)(H:Hp){G:Type}(φ:G→Prop)(env':G→Qw)(H':G→Hp):Prop:=
  ∀a w,Sat N sc env H a w→∀K Q,(∀g a' w',φ g→Sat N sc (env' g) (H' g) a' w'→Chg M w w'→K a' w')→o.wp P a w K Q
theorem l_det {ops:Array Oper} {o:Oper} {rest:List Oper} {d:Nat} {v:Value} (hg:o.guard=none) (hd:o.dst=some d) (hN:Nat.blt d N=true) (hv:Nt P N sc o env H v)
    (h:L P N sc ops rest Q ((d,v) :: env) H):L P N sc ops (o :: rest) Q env H:=fun a w hs=>
  wpList_plain hg fun K hK=>by
    unfold Oper.wp
    rw [hv a w hs]
    show K (a.put o.dst v) w
    rw [hd]
    exact hK _ _ (h _ _ (hs.put d v hN))
theorem l_step {ops:Array Oper} {o:Oper} {rest:List Oper} {G:Type} {M:Nat→Prop} {φ:G→Prop} {genv:G→Qw} {gH:G→Hp} (hg:o.guard=none)
    (ht:T P N sc M o env H φ genv gH) (h:∀g,φ g→L P N sc ops rest Q (genv g) (gH g)):L P N sc ops (o :: rest) Q env H:=fun a w hs=>
  wpList_plain hg fun K hK=>ht a w hs K Q fun g a' w' hg hs' _=>hK _ _ (h g hg a' w' hs')
theorem Sat.yielded{a:Act}{w:World}(h:Sat N sc env H a w){ops:Array Oper}{j d:Nat}{b:Bool}(hj:(ops[j]?).bind (·.dst)=some d)(hd:lk env d=some (.bool b))(hN:Nat.blt d N=true) :
    yielded ops a.tmps j=some b:=by
  have h1:=h.env d _ hd
  have hlt:d<a.tmps.size:=by rw [h.size];simpa using hN
  unfold Go.yielded
  rw [hj]
  simp only [Option.bind_some]
  rw [Array.getD_eq_getD_getElem?,Array.getElem?_eq_getElem hlt]at h1
  simp only [Option.getD_some]at h1
  rw [Array.getElem?_eq_getElem hlt,h1]
theorem l_gdet {ops:Array Oper} {o:Oper} {rest:List Oper} {d:Nat} {v:Value} {j e:Nat} {b:Bool} (hg:o.guard=some (j,b)) (hj:(ops[j]?).bind (·.dst)=some e) (he:lk env e=some (.bool b))
    (heN:Nat.blt e N=true) (hd:o.dst=some d) (hN:Nat.blt d N=true) (hv:Nt P N sc o env H v)
    (h:L P N sc ops rest Q ((d,v) :: env) H):L P N sc ops (o :: rest) Q env H:=fun a w hs=>
  wpList_step fun K hK=>by
    have hy:=hs.yielded hj he heN
    have hw:Region.wanted o (yielded ops a.tmps)=true:=by simp [Region.wanted,hg,hy]
    rw [if_pos hw]
    unfold Oper.wp
    rw [hv a w hs]
    show K (a.put o.dst v) w
    rw [hd]
    exact hK _ _ (h _ _ (hs.put d v hN))
theorem Yhc {ops:Array Oper} {o:Oper} {rest:List Oper} {G:Type} {M:Nat→Prop} {φ:G→Prop} {genv:G→Qw} {gH:G→Hp} {j e:Nat} {b:Bool} (hg:o.guard=some (j,b)) (hj:(ops[j]?).bind (·.dst)=some e)
    (he:lk env e=some (.bool b)) (heN:Nat.blt e N=true)
    (ht:T P N sc M o env H φ genv gH) (h:∀g,φ g→L P N sc ops rest Q (genv g) (gH g)):L P N sc ops (o :: rest) Q env H:=fun a w hs=>
  wpList_step fun K hK=>by
    have hy:=hs.yielded hj he heN
    have hw:Region.wanted o (yielded ops a.tmps)=true:=by simp [Region.wanted,hg,hy]
    rw [if_pos hw]
    exact ht a w hs K Q fun g a' w' hg hs' _=>hK _ _ (h g hg a' w' hs')
theorem Yhd {ops:Array Oper} {o:Oper} {rest:List Oper} {d:Nat} {j e:Nat} {b b':Bool} (hg:o.guard=some (j,b)) (hj:(ops[j]?).bind (·.dst)=some e) (he:lk env e=some (.bool b'))
    (heN:Nat.blt e N=true) (hbb:(b' == b)=false) (hd:o.dst=some d) (hN:Nat.blt d N=true)
    (h:L P N sc ops rest Q ((d,undef) :: env) H):L P N sc ops (o :: rest) Q env H:=fun a w hs=>
  wpList_step fun K hK=>by
    have hy:=hs.yielded hj he heN
    have hw:Region.wanted o (yielded ops a.tmps)=false:=by simp [Region.wanted,hg,hy];simpa using hbb
    rw [hw,if_neg O7,hd]
    exact hK _ _ (h _ _ (hs.put d undef hN))
theorem Yt {ops:Array Oper} {rest:List Oper} {d:Nat} {p:Prop} [Decidable p] (hd:lk env d=some (.bool (decide p)))
    (ht:p→L P N sc ops rest Q ((d,.bool true) :: env) H) (hf:¬p→L P N sc ops rest Q ((d,.bool false) :: env) H):L P N sc ops rest Q env H:=fun a w hs=>by
  by_cases hp:p
  · refine ht hp a w ⟨hs.size,hs.defers,fun t v htv=>?_,hs.hold,hs.sep,hs.scope⟩
    by_cases hk:d=t
    · subst hk;rw [Yb]at htv;cases htv;have:=hs.env _ _ hd;rw [this];simp [hp]
    · rw [Zl _ _ hk]at htv;exact hs.env _ _ htv
  · refine hf hp a w ⟨hs.size,hs.defers,fun t v htv=>?_,hs.hold,hs.sep,hs.scope⟩
    by_cases hk:d=t
    · subst hk;rw [Yb]at htv;cases htv;have:=hs.env _ _ hd;rw [this];simp [hp]
    · rw [Zl _ _ hk]at htv;exact hs.env _ _ htv
section
variable {ops:Array Oper} {md:Region.Mode} {C:World→World→Prop}
def Ee(ops:Array Oper)(ts:List Nat)(listed:Array Bool):Bool:=(List.range ops.size).all fun j=>ts.contains j || listed.getD j true
def Ku(P:Program)(md:Region.Mode)(ops:Array Oper)(ts:List Nat)(C:World→World→Prop)(Q:Exit→Act→World→Prop):Nat→Array Bool→Act→World→Prop
  | 0,listed,a,w=>Region.ready md ops listed=[]∧Q .normal a w
  | fuel+1,listed,a,w=>if Ee ops ts listed=true then wpAny P md ops Q (fuel+1) listed a w else
    (Region.ready md ops listed=[]→Q .normal a w)∧
    ∀i∈Region.ready md ops listed,wpOp P ops Q i (fun a' w'=>C w w'∧Ku P md ops ts C Q fuel (listed.setIfInBounds i true) a' w') a w
theorem Zcl{ts:List Nat} : ∀(fuel:Nat) (listed:Array Bool) (a:Act) (w:World),Ku P md ops ts C Q fuel listed a w→wpAny P md ops Q fuel listed a w
  | 0,_,_,_,h=>h
  | fuel+1,listed,_,_,h=>by
    unfold Ku at h
    split at h
    · exact h
    · exact⟨h.1,fun i hi=>wpOp_mono (fun _ _ hk=>Zcl fuel _ _ _ hk.2) (h.2 i hi)⟩
def YieldsC(P:Program)(ops:Array Oper)(C:World→World→Prop)(o:Oper)(v:Value)(a:Act)(w:World):Prop:=
  (Region.wanted o (yielded ops a.tmps)=true∧∀w',C w w'→(execOp a.eval o).run P w'= .ok (.value v) w')∨
  (Region.wanted o (yielded ops a.tmps)=false∧v=undef)
theorem YieldsC.wpOp {i:Nat} {o:Oper} {v:Value} {a:Act} {w:World} (hi:ops[i]? = some o) (hrefl:C w w) (hy:YieldsC P ops C o v a w)
    {K:Act→World→Prop} (h:K (a.put o.dst v) w):wpOp P ops Q i K a w:=by
  unfold Go.wpOp
  simp only [hi]
  rcases hy with⟨hw,hv⟩ | ⟨hw,rfl⟩
  · simp only [hw,if_true,Oper.wp,hv w hrefl,Oper.upon];exact .inl h
  · simp only [hw,Bool.false_eq_true,if_false];exact h
theorem YieldsC.of_same {o:Oper} {v:Value} {a a':Act} {w:World} (hy:YieldsC P ops C o v a w) (he:execOp a'.eval o=execOp a.eval o)
    (hw:Region.wanted o (yielded ops a'.tmps)=Region.wanted o (yielded ops a.tmps)):YieldsC P ops C o v a' w:=by
  unfold YieldsC at *
  rw [he,hw]
  exact hy
theorem YieldsC.later{o:Oper}{v:Value}{a:Act}{w w':World}(htrans:∀a b c,C a b→C b c→C a c)(hy:YieldsC P ops C o v a w)(h:C w w'):YieldsC P ops C o v a w':=by
  rcases hy with⟨h1,h2⟩ | h2
  · exact .inl ⟨h1,fun w'' h'=>h2 w'' (htrans _ _ _ h h')⟩
  · exact .inr h2
theorem Zw2 {j:Nat} {oi oj:Oper} {v:Value} (hj:ops[j]? = some oj) (hap:oi.apart ops oj=true)
    (hsi:∀cs b,oi.op≠ .select cs b) (hsj:∀cs b,oj.op≠ .select cs b)
    (hQ:∀c a w,Q (.panic c) (a.put oi.dst v) w→Q (.panic c) a w) {K:Act→World→Prop} {a:Act} {w:World} {Y:Act→Prop}
    (hY:∀a a',Y a→execOp a'.eval oi=execOp a.eval oi→Region.wanted oi (yielded ops a'.tmps)=Region.wanted oi (yielded ops a.tmps)→Y a') (hy:Y a)
    (h:wpOp P ops Q j K (a.put oi.dst v) w) :
    wpOp P ops Q j (fun a' w'=>Y a'∧K (a'.put oi.dst v) w') a w:=by
  obtain⟨h1,h2,h3⟩:=Oper.apart_spec hap
  have Xm:∀(a:Act),Y a→∀u,Y (a.put oj.dst u):=fun a hy u=>
    hY _ _ hy (execOp_put oi hsi a oj.dst u h3) (wanted_put oi a oj.dst u h3)
  have keepD:∀d,Y { a with defers:=d :: a.defers }:=fun d=>hY _ _ hy rfl rfl
  unfold Go.wpOp at *
  simp only [hj]at *
  rw [wanted_put oj a oi.dst v h1]at h
  split
  · rename_i hw
    simp only [hw,if_true]at h
    rcases h with h | ⟨hasks,hlets⟩
    case inr=>exact .inr ⟨by unfold Oper.asks at *;rw [execOp_put oj hsj a oi.dst v h1]at hasks;exact hasks,hlets⟩
    refine .inl ?_
    unfold Oper.wp at *
    rw [execOp_put oj hsj a oi.dst v h1]at h
    generalize (execOp a.eval oj).run P w=r at *
    cases r with
    | ok n w'=>
      cases n<;>simp only [Oper.upon]at h ⊢
      case value u=>exact⟨Xm a hy u,by rw [←Act.put_comm a v u h2];exact h⟩
      case skip=>exact⟨Xm a hy _,by rw [←Act.put_comm a v undef h2];exact h⟩
      case defer d=>
        refine⟨Xm _ (keepD d) _,?_⟩
        rw [←Act.put_comm _ v undef h2,←Act.put_defers]
        exact h
      case enter f args=>
        refine Calls.mono h fun e w'' he=>?_
        cases e with
        | returned u=>exact⟨Xm a hy u,by rw [←Act.put_comm a v u h2];exact he⟩
        | panicked c=>exact hQ _ _ _ he
        | outgrown=>exact he
      case row row args=>exact Rows.mono h fun u w'' he=>⟨Xm a hy u,by rw [←Act.put_comm a v u h2];exact he⟩
    | halt x w'=>
      cases x<;>simp only [Oper.upon]at h ⊢
      case panic u=>exact hQ _ _ _ h
  · rename_i hw
    simp only [hw]at h
    exact⟨Xm a hy _,by rw [←Act.put_comm a v undef h2];exact h⟩
theorem Zcn{ts:List Nat}{listed:Array Bool}{i:Nat}{o:Oper}(hi:ops[i]? = some o)(hts:i ∉ ts)(hl:listed.getD i true=false):Ee ops ts listed=false:=by
  cases h:Ee ops ts listed with
  | false=>rfl
  | true=>
    unfold Ee at h
    rw [List.all_eq_true]at h
    have:=h i (List.mem_range.2 (Array.getElem?_eq_some_iff.1 hi).1)
    rw [hl]at this
    simp [hts]at this
theorem Af {ts:List Nat} {i:Nat} {oi:Oper} {v:Value} (hi:ops[i]? = some oi) (hsel:∀(j:Nat) (o:Oper) cs b,ops[j]? = some o→o.op≠ .select cs b)
    (hts:i ∉ ts) (haft:∀(j:Nat) (oj:Oper),j∈ts→ops[j]? = some oj→∃e∈oj.after,Region.binds md e=true∧e.on=i)
    (hrefl:∀w,C w w) (htrans:∀a b c,C a b→C b c→C a c)
    (hQ:∀c a w,Q (.panic c) (a.put oi.dst v) w→Q (.panic c) a w) :
    ∀(fuel:Nat) (listed:Array Bool) (a:Act) (w:World),
      (∀j oj,ops[j]? = some oj→j≠i→listed.getD j true=false→(∀e∈oj.after,Region.binds md e=true→e.on≠i)→oi.apart ops oj=true)→
      i∈Region.ready md ops listed→YieldsC P ops C oi v a w→
      Ku P md ops ts C Q fuel (listed.setIfInBounds i true) (a.put oi.dst v) w→Ku P md ops ts C Q (fuel+1) listed a w:=by
  intro fuel
  induction fuel with
  | zero=>
    intro listed a w _ hr hy H
    have hnt:=Zcn hi hts (mem_ready.1 hr).1
    unfold Ku
    rw [if_neg (by rw [hnt];exact Bool.false_ne_true)]
    refine⟨fun h=>(by rw [h]at hr;cases hr),fun j hj=>?_⟩
    by_cases hji:j=i
    · subst hji;exact hy.wpOp hi (hrefl w) ⟨hrefl w,H⟩
    · have:=ready_mono hj hji
      rw [H.1]at this
      cases this
  | succ fuel ih=>
    intro listed a w hfree hr hy H
    have hnt:=Zcn hi hts (mem_ready.1 hr).1
    unfold Ku
    rw [if_neg (by rw [hnt];exact Bool.false_ne_true)]
    refine⟨fun h=>(by rw [h]at hr;cases hr),fun j hj=>?_⟩
    by_cases hji:j=i
    · subst hji;exact hy.wpOp hi (hrefl w) ⟨hrefl w,H⟩
    · obtain⟨hjun,oj,hoj,hall⟩:=mem_ready.1 hj
      have hnot:∀e∈oj.after,Region.binds md e=true→e.on≠i:=fun e he hb heq=>by
        have h1:=hall e he hb
        have h0:=(mem_ready.1 hr).1
        rw [heq]at h1
        rcases Nat.lt_or_ge i listed.size with h' | h'
        · simp [h']at h0 h1;rw [h0]at h1;cases h1
        · simp [Array.getElem?_eq_none h']at h1
      have hjts:j ∉ ts:=fun hm=>by
        obtain⟨e,he,hb,heq⟩:=haft j oj hm hoj
        exact hnot e he hb heq
      have hnt2:Ee ops ts (listed.setIfInBounds i true)=false:=Zcn hoj hjts (by rw [getD_set_ne true (Ne.symm hji)];exact hjun)
      unfold Ku at H
      rw [if_neg (by rw [hnt2];exact Bool.false_ne_true)]at H
      have h1:=H.2 j (ready_mono hj hji)
      have h2:=Zw2 (Y:=fun a=>YieldsC P ops C oi v a w) hoj (hfree j oj hoj hji hjun hnot) (fun cs b=>hsel i oi cs b hi) (fun cs b=>hsel j oj cs b hoj) hQ
        (fun a a' hy he hw=>YieldsC.of_same hy he hw) hy h1
      have hfree':∀k ok,ops[k]? = some ok→k≠i→(listed.setIfInBounds j true).getD k true=false→
          (∀e∈ok.after,Region.binds md e=true→e.on≠i)→oi.apart ops ok=true:=fun k ok hk hki hun hno=>by
        refine hfree k ok hk hki ?_ hno
        by_cases hjk:j=k
        · subst hjk;exact hjun
        · rw [getD_set_ne true hjk]at hun;exact hun
      refine wpOp_mono (fun a' w' h3=>⟨h3.2.1,ih (listed.setIfInBounds j true) a' w' hfree' (ready_mono hr (Ne.symm hji)) (h3.1.later htrans h3.2.1) ?_⟩) h2
      rw [Array.setIfInBounds_comm _ _ hji]
      exact h3.2.2
end
def drp:Nat→Hp→Hp
  | _,[]=>[]
  | k,(i,p) :: r=>cond (Nat.beq i k) (drp k r) ((i,p) :: drp k r)
theorem Fi:∀(k:Nat) (H:Hp) (i:Nat) (p:Pc),lk (drp k H) i=some p→i≠k∧lk H i=some p
  | _,[],_,_,h=>by cases h
  | k,(j,q) :: r,i,p,h=>by
    unfold drp at h
    cases hb:Nat.beq j k with
    | true=>
      rw [hb]at h
      obtain⟨h1,h2⟩:=Fi k r i p h
      have:=Nat.eq_of_beq_eq_true hb
      refine⟨h1,?_⟩
      rw [Zl _ _ O]
      exact h2
    | false=>
      rw [hb]at h
      simp only [cond_false]at h
      by_cases hij:j=i
      · subst hij
        rw [Yb]at h
        refine⟨fun e=>?_,by rw [Yb];exact h⟩
        subst e
        simp at hb
      · rw [Zl _ _ hij]at h ⊢
        exact Fi k r i p h
def LD(P:Program)(N:Nat)(sc:Nat→Prop)(M:Nat→Prop)(ops:Array Oper)(F:Qw→Hp→Prop):List (Nat×Nat)→Qw→Hp→Prop
  | [],env,H=>F env H
  | (i,0) :: rest,env,H=>∃o d v,ops[i]? = some o∧o.dst=some d∧Nat.blt d N=true∧
      (∀a w,Sat N sc env H a w→Region.wanted o (yielded ops a.tmps)=true∧∀w',Chg M w w'→(execOp a.eval o).run P w'= .ok (.value v) w')∧LD P N sc M ops F rest ((d,v) :: env) H
  | (i,1) :: rest,env,H=>∃(o:Oper) (G:Type) (φ:G→Prop) (genv:G→Qw) (gH:G→Hp),ops[i]? = some o∧
      (∀a w,Sat N sc env H a w→Region.wanted o (yielded ops a.tmps)=true)∧T P N sc M o env H φ genv gH∧∀g,φ g→LD P N sc M ops F rest (genv g) (gH g)
  | (i,3) :: rest,env,H=>∃(o:Oper) (G:Type) (φ:G→Prop) (genv:G→Qw) (gH:G→Hp),ops[i]? = some o∧
      (∀a w,Sat N sc env H a w→Region.wanted o (yielded ops a.tmps)=true)∧T P N sc (fun _=>True) o env H φ genv gH∧∀g,φ g→LD P N sc M ops F rest (genv g) (gH g)
  | (i,_) :: rest,env,H=>∃o d,ops[i]? = some o∧o.dst=some d∧Nat.blt d N=true∧
      (∀a w,Sat N sc env H a w→Region.wanted o (yielded ops a.tmps)=false)∧LD P N sc M ops F rest ((d,undef) :: env) H
def Zas:List (Nat×Nat)→List Nat
  | []=>[]
  | (i,3) :: rest=>i :: Zas rest
  | _ :: rest=>Zas rest
def Fh(ops:Array Oper)(ts:List Nat):List (Nat×Nat)→Array Bool→Bool
  | [],_=>true
  | (i,1) :: rest,listed=>(Region.ready .any ops listed == [i]) && !(Ee ops ts listed) && Fh ops ts rest (listed.setIfInBounds i true)
  | (i,3) :: rest,listed=>(Region.ready .any ops listed == [i]) && Ee ops ts listed && Fh ops ts rest (listed.setIfInBounds i true)
  | (i,_) :: rest,listed=>(Region.ready .any ops listed).contains i && Region.free .any ops listed i && !(ts.contains i) &&
      ts.all (fun j=>match ops[j]? with | some oj=>oj.after.any (fun e=>Region.binds .any e && e.on == i) | none=>true) && Fh ops ts rest (listed.setIfInBounds i true)
def Dw:List (Nat×Nat)→Array Bool→Array Bool
  | [],listed=>listed
  | (i,_) :: rest,listed=>Dw rest (listed.setIfInBounds i true)
def Fb(Q:Exit→Act→World→Prop):Exit→Act→World→Prop
  | .normal,a,w=>Q .normal a w
  | _,_,_=>False
theorem Zme {ops:Array Oper} {ts:List Nat} {i:Nat} (h:ts.all (fun j=>match ops[j]? with | some oj=>oj.after.any (fun e=>Region.binds .any e && e.on == i) | none=>true)=true)
    (j:Nat) (oj:Oper) (hj:j∈ts) (ho:ops[j]? = some oj):∃e∈oj.after,Region.binds .any e=true∧e.on=i:=by
  rw [List.all_eq_true]at h
  have h1:=h j hj
  simp only [ho]at h1
  obtain⟨e,he,hb⟩:=Array.any_eq_true'.1 h1
  simp only [Bool.and_eq_true,beq_iff_eq]at hb
  exact⟨e,he,hb.1,hb.2⟩
def A(P:Program)(N:Nat)(sc:Nat→Prop)(M:Nat→Prop)(ops:Array Oper)(ts:List Nat)(Q:Exit→Act→World→Prop)(n:Nat)(listed:Array Bool)(env:Qw)(H:Hp):Prop:=
  ∀a w,Sat N sc env H a w→Ku P .any ops ts (Chg M) (Fb Q) n listed a w
theorem LD.sound{M:Nat→Prop}{ops:Array Oper}{ts:List Nat}{F:Qw→Hp→Prop}{n:Nat}(hsel:Region.noSelect ops=true):∀(plan:List (Nat×Nat)) (listed:Array Bool) (env:Qw) (H:Hp),Fh ops ts plan listed=true→
    LD P N sc M ops F plan env H→(∀env H,F env H→A P N sc M ops ts Q n (Dw plan listed) env H)→A P N sc M ops ts Q (plan.length+n) listed env H
  | [],listed,env,H,hp,h,hF,a,w,hs=>by simpa [Dw]using hF _ _ h a w hs
  | (i,0) :: rest,listed,env,H,hp,h,hF,a,w,hs=>by
    simp only [Fh,Bool.and_eq_true]at hp
    obtain⟨⟨⟨⟨hr,hf⟩,hnt⟩,haf⟩,hp⟩:=hp
    obtain⟨o,d,v,ho,hd,hN,hv,hrest⟩:=h
    obtain⟨hw,hv⟩:=hv a w hs
    have ih:=LD.sound hsel rest (listed.setIfInBounds i true) _ _ hp hrest hF _ w (hs.put d v hN)
    show Ku P .any ops ts (Chg M) (Fb Q) ((rest.length+1)+n) listed a w
    rw [Nat.add_right_comm]
    refine Af ho (Region.noSelect_spec hsel) (by simpa using hnt) (Zme haf) (Chg.refl M) (fun _ _ _=>Chg.trans) (fun _ _ _ h=>h.elim) (rest.length+n) listed a w (Region.free_spec ho hf) (by simpa using hr) (.inl ⟨hw,hv⟩) ?_
    rw [hd];exact ih
  | (i,1) :: rest,listed,env,H,hp,h,hF,a,w,hs=>by
    simp only [Fh,Bool.and_eq_true,beq_iff_eq,Bool.not_eq_true']at hp
    obtain⟨⟨hr,htl⟩,hp⟩:=hp
    obtain⟨o,G,φ,genv,gH,ho,hw,ht,hrest⟩:=h
    show Ku P .any ops ts (Chg M) (Fb Q) ((rest.length+1)+n) listed a w
    rw [Nat.add_right_comm]
    unfold Ku
    rw [if_neg (by rw [htl];exact Bool.false_ne_true)]
    refine⟨fun h0=>(by rw [hr]at h0;cases h0),fun j hj=>?_⟩
    rw [hr]at hj
    have hj:=List.mem_singleton.1 hj
    subst hj
    unfold wpOp
    simp only [ho,hw a w hs,if_true]
    exact .inl (ht a w hs _ _ fun g a' w' hg hs' hc=>⟨hc,LD.sound hsel rest _ _ _ hp (hrest g hg) hF a' w' hs'⟩)
  | (i,3) :: rest,listed,env,H,hp,h,hF,a,w,hs=>by
    simp only [Fh,Bool.and_eq_true,beq_iff_eq]at hp
    obtain⟨⟨hr,htl⟩,hp⟩:=hp
    obtain⟨o,G,φ,genv,gH,ho,hw,ht,hrest⟩:=h
    show Ku P .any ops ts (Chg M) (Fb Q) ((rest.length+1)+n) listed a w
    rw [Nat.add_right_comm]
    unfold Ku
    rw [if_pos htl]
    refine⟨fun h0=>(by rw [hr]at h0;cases h0),fun j hj=>?_⟩
    rw [hr]at hj
    have hj:=List.mem_singleton.1 hj
    subst hj
    unfold wpOp
    simp only [ho,hw a w hs,if_true]
    exact .inl (ht a w hs _ _ fun g a' w' hg hs' _=>Zcl _ _ _ _ (LD.sound hsel rest _ _ _ hp (hrest g hg) hF a' w' hs'))
  | (i,2) :: rest,listed,env,H,hp,h,hF,a,w,hs=>by
    simp only [Fh,Bool.and_eq_true]at hp
    obtain⟨⟨⟨⟨hr,hf⟩,hnt⟩,haf⟩,hp⟩:=hp
    obtain⟨o,d,ho,hd,hN,hv,hrest⟩:=h
    have ih:=LD.sound hsel rest (listed.setIfInBounds i true) _ _ hp hrest hF _ w (hs.put d undef hN)
    show Ku P .any ops ts (Chg M) (Fb Q) ((rest.length+1)+n) listed a w
    rw [Nat.add_right_comm]
    refine Af ho (Region.noSelect_spec hsel) (by simpa using hnt) (Zme haf) (Chg.refl M) (fun _ _ _=>Chg.trans) (fun _ _ _ h=>h.elim) (rest.length+n) listed a w (Region.free_spec ho hf) (by simpa using hr) (.inr ⟨hv a w hs,rfl⟩) ?_
    rw [hd];exact ih
  | (i,(k+4)) :: rest,listed,env,H,hp,h,hF,a,w,hs=>by
    simp only [Fh,Bool.and_eq_true]at hp
    obtain⟨⟨⟨⟨hr,hf⟩,hnt⟩,haf⟩,hp⟩:=hp
    obtain⟨o,d,ho,hd,hN,hv,hrest⟩:=h
    have ih:=LD.sound hsel rest (listed.setIfInBounds i true) _ _ hp hrest hF _ w (hs.put d undef hN)
    show Ku P .any ops ts (Chg M) (Fb Q) ((rest.length+1)+n) listed a w
    rw [Nat.add_right_comm]
    refine Af ho (Region.noSelect_spec hsel) (by simpa using hnt) (Zme haf) (Chg.refl M) (fun _ _ _=>Chg.trans) (fun _ _ _ h=>h.elim) (rest.length+n) listed a w (Region.free_spec ho hf) (by simpa using hr) (.inr ⟨hv a w hs,rfl⟩) ?_
    rw [hd];exact ih
theorem Sat.drew{a:Act}{w:World}(h:Sat N sc env H a w):Sat N sc env H a { w with drawn:=w.drawn+1 }:=
  ⟨h.size,h.defers,h.env,fun i it hi=>it.stable w _ (h.hold i it hi) ⟨rfl,rfl,rfl,Nat.le_refl _,fun _ _ _=>rfl⟩,h.sep,h.scope⟩
theorem Zs{M:Nat→Prop}{ops:Array Oper}{ts:List Nat}{listed:Array Bool}(h:X N sc .normal Q env H)(hr:(Region.ready .any ops listed).isEmpty=true:=by kernel_rfl):A P N sc M ops ts Q 0 listed env H:=
  fun a w hs=>⟨by simpa using hr,h a w hs⟩
def Zn5(P:Program)(N:Nat)(sc:Nat→Prop)(M:Nat→Prop)(ops:Array Oper)(ts:List Nat)(Q:Exit→Act→World→Prop)(n:Nat)(listed:Array Bool)(env:Qw)(H:Hp)(i:Nat):Prop:=
  ∃(o:Oper) (G:Type) (φ:G→Prop) (genv:G→Qw) (gH:G→Hp),ops[i]? = some o∧o.guard=none∧T P N sc M o env H φ genv gH∧∀g,φ g→A P N sc M ops ts Q n (listed.setIfInBounds i true) (genv g) (gH g)
theorem a_br {M:Nat→Prop} {ops:Array Oper} {ts:List Nat} {listed:Array Bool} {n:Nat} (rs:List Nat) (hr:((Region.ready .any ops listed == rs) && !(Ee ops ts listed) && !rs.isEmpty)=true)
    (h:∀i∈rs,Zn5 P N sc M ops ts Q n listed env H i):A P N sc M ops ts Q (n+1) listed env H:=fun a w hs=>by
  simp only [Bool.and_eq_true,beq_iff_eq,Bool.not_eq_true']at hr
  obtain⟨⟨hr,htl⟩,hne⟩:=hr
  unfold Ku
  rw [if_neg (by rw [htl];exact Bool.false_ne_true)]
  refine⟨fun h0=>?_,fun j hj=>?_⟩
  · rw [hr]at h0;subst h0;simp at hne
  · rw [hr]at hj
    obtain⟨o,G,φ,genv,gH,ho,hg,ht,hrest⟩:=h j hj
    unfold wpOp
    simp only [ho,Region.wanted,hg,if_true]
    exact .inl (ht a w hs _ _ fun g a' w' hg hs' hc=>⟨hc,hrest g hg a' w' hs'⟩)
theorem a_lin {M:Nat→Prop} {l:List Oper} {listed:Array Bool} {n m:Nat} {ts:List Nat} (F:Qw→Hp→Prop) (plan:List (Nat×Nat)) 
    (hp:(Region.noSelect l.toArray && Fh l.toArray ts plan listed && Nat.beq (plan.length+n) m)=true) (h:LD P N sc M l.toArray F plan env H)
    (hF:∀env H,F env H→A P N sc M l.toArray ts Q n (Dw plan listed) env H):A P N sc M l.toArray ts Q m listed env H:=by
  simp only [Bool.and_eq_true]at hp
  obtain⟨⟨h1,h2⟩,h3⟩:=hp
  have h3:=Nat.eq_of_beq_eq_true h3
  subst h3
  exact LD.sound h1 plan listed env H h2 h hF
theorem Kg {id:Nat} {l:List Oper} (M:Nat→Prop) (ts:List Nat) 
    (h:A P N sc M l.toArray ts Q l.length (Array.replicate l.length false) env H) (hm:P.follows .mixedOrders=true:=by kernel_rfl):E P N sc (.region id l.toArray true) Q env H:=fun a w hs=>by
  refine Code.wp_mono (Q:=Fb Q) (fun e a w hq=>by cases e<;>first | exact hq | exact hq.elim) ?_
  refine wp_region_any hm (Zcl (C:=Chg M) (ts:=ts) _ _ _ _ ?_)
  simpa using h a _ hs.drew
theorem e_dreg {id:Nat} {l:List Oper} (M:Nat→Prop) (plan:List (Nat×Nat)) (hm:P.follows .mixedOrders=true)
    (hp:(Region.noSelect l.toArray && Nat.beq plan.length l.length && Fh l.toArray (Zas plan) plan (Array.replicate l.length false) &&
      (Region.ready .any l.toArray (Dw plan (Array.replicate l.length false))).isEmpty)=true)
    (h:LD P N sc M l.toArray (X N sc .normal Q) plan env H):E P N sc (.region id l.toArray true) Q env H:=by
  simp only [Bool.and_eq_true]at hp
  obtain⟨⟨⟨h1,h2⟩,h3⟩,h4⟩:=hp
  have h2:=Nat.eq_of_beq_eq_true h2
  refine Kg M (Zas plan) ?_ hm
  have:=LD.sound (n:=0) (Q:=Q) h1 plan _ env H h3 h (fun env H hX=>Zs hX h4)
  rw [←h2]
  rw [←h2]at this
  simpa using this
end Go.Sky
namespace Go.Sky
open Go.RowKit (Below)
variable {P:Program} {N:Nat} {sc:Nat→Prop} {env env':Qw} {H H':Hp} {Q Q':Exit→Act→World→Prop}
def Xm(w0:World)(M:Nat→Prop):Pc:=
  { own:=false,fp:=fun b=>b<w0.heap.size∧¬M b,holds:=fun w=>Chg M w0 w
    lt:=fun w b h hb=>Nat.lt_of_lt_of_le hb.1 h.size
    stable:=fun w w' h hc=>⟨hc.os.trans h.os,hc.tape.trans h.tape,hc.output.trans h.output,Nat.le_trans h.size hc.size,
      fun k hk hm=>(hc.block k (Nat.lt_of_lt_of_le hk h.size) (fun hn=>hn ⟨hk,hm⟩)).trans (h.block k hk hm)⟩ }
def box(b:Nat)(t:TypeId)(cs:Array Value):Pc:=
  { own:=true,fp:=fun k=>k=b,holds:=fun w=>w.heap[b]? = some (.cells cs t (0,0))
    lt:=fun w k h hk=>by subst hk;exact(Array.getElem?_eq_some_iff.1 h).1
    stable:=fun w w' h hc=>by
      rw [←h];exact hc.block b (Array.getElem?_eq_some_iff.1 h).1 (fun hn=>hn rfl) }
def cellsOf{α:Type}(enc:α→Value)(xs:List α):List Value:=xs.flatMap fun x=>(enc x).cells.toList
def RowAt{α:Type}(w:World)(k:Nat)(enc:α→Value)(v:Value)(xs:List α):Prop:=
  ∃a c,v= .slice a xs.length c∧xs.length≤c∧c≤maxLen∧(xs=[]∨∃g off,a=some ⟨g,off,none⟩∧
    ∀i x,xs[i]? = some x→∀j u,(enc x).cells.toList[j]? = some u→w.cell? ⟨g,off+i*k+j,none⟩=some u)
theorem RowAt.same{α:Type}{w w':World}{k:Nat}{enc:α→Value}{v:Value}{xs:List α}(h:RowAt w k enc v xs)(hb:∀b,xs≠[]∧v.ownBlock=some b→w'.heap[b]? = w.heap[b]?):RowAt w' k enc v xs:=by
  obtain⟨a,c,rfl,h1,h2,h3⟩:=h
  rcases h3 with h3 | ⟨g,off,rfl,h4⟩
  · exact⟨a,c,rfl,h1,h2,.inl h3⟩
  by_cases hx:xs=[]
  · exact⟨_,c,rfl,h1,h2,.inl hx⟩
  refine⟨_,c,rfl,h1,h2,.inr ?_⟩
  refine⟨g,off,rfl,fun i x hi j u hj=>?_⟩
  rw [←h4 i x hi j u hj]
  exact World.cell?_of_block (hb g ⟨hx,rfl⟩)
def Yh{α:Type}(k:Nat)(enc:α→Value)(v:Value)(xs:List α):Pc:=
  { own:=false,fp:=fun b=>xs≠[]∧v.ownBlock=some b,holds:=fun w=>RowAt w k enc v xs∧∀b,xs≠[]∧v.ownBlock=some b→b<w.heap.size
    lt:=fun w b h hb=>h.2 b hb
    stable:=fun w w' h hc=>⟨h.1.same fun b hb=>hc.block b (h.2 b hb) (fun hn=>hn hb),fun b hb=>Nat.lt_of_lt_of_le (h.2 b hb) hc.size⟩ }
def Oa{α:Type}(k:Nat)(e:TypeId)(enc:α→Value)(v:Value)(xs:List α):Pc:=
  { own:=true,fp:=fun b=>v.ownBlock=some b,holds:=fun w=>w.ownsRow 0 e k v xs.length (cellsOf enc xs)
    lt:=fun w b h hb=>(h.lt b hb).2
    stable:=fun w w' h hc=>by
      refine⟨h.1,?_⟩
      rcases h.2 with hn | ⟨g,cap,cur,rfl,hb,hgg,rest⟩
      · exact .inl hn
      · refine .inr ⟨g,cap,cur,rfl,hb,?_,rest⟩
        rw [←hgg]
        exact hc.block g (Array.getElem?_eq_some_iff.1 hgg).1 (fun hn=>hn rfl) }
structure Enc {α:Type} (P:Program) (t:TypeId) (k:Nat) (enc:α→Value):Prop where
  pos:0<k
  cells:∀x,(enc x).cells.size=k
  one:∀x,∀u∈(enc x).cells.toList,u.oneCell'=true
  size:∀w,(sizeOf t).run P w= .ok k w
  load:∀x w ad,(∀j u,(enc x).cells.toList[j]? = some u→w.cell? (ad.add j)=some u)→(loadVar t ad).run P w= .ok (enc x) w
theorem Enc.flat{α:Type}{t:TypeId}{enc:α→Value}(hs:∀w,(sizeOf t).run P w= .ok 1 w)(ha:∀w,(isAgg t).run P w= .ok false w)(h1:∀x,(enc x).oneCell'=true):Enc P t 1 enc:=by
  have hc:∀x,(enc x).cells=#[enc x]:=fun x=>by
    have:=h1 x
    cases hx:enc x<;>simp_all [Value.cells,Value.oneCell']
  refine⟨O,fun x=>by rw [hc];rfl,fun x u hu=>?_,hs,fun x w ad h=>?_⟩
  · rw [hc]at hu;simp at hu;rw [hu];exact h1 x
  · have h0:=h 0 (enc x) (by rw [hc];rfl)
    simp only [Addr.add,if_true]at h0
    simp [loadVar,ha,h0]
theorem Enc.agg {α:Type} {t:TypeId} {k:Nat} {enc:α→Value} (hk:0<k) (hs:∀w,(sizeOf t).run P w= .ok k w) (ha:∀w,(isAgg t).run P w= .ok true w)
    (h1:∀x,∃cs:List Value,enc x= .agg cs.toArray∧cs.length=k∧∀u∈cs,u.oneCell'=true):Enc P t k enc:=by
  refine⟨hk,fun x=>?_,fun x u hu=>?_,hs,fun x w ad h=>?_⟩
  · obtain⟨cs,hx,hl,ho⟩:=h1 x;rw [hx];simpa [Value.cells]using hl
  · obtain⟨cs,hx,hl,ho⟩:=h1 x;rw [hx]at hu;exact ho u (by simpa [Value.cells]using hu)
  · obtain⟨cs,hx,hl,ho⟩:=h1 x
    rw [hx]at h ⊢
    have hr:=run_loadCells_list (P:=P) w ad cs (by simpa [Value.cells]using h)
    rw [hl]at hr
    simp [loadVar,ha,hs,hr]
theorem Xe{α:Type}{k:Nat}{enc:α→Value}(hc:∀x,(enc x).cells.size=k):∀xs:List α,(cellsOf enc xs).length=xs.length*k
  | []=>by simp [cellsOf]
  | x :: r=>by
    have ih:=Xe hc r
    simp only [cellsOf,List.flatMap_cons,List.length_append,Array.length_toList,List.length_cons]at ih ⊢
    rw [ih,hc x,Nat.add_mul];omega
theorem Ie{α:Type}{k:Nat}{enc:α→Value}(hc:∀x,(enc x).cells.size=k):∀(xs:List α) (i:Nat) (x:α),xs[i]? = some x→∀j u,(enc x).cells.toList[j]? = some u→(cellsOf enc xs)[i*k+j]? = some u
  | [],_,_,h,_,_,_=>by simp at h
  | y :: r,0,x,h,j,u,hu=>by
    simp at h;subst h
    simp only [cellsOf,List.flatMap_cons,Nat.zero_mul,Nat.zero_add]
    rw [List.getElem?_append_left (List.getElem?_eq_some_iff.1 hu).1]
    exact hu
  | y :: r,i+1,x,h,j,u,hu=>by
    have ih:=Ie hc r i x (by simpa using h) j u hu
    simp only [cellsOf,List.flatMap_cons]at ih ⊢
    rw [List.getElem?_append_right (by simp [hc,Nat.add_mul];omega)]
    rw [←ih]
    congr 1
    simp [hc,Nat.add_mul];omega
def Rd{α:Type}(p:Pc)(k:Nat)(enc:α→Value)(v:Value)(xs:List α):Prop:=∀w,p.holds w→RowAt w k enc v xs
theorem Zk{α:Type}{k:Nat}{enc:α→Value}{v:Value}{xs:List α} : Rd (Yh k enc v xs) k enc v xs:=fun w h=>h.1
theorem Dt{α:Type}{k:Nat}{e:TypeId}{enc:α→Value}{v:Value}{xs:List α}{w:World}(hc:∀x,(enc x).cells.size=k)(h:w.ownsRow 0 e k v xs.length (cellsOf enc xs)):RowAt w k enc v xs:=by
  rcases h.2 with⟨rfl,hn⟩ | ⟨g,cap,cur,rfl,_,hgg,hle,hcm,hcs,htake⟩
  · have:xs=[]:=List.eq_nil_of_length_eq_zero hn
    subst this
    exact⟨none,0,rfl,Nat.le_refl _,O7,.inl rfl⟩
  · refine⟨_,cap,rfl,hle,hcm,.inr ⟨g,0,rfl,fun i x hi j u hj=>?_⟩⟩
    have h1:=Ie hc xs i x hi j u hj
    rw [←htake,List.getElem?_take]at h1
    simp only [Nat.zero_add]
    split at h1
    · simp only [World.cell?,hgg]
      simpa using h1
    · cases h1
theorem Ys{α:Type}{t:TypeId}{k:Nat}{e:TypeId}{enc:α→Value}{v:Value}{xs:List α}(he:Enc P t k enc):Rd (Oa k e enc v xs) k enc v xs:=fun w h=>Dt he.cells h
theorem Pq(g o n:Nat):(⟨g,o,none⟩:Addr).add n=⟨g,o+n,none⟩:=by
  unfold Addr.add;split<;>simp_all
def ead(v:Value)(i k:Nat):Addr:=match v with
  | .slice (some a) _ _=>a.add (i*k)
  | _=>default
theorem d_mv{o:Oper}{x:Operand}{v:Value}(ho:o.op= .move x)(hx:ev env x=some v):Nt P N sc o env H v:=fun a w hs=>by
  simp only [execOp,ho,hs.ev hx];rfl
theorem d_as{o:Oper}{x:Operand}{v:Value}(ho:o.op= .assign x)(hx:ev env x=some v):Nt P N sc o env H v:=fun a w hs=>by
  simp only [execOp,ho,hs.ev hx];rfl
theorem Zs6{o:Oper}{x:Operand}{i:Nat}{vs:Array Value}{v:Value}(ho:o.op= .extract x i)(hx:ev env x=some (.tuple vs))(hv:vs[i]? = some v):Nt P N sc o env H v:=fun a w hs=>by
  simp [execOp,ho,hs.ev hx,Instr.extract,hv]
theorem d_nc{o:Oper}{x:Operand}{ad:Addr}(ho:o.op= .nilCheck x)(hx:ev env x=some (.pointer (some ad))):Nt P N sc o env H (.pointer (some ad)):=fun a w hs=>by
  simp [execOp,ho,hs.ev hx]
theorem Zla{o:Oper}{x:Operand}{t:TypeId}{p:Prop}[Decidable p](ho:o.op= .unOp .not t x)(hx:ev env x=some (.bool (decide p))):Nt P N sc o env H (.bool (decide (¬p))):=fun a w hs=>by
  simp [execOp,ho,hs.ev hx,Op.unary]
theorem Qf{o:Oper}{x:Operand}{t:TypeId}{b:Bool}(ho:o.op= .unOp .not t x)(hx:ev env x=some (.bool b)):Nt P N sc o env H (.bool (!b)):=fun a w hs=>by
  simp [execOp,ho,hs.ev hx,Op.unary]
theorem Yh0{o:Oper}{c x y:Operand}{v:Value}(ho:o.op= .pick c x y)(hc:ev env c=some (.bool true))(hx:ev env x=some v):Nt P N sc o env H v:=fun a w hs=>by
  simp [execOp,ho,hs.ev hc,hs.ev hx,asBool]
theorem Yh1{o:Oper}{c x y:Operand}{v:Value}(ho:o.op= .pick c x y)(hc:ev env c=some (.bool false))(hx:ev env y=some v):Nt P N sc o env H v:=fun a w hs=>by
  simp [execOp,ho,hs.ev hc,hs.ev hx,asBool]
def Xx(n:Int):Prop:=-9223372036854775808≤n∧n≤9223372036854775807
theorem Ae{n:Int}(h:Xx n):IntKind.i64.wrap n=n:=by rw [IntKind.wrap_i64];obtain⟨h1,h2⟩:=h;omega
theorem Zlg(n:Int):IntKind.u64.wrap n=n%18446744073709551616:=by
  simp [IntKind.wrap,IntKind.bits,IntKind.signed]
theorem Hy {o:Oper} {op:BinOp} {t t':TypeId} {x y:Operand} {k:IntKind} {m n:Int} {r:Value} (ho:o.op= .binOp op t x y t') (hx:ev env x=some (.int k m)) (hy:ev env y=some (.int k n))
    (hr:∀w,(binOp op t (.int k m) (.int k n)).run P w= .ok r w):Nt P N sc o env H r:=fun a w hs=>by
  simp [execOp,ho,hs.ev hx,hs.ev hy,eqGuard,hr w]
theorem d_add{o:Oper}{t t':TypeId}{x y:Operand}{m n:Int}(ho:o.op= .binOp .add t x y t')(hx:ev env x=some (.int .i64 m))(hy:ev env y=some (.int .i64 n))(h:Xx (m+n)) :
    Nt P N sc o env H (.int .i64 (m+n)):=Hy ho hx hy fun w=>by simp [binOp,Op.intArith,Ae h]
theorem d_sub{o:Oper}{t t':TypeId}{x y:Operand}{m n:Int}(ho:o.op= .binOp .sub t x y t')(hx:ev env x=some (.int .i64 m))(hy:ev env y=some (.int .i64 n))(h:Xx (m-n)) :
    Nt P N sc o env H (.int .i64 (m-n)):=Hy ho hx hy fun w=>by simp [binOp,Op.intArith,Ae h]
theorem d_mul{o:Oper}{t t':TypeId}{x y:Operand}{m n:Int}(ho:o.op= .binOp .mul t x y t')(hx:ev env x=some (.int .i64 m))(hy:ev env y=some (.int .i64 n))(h:Xx (m*n)) :
    Nt P N sc o env H (.int .i64 (m*n)):=Hy ho hx hy fun w=>by simp [binOp,Op.intArith,Ae h]
theorem Zcj{o:Oper}{t t':TypeId}{x y:Operand}{m n:Int}(ho:o.op= .binOp .quo t x y t')(hx:ev env x=some (.int .i64 m))(hy:ev env y=some (.int .i64 n))(h0:0≤m:=by omega)(h1:m≤9223372036854775807:=by omega)(hn:0<n:=by omega) :
    Nt P N sc o env H (.int .i64 (m/n)):=Hy ho hx hy fun w=>by
  have hw:Xx (m/n):=by
    have h2:=Int.ediv_nonneg h0 (Int.le_of_lt hn)
    have h3:m/n≤m:=Int.ediv_le_self n h0
    exact⟨O,O⟩
  simp [binOp,Op.intDiv,Int.tdiv_eq_ediv_of_nonneg h0,Ae hw];omega
theorem Zi9{o:Oper}{t t':TypeId}{x y:Operand}{m n:Int}(ho:o.op= .binOp .rem t x y t')(hx:ev env x=some (.int .i64 m))(hy:ev env y=some (.int .i64 n))(h0:0≤m:=by omega)(hn:0<n:=by omega) :
    Nt P N sc o env H (.int .i64 (m%n)):=Hy ho hx hy fun w=>by
  simp [binOp,Op.intDiv,Int.tmod_eq_emod_of_nonneg h0];omega
theorem Yds{o:Oper}{t t':TypeId}{x y:Operand}{k:IntKind}{m n:Int}(ho:o.op= .binOp .lss t x y t')(hx:ev env x=some (.int k m))(hy:ev env y=some (.int k n)) :
    Nt P N sc o env H (.bool (decide (m<n))):=Hy ho hx hy fun w=>by simp [binOp,Op.intCmp]
theorem d_leq{o:Oper}{t t':TypeId}{x y:Operand}{k:IntKind}{m n:Int}(ho:o.op= .binOp .leq t x y t')(hx:ev env x=some (.int k m))(hy:ev env y=some (.int k n)) :
    Nt P N sc o env H (.bool (decide (m≤n))):=Hy ho hx hy fun w=>by simp [binOp,Op.intCmp]
theorem Zga{o:Oper}{t t':TypeId}{x y:Operand}{k:IntKind}{m n:Int}(ho:o.op= .binOp .gtr t x y t')(hx:ev env x=some (.int k m))(hy:ev env y=some (.int k n)) :
    Nt P N sc o env H (.bool (decide (n<m))):=Hy ho hx hy fun w=>by simp [binOp,Op.intCmp]
theorem d_geq{o:Oper}{t t':TypeId}{x y:Operand}{k:IntKind}{m n:Int}(ho:o.op= .binOp .geq t x y t')(hx:ev env x=some (.int k m))(hy:ev env y=some (.int k n)) :
    Nt P N sc o env H (.bool (decide (n≤m))):=Hy ho hx hy fun w=>by simp [binOp,Op.intCmp]
theorem Ydu{o:Oper}{t t':TypeId}{x y:Operand}{k:IntKind}{m n:Int}(ho:o.op= .binOp .eql t x y t')(hx:ev env x=some (.int k m))(hy:ev env y=some (.int k n)) :
    Nt P N sc o env H (.bool (decide (m=n))):=Hy ho hx hy fun w=>by
  simp only [binOp,ne_eq,not_true_eq_false,if_false,Op.intCmp]
  rw [show(m == n)=decide (m=n)from rfl];rfl
theorem d_neq{o:Oper}{t t':TypeId}{x y:Operand}{k:IntKind}{m n:Int}(ho:o.op= .binOp .neq t x y t')(hx:ev env x=some (.int k m))(hy:ev env y=some (.int k n)) :
    Nt P N sc o env H (.bool (decide (m≠n))):=Hy ho hx hy fun w=>by
  simp only [binOp,ne_eq,not_true_eq_false,if_false,Op.intCmp,Sem.run_pure]
  congr 2
  by_cases h:m=n<;>simp [h]
theorem d_len {α:Type} {o:Oper} {x:Operand} {t e:TypeId} {v:Value} {i k:Nat} {p:Pc} {enc:α→Value} {xs:List α} (ho:o.op= .call { callee:= .builtin .len,args:=#[x],argTypes:=#[t] })
    (hx:ev env x=some v) (hH:lk H i=some p) (hr:Rd p k enc v xs) (ht:P.underlying t=some (.slice e)):Nt P N sc o env H (.int .i64 xs.length):=fun a w hs=>by
  obtain⟨ad,c,rfl,_⟩:=hr w (hs.hold i p hH)
  simp [execOp,ho,resolve,hs.ev hx,invoke,builtin,Builtin.len_,run_underlying ht,goInt]
theorem d_lens {o:Oper} {x:Operand} {t:TypeId} {s:ByteArray} (ho:o.op= .call { callee:= .builtin .len,args:=#[x],argTypes:=#[t] })
    (hx:ev env x=some (.string s)) (ht:P.underlying t=some .string):Nt P N sc o env H (.int .i64 s.size):=fun a w hs=>by
  simp [execOp,ho,resolve,hs.ev hx,invoke,builtin,Builtin.len_,run_underlying ht,goInt]
theorem Yn {α:Type} {o:Oper} {x y:Operand} {t e:TypeId} {v:Value} {ii k i:Nat} {kd:IntKind} {m:Int} {p:Pc} {enc:α→Value} {xs:List α} (ho:o.op= .indexAddr t x y)
    (hx:ev env x=some v) (hy:ev env y=some (.int kd m)) (hH:lk H ii=some p) (hr:Rd p k enc v xs) (ht:P.underlying t=some (.slice e)) (hs':∀w,(sizeOf e).run P w= .ok k w)
      (him:m=(i:Int):=by omega) (hlt:i<xs.length:=by omega):Nt P N sc o env H (.pointer (some (ead v i k))):=fun a w hs=>by
  obtain⟨ad,c,rfl,h1,h2,h3⟩:=hr w (hs.hold ii p hH)
  rcases h3 with rfl | ⟨g,off,rfl,h3⟩
  · simp at hlt
  · subst him
    simp [execOp,ho,hs.ev hx,hs.ev hy,Instr.indexAt,asIntOf,run_underlying ht,hs',hlt,ead]
theorem Oi {α:Type} {o:Oper} {x:Operand} {t:TypeId} {v:Value} {ii k i:Nat} {p:Pc} {enc:α→Value} {xs:List α} (d0:α) (ho:o.op= .load t x)
    (hx:ev env x=some (.pointer (some (ead v i k)))) (hH:lk H ii=some p) (hr:Rd p k enc v xs) (he:Enc P t k enc)
     (hlt:i<xs.length:=by omega):Nt P N sc o env H (enc (xs.getD i d0)):=fun a w hs=>by
  obtain⟨ad,c,rfl,h1,h2,h3⟩:=hr w (hs.hold ii p hH)
  rcases h3 with rfl | ⟨g,off,rfl,h3⟩
  · simp at hlt
  · have hi:xs[i]? = some (xs.getD i d0):=by simp [List.getD,List.getElem?_eq_getElem hlt]
    have:=he.load (xs.getD i d0) w (ead (.slice (some ⟨g,off,none⟩) xs.length c) i k) (fun j u hj=>by
      have:=h3 i _ hi j u hj
      simp only [ead,Pq]
      exact this)
    simp [execOp,ho,hs.ev hx,Instr.loadAt,Instr.sureAddr,this]
theorem Ydt {o:Oper} {x y:Operand} {t:TypeId} {s:ByteArray} {kd:IntKind} {m:Int} {i:Nat} (ho:o.op= .index t x y)
    (hx:ev env x=some (.string s)) (hy:ev env y=some (.int kd m)) (ht:P.underlying t=some .string)
    (him:m=(i:Int)) (hlt:i<s.size:=by omega):Nt P N sc o env H (.int .u8 ((s.data.toList.getD i 0).toNat:Int)):=fun a w hs=>by
  subst him
  have h1:s[i]? = some s[i]:=getElem?_pos s i hlt
  have h2:s.data.toList.getD i 0=s[i]:=by
    have hl:i<s.data.toList.length:=by simpa using hlt
    simp only [List.getD,List.getElem?_eq_getElem hl,Option.getD_some]
    rfl
  rw [h2]
  simp [execOp,ho,hs.ev hx,hs.ev hy,Instr.index,asIntOf,run_underlying ht,h1]
theorem d_fa {o:Oper} {x:Operand} {t:TypeId} {f:Nat} {fs:Array Field} {fd:Field} {k:Nat} {b off q r:Nat} (ho:o.op= .fieldAddr t x f)
    (hx:ev env x=some (.pointer (some ⟨b,off,none⟩))) (ht:P.underlying t=some (.struct fs)) (hf:fs[f]? = some fd) (hk:∀w,(sizeOf fd.type).run P w= .ok (k+1) w) (hq:fd.offset=q) (hr:off+q=r) :
    Nt P N sc o env H (.pointer (some ⟨b,r,none⟩)):=fun a w hs=>by
  subst hr;subst hq
  simp [execOp,ho,hs.ev hx,Instr.fieldAt,run_underlying ht,hf,Instr.sureAddr,fieldPlace,hk,Pq]
theorem Sat.boxc{a:Act}{w:World}(hs:Sat N sc env H a w){i b:Nat}{t:TypeId}{cs:Array Value}(hH:lk H i=some (box b t cs))(j:Nat):w.cell? ⟨b,j,none⟩=cs[j]?:=by
  have h:w.heap[b]? = some (.cells cs t (0,0)):=hs.hold i _ hH
  simp [World.cell?,h]
theorem Zyq {o:Oper} {x:Operand} {t tb:TypeId} {i b j:Nat} {cs:Array Value} {v:Value} (ho:o.op= .load t x)
    (hx:ev env x=some (.pointer (some ⟨b,j,none⟩))) (hH:lk H i=some (box b tb cs)) (ht:∀w,(isAgg t).run P w= .ok false w) (hv:cs[j]? = some v):Nt P N sc o env H v:=fun a w hs=>by
  have h:=hs.boxc hH j
  rw [hv]at h
  simp [execOp,ho,hs.ev hx,Instr.loadAt,Instr.sureAddr,loadVar,ht,load,Sem.run,h]
theorem Zv3 {o:Oper} {x:Operand} {t tb:TypeId} {i b j k:Nat} {cs:Array Value} {vs:List Value} (ho:o.op= .load t x)
    (hx:ev env x=some (.pointer (some ⟨b,j,none⟩))) (hH:lk H i=some (box b tb cs)) (ht:∀w,(isAgg t).run P w= .ok true w) (hk:∀w,(sizeOf t).run P w= .ok k w)
    (hl:vs.length=k) (hv:∀n u,vs[n]? = some u→cs[j+n]? = some u):Nt P N sc o env H (.agg vs.toArray):=fun a w hs=>by
  have hr:=run_loadCells_list (P:=P) w ⟨b,j,none⟩ vs (fun n u hu=>by rw [Pq,hs.boxc hH];exact hv n u hu)
  rw [hl]at hr
  simp [execOp,ho,hs.ev hx,Instr.loadAt,Instr.sureAddr,loadVar,ht,hk,hr]
end Go.Sky
namespace Go.Sky
open Go.RowKit (Below)
variable {P:Program} {N:Nat} {sc:Nat→Prop} {env env':Qw} {H H':Hp} {Q Q':Exit→Act→World→Prop} {M:Nat→Prop}
theorem Chg.alloc(M:Nat→Prop)(w:World)(o:Obj):Chg M w (w.alloc o):=
 ⟨rfl,rfl,rfl,O7,fun k hk _=>heap_alloc_old w o k hk⟩
theorem Sat.chg{a:Act}{w w':World}(h:Sat N sc env H a w)(hc:∀fp:Nat→Prop,(∀b,fp b→b<w.heap.size)→Chg (fun b=>¬fp b) w w'):Sat N sc env H a w':=
 ⟨h.size,h.defers,h.env,fun i it hi=>it.stable w w' (h.hold i it hi) (hc _ fun b hb=>it.lt w b (h.hold i it hi) hb),h.sep,h.scope⟩
theorem Sat.chg0{a:Act}{w w':World}(h:Sat N sc env H a w)(hc:Chg (fun _=>False) w w'):Sat N sc env H a w':=
 h.chg fun fp hfp=>⟨hc.os,hc.tape,hc.output,hc.size,fun k hk hn=>hc.block k hk (fun h=>h)⟩
theorem Sat.add {a:Act} {w:World} (h:Sat N sc env H a w) (i:Nat) (p:Pc) (hp:p.holds w) (hsep:∀j jt,j≠i→lk H j=some jt→(p.own=true∨jt.own=true)→∀b,p.fp b→jt.fp b→False)
  (hsc:∀b,p.fp b→sc b):Sat N sc env ((i,p) :: H) a w:=by
 refine⟨h.size,h.defers,h.env,fun j jt hj=>?_,fun j j' jt jt' hne hj hj' hown b hb hb'=>?_,fun j jt hj0 hj b hb=>?_⟩
 ·by_cases hk:i=j
  ·subst hk;rw [Yb]at hj;cases hj;exact hp
  ·rw [Zl _ _ hk]at hj;exact h.hold j jt hj
 ·by_cases hk:i=j
  ·subst hk;rw [Yb]at hj;cases hj
   rw [Zl _ _ hne]at hj'
   exact hsep j' jt' (Ne.symm hne) hj' (.inl hown) b hb hb'
  ·rw [Zl _ _ hk]at hj
   by_cases hk':i=j'
   ·subst hk';rw [Yb]at hj';cases hj'
    exact hsep j jt hne hj (.inr hown) b hb' hb
   ·rw [Zl _ _ hk']at hj'
    exact h.sep j j' jt jt' hne hj hj' hown b hb hb'
 ·by_cases hk:i=j
  ·subst hk;rw [Yb]at hj;cases hj;exact hsc b hb
  ·rw [Zl _ _ hk]at hj;exact h.scope j jt hj0 hj b hb
def Wide(sc:Nat→Prop)(H:Hp):Prop:=∃w0 M,lk H 0=some (Xm w0 M)∧∀b,w0.heap.size≤b→sc b
theorem Sat.new {a:Act} {w:World} (h:Sat N sc env H a w) {w0:World} {M0:Nat→Prop} (h0:lk H 0=some (Xm w0 M0)) (hw:∀b,w0.heap.size≤b→sc b) (i:Nat) (p:Pc) (o:Obj)
  (hp:p.holds (w.alloc o)) (hfp:∀b,p.fp b→b=w.heap.size):Sat N sc env ((i,p) :: H) a (w.alloc o):=by
 have h1:=h.chg0 (Chg.alloc _ w o)
 have hk:w0.heap.size≤w.heap.size:=(h.hold 0 _ h0).size
 refine h1.add i p hp (fun j jt _ hj _ b hb hb'=>?_) (fun b hb=>hw b (by rw [hfp b hb];exact hk))
 have:=jt.lt w b (h.hold j jt hj) hb'
 rw [hfp b hb]at this
 omega
theorem Zgn {o:Oper} {t:TypeId} {d i:Nat} {z:Value} {cs:Array Value} {w0:World} {M0:Nat→Prop} (ho:o.op= .alloc t) (hd:o.dst=some d) (hN:Nat.blt d N=true)
  (hz:∀w,(zeroValue t).run P w= .ok z w) (hc:z.cells=cs) (h0:lk H 0=some (Xm w0 M0)) (hw:∀b,w0.heap.size≤b→sc b) :
  T P N sc M o env H (G:=Nat) (fun _=>True) (fun b=>(d,.pointer (some ⟨b,0,none⟩)) :: env) (fun b=>(i,box b t cs) :: H):=fun a w hs K Q hK=>by
 subst hc
 have hr:(execOp a.eval o).run P w= .ok (.value (.pointer (some ⟨w.heap.size,0,none⟩))) (w.alloc (.cells z.cells t)):=by
  simp [execOp,ho,Instr.alloc,hz,newVar,newRow]
 unfold Oper.wp
 rw [hr]
 show K (a.put o.dst _) _
 rw [hd]
 exact hK w.heap.size _ _ trivial ((hs.new h0 hw i (box w.heap.size t z.cells) (.cells z.cells t) (heap_alloc_new w _) (fun b hb=>hb)).put d _ hN) (Chg.alloc _ _ _)
theorem t_box {o:Oper} {t:TypeId} {x:Operand} {d i:Nat} {v:Value} {cs:Array Value} {w0:World} {M0:Nat→Prop} (ho:o.op= .box t x) (hd:o.dst=some d) (hN:Nat.blt d N=true)
  (hx:ev env x=some v) (hc:v.cells=cs) (h0:lk H 0=some (Xm w0 M0)) (hw:∀b,w0.heap.size≤b→sc b) :
  T P N sc M o env H (G:=Nat) (fun _=>True) (fun b=>(d,.pointer (some ⟨b,0,none⟩)) :: env) (fun b=>(i,box b t cs) :: H):=fun a w hs K Q hK=>by
 subst hc
 have hr:(execOp a.eval o).run P w= .ok (.value (.pointer (some ⟨w.heap.size,0,none⟩))) (w.alloc (.cells v.cells t)):=by
  simp [execOp,ho,Instr.box,hs.ev hx,newVar,newRow]
 unfold Oper.wp
 rw [hr]
 show K (a.put o.dst _) _
 rw [hd]
 exact hK w.heap.size _ _ trivial ((hs.new h0 hw i (box w.heap.size t v.cells) (.cells v.cells t) (heap_alloc_new w _) (fun b hb=>hb)).put d _ hN) (Chg.alloc _ _ _)
def One(N:Nat)(sc:Nat→Prop)(env:Qw)(H:Hp)(v:Value):Prop:=∀a w,Sat N sc env H a w→v.oneCell'=true
theorem Yo{v:Value}(h:v.oneCell'=true):One N sc env H v:=fun _ _ _=>h
theorem Pl{α:Type}{i k:Nat}{p:Pc}{enc:α→Value}{v:Value}{xs:List α}(hH:lk H i=some p)(hr:Rd p k enc v xs):One N sc env H v:=fun a w hs=>by
 obtain⟨ad,c,rfl,_⟩:=hr w (hs.hold i p hH);rfl
theorem Zu{v:Value}(h:v.oneCell'=true):v.cells=#[v]:=by
 cases v<;>simp_all [Value.cells,Value.oneCell']
theorem Kx{w:World}{g:Nat}(cs:Array Value)(hM:M g):Chg M w (w.setRow g cs):=
 ⟨rfl,rfl,rfl,O7,fun k _ hn=>setRow_other w g k cs (fun e=>hn (e▸hM))⟩
theorem Sat.upd {a:Act} {w w':World} (h:Sat N sc env H a w) {i:Nat} {p q:Pc} (hi:lk H i=some p) (hown:p.own=true) (hi0:i≠0)
  (hc:Chg p.fp w w') (hq:q.holds w') (hqp:∀b,q.fp b→p.fp b∨w.heap.size≤b) {w0:World} {M0:Nat→Prop} (h0:lk H 0=some (Xm w0 M0)) (hw:∀b,w0.heap.size≤b→sc b) :
  Sat N sc env ((i,q) :: H) a w':=by
 refine⟨h.size,h.defers,h.env,fun j jt hj=>?_,fun j j' jt jt' hne hj hj' ho b hb hb'=>?_,fun j jt hj0 hj b hb=>?_⟩
 ·by_cases hk:i=j
  ·subst hk;rw [Yb]at hj;cases hj;exact hq
  ·rw [Zl _ _ hk]at hj
   exact jt.stable w w' (h.hold j jt hj) ⟨hc.os,hc.tape,hc.output,hc.size,fun b hb hn=>hc.block b hb (fun hp=>hn (fun hjb=>h.sep i j p jt hk hi hj hown b hp hjb))⟩
 ·by_cases hk:i=j
  ·subst hk;rw [Yb]at hj;cases hj
   rw [Zl _ _ hne]at hj'
   rcases hqp b hb with h1 | h1
   ·exact h.sep i j' p jt' hne hi hj' hown b h1 hb'
   ·have:=jt'.lt w b (h.hold j' jt' hj') hb';omega
  ·rw [Zl _ _ hk]at hj
   by_cases hk':i=j'
   ·subst hk';rw [Yb]at hj';cases hj'
    rcases hqp b hb' with h1 | h1
    ·exact h.sep i j p jt (Ne.symm hne) hi hj hown b h1 hb
    ·have:=jt.lt w b (h.hold j jt hj) hb;omega
   ·rw [Zl _ _ hk']at hj'
    exact h.sep j j' jt jt' hne hj hj' ho b hb hb'
 ·by_cases hk:i=j
  ·subst hk;rw [Yb]at hj;cases hj
   rcases hqp b hb with h1 | h1
   ·exact h.scope i p hi0 hi b h1
   ·exact hw b (Nat.le_trans (h.hold 0 _ h0).size h1)
  ·rw [Zl _ _ hk]at hj;exact h.scope j jt hj0 hj b hb
def Hu(cs:Array Value)(j:Nat)(vs:List Value):Array Value:=(cs.toList.take j ++ vs ++ cs.toList.drop (j+vs.length)).toArray
theorem Zhl {o:Oper} {x y:Operand} {t tb:TypeId} {i b j k:Nat} {cs cs':Array Value} {v:Value} {vs:List Value} {w0:World} {M0:Nat→Prop} (ho:o.op= .store t x y) (hd:o.dst=none)
  (hx:ev env x=some (.pointer (some ⟨b,j,none⟩))) (hy:ev env y=some v) (hH:lk H i=some (box b tb cs)) (hi0:i≠0) (hv:v.cells=vs.toArray) (hk:∀w,(sizeOf t).run P w= .ok k w) (hlen:vs.length=k)
  (hfit:j+vs.length≤cs.size) (h1:∀u∈vs,One N sc env H u) (hset:Hu cs j vs=cs')
  (h0:lk H 0=some (Xm w0 M0)) (hw:∀b,w0.heap.size≤b→sc b) (hM:M b) :
  T P N sc M o env H (G:=Unit) (fun _=>True) (fun _=>env) (fun _=>(i,box b tb cs') :: H):=fun a w hs K Q hK=>by
 subst hset
 have hb:w.heap[b]? = some (.cells cs tb (0,0)):=hs.hold i _ hH
 have hst:=run_storeCells_at P b j tb vs 0 cs w hb (by simpa using hfit) (fun u hu=>h1 u hu a w hs)
 simp only [Nat.add_zero]at hst
 have hr:(execOp a.eval o).run P w= .ok .skip (w.setRow b (Hu cs j vs)):=by
  simp [execOp,ho,hs.ev hx,hs.ev hy,Instr.storeAt,Instr.sureAddr,storeVar,hv,hk,hlen,hst,Hu]
 unfold Oper.wp
 rw [hr]
 show K (a.put o.dst _) _
 rw [hd]
 exact hK () _ _ trivial ((hs.upd hH rfl hi0 (q:=box b tb (Hu cs j vs)) (Kx (M:=fun k=>k=b) _ rfl) (setRow_heap w b cs _ tb _ hb) (fun k hk=> .inl hk) h0 hw).put_none undef) (Kx _ hM)
theorem t_bs {α:Type} {o:Oper} {t e:TypeId} {k n:Nat} {parts:Array (Nat×Operand)} {d i:Nat} {cs:Array Value} {w0:World} {M0:Nat→Prop} {enc:α→Value} (xs:List α)
  (ho:o.op= .buildSlice t n parts) (hd:o.dst=some d) (hN:Nat.blt d N=true)
  (hr:∀a w,Sat N sc env H a w→(Instr.buildSlice t n (parts.map fun(i,x)=>(i,a.eval x))).run P w= .ok (.slice (some ⟨w.heap.size,0,none⟩) n n) (w.alloc (.cells cs e)))
  (hcs:cs.toList=cellsOf enc xs) (hn:xs.length=n) (hk:∀x,(enc x).cells.size=k) (hm:n≤maxLen)
  (h0:lk H 0=some (Xm w0 M0)) (hw:∀b,w0.heap.size≤b→sc b) :
  T P N sc M o env H (G:=Nat) (fun _=>True) (fun b=>(d,.slice (some ⟨b,0,none⟩) n n) :: env) (fun b=>(i,Oa k e enc (.slice (some ⟨b,0,none⟩) n n) xs) :: H):=fun a w hs K Q hK=>by
 have hr':(execOp a.eval o).run P w= .ok (.value (.slice (some ⟨w.heap.size,0,none⟩) n n)) (w.alloc (.cells cs e)):=by
  simp only [execOp,ho]
  rw [show(do pure (.value (←Instr.buildSlice t n (parts.map fun(i,x)=>(i,a.eval x)))):Sem Next)=(Instr.buildSlice t n (parts.map fun(i,x)=>(i,a.eval x)) >>= fun v=>pure (.value v))from rfl]
  rw [Sem.run_bind,hr a w hs];rfl
 have hlen:=Xe hk xs
 have hsz:cs.size=n*k:=by rw [←Array.length_toList,hcs,hlen,hn]
 unfold Oper.wp
 rw [hr']
 show K (a.put o.dst _) _
 rw [hd]
 refine hK w.heap.size _ _ trivial ((hs.new h0 hw i (Oa k e enc (.slice (some ⟨w.heap.size,0,none⟩) n n) xs) (.cells cs e) ?_ (fun b hb=>by simp [Oa,Value.ownBlock]at hb;exact hb.symm)).put d _ hN) (Chg.alloc _ _ _)
 refine⟨by rw [hlen],.inr ⟨w.heap.size,n,cs,by rw [hn],Nat.zero_le _,heap_alloc_new w _,O,hm,hsz,?_⟩⟩
 rw [hn,←hcs,List.take_of_length_le (by rw [Array.length_toList,hsz];exact Nat.le_refl _)]
theorem Zfg{α:Type}{enc:α→Value}{k:Nat}(hk:∀x,(enc x).cells.size=k)(hp:0<k)(z0:α)(n:Nat):(madeCells (enc z0).cells (n*k)).toList=cellsOf enc (List.replicate n z0):=by
 apply List.ext_getElem?
 intro j
 by_cases hj:j<n*k
 ·have hq:j/k<n:=Nat.div_lt_of_lt_mul (by rw [Nat.mul_comm];exact hj)
  have hrem:j%k<k:=Nat.mod_lt _ hp
  have hget:(List.replicate n z0)[j/k]? = some z0:=by simp [hq]
  have hu:(enc z0).cells.toList[j%k]? = some ((enc z0).cells[j%k]!):=by
   have:j%k<(enc z0).cells.size:=by rw [hk];exact hrem
   rw [getElem!_pos (enc z0).cells (j%k) this]
   simp [this]
  have h1:=Ie hk (List.replicate n z0) (j/k) z0 hget (j%k) _ hu
  rw [show j/k*k+j%k=j from by rw [Nat.mul_comm];exact Nat.div_add_mod j k]at h1
  rw [h1]
  simp [madeCells,hj,hk]
 ·rw [List.getElem?_eq_none (by rw [Array.length_toList,size_madeCells];omega),List.getElem?_eq_none (by rw [Xe hk];simp;omega)]
theorem t_mk {α:Type} {o:Oper} {t e:TypeId} {k:Nat} {x y:Operand} {d i n by_:Nat} {m:Int} {w0:World} {M0:Nat→Prop} {enc:α→Value} {ti:TypeInfo} (z0:α)
  (ho:o.op= .makeSlice t x y) (hd:o.dst=some d) (hN:Nat.blt d N=true) (hx:ev env x=some (.int .i64 m)) (hy:ev env y=some (.int .i64 m)) (hm:m=(n:Int))
  (ht:P.underlying t=some (.slice e)) (hi:P.info? e=some ti) (hz:ti.zero=some (enc z0)) (hk:∀x,(enc x).cells.size=k) (hpos:0<k) (hks:ti.size=k) (hby:ti.bytes=by_)
  (hb:by_*n≤281474976710656) (hby1:0<by_)
  (h0:lk H 0=some (Xm w0 M0)) (hw:∀b,w0.heap.size≤b→sc b) :
  T P N sc M o env H (G:=Nat) (fun _=>True) (fun b=>(d,.slice (some ⟨b,0,none⟩) n n) :: env) (fun b=>(i,Oa k e enc (.slice (some ⟨b,0,none⟩) n n) (List.replicate n z0)) :: H):=fun a w hs K Q hK=>by
 subst hm;subst hks;subst hby
 have hn:n≤281474976710656:=Nat.le_trans (Nat.le_mul_of_pos_left n hby1) hb
 have hr0:=run_make (P:=P) w t e ti (enc z0) ht hi hz .i64 .i64 n n O (Int.le_refl _) (by rw [←Int.natCast_mul];omega) O
 simp only [Int.toNat_natCast]at hr0
 have hr:(execOp a.eval o).run P w= .ok (.value (.slice (some ⟨w.heap.size,0,none⟩) n n)) (w.alloc (.cells (madeCells (enc z0).cells (n*ti.size)) e)):=by
  simp [execOp,ho,hs.ev hx,hs.ev hy,hr0]
 unfold Oper.wp
 rw [hr]
 show K (a.put o.dst _) _
 rw [hd]
 refine hK w.heap.size _ _ trivial ((hs.new h0 hw i (Oa ti.size e enc (.slice (some ⟨w.heap.size,0,none⟩) n n) (List.replicate n z0)) _ ?_ (fun b hb=>by simp [Oa,Value.ownBlock]at hb;exact hb.symm)).put d _ hN) (Chg.alloc _ _ _)
 have hl:=Xe hk (List.replicate n z0)
 refine⟨by rw [hl],.inr ⟨w.heap.size,n,_,O7,Nat.zero_le _,heap_alloc_new w _,O7,by simp [maxLen];omega,by rw [size_madeCells],?_⟩⟩
 rw [Zfg hk hpos,List.take_of_length_le (by rw [hl];exact Nat.le_refl _)]
theorem Zbb{α:Type}{enc:α→Value}{k:Nat}(hk:∀x,(enc x).cells.size=k):∀(xs:List α) (i:Nat) (x:α),i<xs.length→
  cellsOf enc (xs.set i x)=(cellsOf enc xs).take (i*k) ++ (enc x).cells.toList ++ (cellsOf enc xs).drop (i*k+k)
 | [],_,_,h=>by simp at h
 | y :: r,0,x,_=>by
  simp only [List.set_cons_zero,cellsOf,List.flatMap_cons,Nat.zero_mul,List.take_zero,List.nil_append,Nat.zero_add]
  rw [List.drop_append_of_le_length (by simp [hk])]
  rw [List.drop_of_length_le (by simp [hk])]
  simp
 | y :: r,i+1,x,h=>by
  have ih:=Zbb hk r i x (by simpa using h)
  simp only [cellsOf,List.set_cons_succ,List.flatMap_cons]at ih ⊢
  rw [ih]
  have hy:(enc y).cells.toList.length=k:=by simp [hk]
  rw [show(i+1)*k=(enc y).cells.toList.length+i*k from by rw [hy,Nat.add_mul];omega]
  rw [List.take_length_add_append,Nat.add_assoc,List.drop_length_add_append]
  simp
theorem Mw {α:Type} {o:Oper} {x y:Operand} {t e:TypeId} {i j k:Nat} {v u:Value} {enc:α→Value} {xs:List α} (z:α) {w0:World} {M0:Nat→Prop} (ho:o.op= .store t x y) (hd:o.dst=none)
  (hx:ev env x=some (.pointer (some (ead v j k)))) (hy:ev env y=some u) (hu:u=enc z) (hH:lk H i=some (Oa k e enc v xs)) (he:Enc P t k enc) 
  (h0:lk H 0=some (Xm w0 M0)) (hw:∀b,w0.heap.size≤b→sc b) (hi0:i≠0:=by decide) (hlt:j<xs.length:=by omega) :
  T P N sc (fun _=>True) o env H (G:=Unit) (fun _=>True) (fun _=>env) (fun _=>(i,Oa k e enc v (xs.set j z)) :: H):=fun a w hs K Q hK=>by
 subst hu
 have hrow:w.ownsRow 0 e k v xs.length (cellsOf enc xs):=hs.hold i _ hH
 have hpos:=he.pos
 rcases hrow.2 with⟨rfl,hn⟩ | ⟨g,cap,cur,rfl,hb,hg,hnc,hcm,hcs,htake⟩
 ·omega
 ·have hjk:j*k+k≤xs.length*k:=by rw [←Nat.succ_mul];exact Nat.mul_le_mul_right k hlt
  have hck:xs.length*k≤cap*k:=Nat.mul_le_mul_right k hnc
  have hlen:(enc z).cells.toList.length=k:=by simp [he.cells]
  have hst:=run_storeCells_at P g (j*k) e (enc z).cells.toList 0 cur w hg (by rw [hlen,hcs];omega) (he.one z)
  simp only [Nat.add_zero,hlen]at hst
  have hr:(execOp a.eval o).run P w= .ok .skip (w.setRow g (cur.toList.take (j*k) ++ (enc z).cells.toList ++ cur.toList.drop (j*k+k)).toArray):=by
   simp [execOp,ho,hs.ev hx,hs.ev hy,Instr.storeAt,Instr.sureAddr,storeVar,he.cells,he.size,ead,Pq,hst]
  unfold Oper.wp
  rw [hr]
  show K (a.put o.dst _) _
  rw [hd]
  refine hK () _ _ trivial ((hs.upd hH rfl hi0 (q:=Oa k e enc (.slice (some ⟨g,0,none⟩) xs.length cap) (xs.set j z)) (Kx (M:=fun k=>(Value.slice (some ⟨g,0,none⟩) xs.length cap).ownBlock=some k) _ rfl) ?_ (fun k hk=> .inl hk) h0 hw).put_none undef) (Kx _ trivial)
  have hcur:cur.toList.length=cap*k:=by rw [Array.length_toList,hcs]
  refine⟨by rw [Xe he.cells],.inr ⟨g,cap,_,O7,hb,setRow_heap w g cur _ e _ hg,by simpa using hnc,hcm,?_,?_⟩⟩
  ·simp only [List.size_toArray,List.length_append,List.length_take,List.length_drop,hlen,hcur]
   omega
  ·rw [Zbb he.cells xs j z hlt,←htake]
   simp only [List.length_set]
   apply List.ext_getElem?
   intro q
   have hl1:(cur.toList.take (j*k)).length=j*k:=by rw [List.length_take,hcur];omega
   by_cases h1:q<j*k
   ·rw [List.getElem?_take,if_pos O]
    rw [List.append_assoc,List.getElem?_append_left (by rw [hl1];exact h1),List.append_assoc,List.getElem?_append_left (by rw [List.length_take,List.length_take,hcur];omega)]
    rw [List.getElem?_take,List.getElem?_take,List.getElem?_take,if_pos h1,if_pos h1,if_pos O]
   ·by_cases h2:q<j*k+k
    ·rw [List.getElem?_take,if_pos O]
     rw [List.append_assoc,List.getElem?_append_right (by rw [hl1];omega),hl1,List.getElem?_append_left (by rw [hlen];omega)]
     rw [List.append_assoc,List.getElem?_append_right (by rw [List.length_take,List.length_take,hcur];omega)]
     rw [List.getElem?_append_left (by rw [hlen,List.length_take,List.length_take,hcur];omega)]
     congr 1
     rw [List.length_take,List.length_take,hcur];omega
    ·by_cases h3:q<xs.length*k
     ·rw [List.getElem?_take,if_pos h3]
      rw [List.getElem?_append_right (by rw [List.length_append,hl1,hlen];omega),List.length_append,hl1,hlen,List.getElem?_drop]
      rw [List.getElem?_append_right (by rw [List.length_append,List.length_take,List.length_take,hcur,hlen];omega),List.getElem?_drop,List.getElem?_take]
      rw [List.length_append,List.length_take,List.length_take,hcur,hlen,if_pos O]
      congr 1
      omega
     ·rw [List.getElem?_take,if_neg h3]
      rw [List.getElem?_eq_none]
      simp only [List.length_append,List.length_take,List.length_drop,hlen,hcur]
      omega
end Go.Sky
namespace Go.Sky
open Go.RowKit (Below)
variable {P:Program} {N:Nat} {sc:Nat→Prop} {env env':Qw} {H H':Hp} {Q Q':Exit→Act→World→Prop} {M:Nat→Prop}
theorem Zce {w:World} (t ty e:TypeId) (ti:TypeInfo) (z:Value) (size by_:Nat) (ht:P.underlying t=some (.slice e)) (hi:P.info? e=some ti) (hz:ti.zero=some z)
    (hsize:ti.size=size) (hby:ti.bytes=by_) (hzs:z.cells.size=size) (hsz:0<size)
    (v:Value) (n:Nat) (xs:List Value) (hown:w.ownsRow 0 e size v n xs)
    (a:Addr) (m c:Nat) (news:List Value) (hl:news.length=m*size) (hnews:∀j u,news[j]? = some u→w.cell? (a.add j)=some u) (h1:∀u∈news,u.oneCell'=true)
    (h63:n+m≤maxLen) (hbytes:(n+m)*by_≤140737488355328) :
    ∃v' w',(Builtin.append_ #[t,t] ty #[v,.slice (some a) m c]).run P w= .ok v' w'∧w'.ownsRow 0 e size v' (n+m) (xs ++ news)∧w.grownBy w' v.ownBlock∧
      (∀b,v'.ownBlock=some b→v.ownBlock=some b∨w.heap.size≤b):=by
  subst hsize;subst hby
  have hsmall:n+m≤9223372036854775807:=by simp only [maxLen]at h63;omega
  have hlen:(xs ++ news).length=(n+m)*ti.size:=by rw [List.length_append,hown.1,hl,Nat.add_mul]
  have grown:∀(old:Nat),old<n+m→∀(row:Option Nat),
      (w.drew.alloc (.cells (xs.toArray ++ news.toArray ++ Builtin.zeroCells z.cells (grownCap w (n+m) old e-(n+m))) e)).ownsRow 0 e ti.size
        (.slice (some ⟨w.heap.size,0,none⟩) (n+m) (grownCap w (n+m) old e)) (n+m) (xs ++ news)∧
      w.grownBy (w.drew.alloc (.cells (xs.toArray ++ news.toArray ++ Builtin.zeroCells z.cells (grownCap w (n+m) old e-(n+m))) e)) row:=by
    intro old ho row
    have hge:=grownCap_ge w (n+m) old e
    have hcm:grownCap w (n+m) old e≤maxLen:=grownCap_le_maxLen w (n+m) old e h63
    refine⟨⟨hlen,.inr ⟨w.heap.size,_,_,rfl,Nat.zero_le _,heap_alloc_new w.drew _,hge,hcm,?_,?_⟩⟩,⟨rfl,rfl,rfl,O7,fun k hk _=>heap_alloc_old w.drew _ k hk⟩⟩
    · simp only [Array.size_append,List.size_toArray,size_zeroCells,hzs,hown.1,hl,←Nat.add_mul]
      congr 1
      omega
    · simp only [Array.toList_append,List.append_assoc]
      rw [←List.append_assoc,←hlen]
      exact List.take_left
  rcases hown.2 with⟨rfl,rfl⟩ | ⟨g,cap,cur,rfl,hbg,hg,hnc,hcm,hcs,htake⟩
  · have hx:xs=[]:=List.eq_nil_of_length_eq_zero (by simpa using hown.1)
    subst hx
    by_cases hm:m=0
    · subst hm
      have hn:news=[]:=List.eq_nil_of_length_eq_zero (by simpa using hl)
      subst hn
      refine⟨.slice none 0 0,w,?_,World.ownsRow_nil w 0 e ti.size,⟨rfl,rfl,rfl,Nat.le_refl _,fun _ _ _=>rfl⟩,fun b hb=>by simp [Value.ownBlock]at hb⟩
      simp [Builtin.append_,run_underlying ht,sizeOf,typeInfo,hi,Builtin.lenOf,Builtin.firstCells,loadCells,loadCellsFrom]
    · have hr:=run_append_nil (P:=P) w t ty e ti z ht hi hz a m c news hl hnews O O (by have hb:=hbytes;simp only [Nat.zero_add]at hb;omega)
      have hgr:=grown 0 O (Value.ownBlock (.slice none 0 0))
      simp only [Nat.zero_add,List.nil_append,Array.empty_append]at hgr ⊢
      refine⟨_,_,hr,hgr.1,hgr.2,fun b hb=> .inr ?_⟩
      simp [Value.ownBlock]at hb;omega
  · by_cases hroom:n+m≤cap
    · have hfit:n*ti.size+news.length≤cur.size:=by rw [hl,hcs,←Nat.add_mul];exact Nat.mul_le_mul_right _ hroom
      have hr:=run_append_room (P:=P) w t ty e ti ht hi g n cap cur hg a m c news hl hnews h1 hroom hfit
      refine⟨_,_,hr,⟨hlen,.inr ⟨g,cap,_,rfl,hbg,setRow_heap w g cur _ e _ hg,hroom,hcm,?_,?_⟩⟩,⟨rfl,rfl,rfl,O7,fun k _ hk=>setRow_other w g k _ (fun e=>hk (by simp [Value.ownBlock,e]))⟩,fun b hb=> .inl (by simpa [Value.ownBlock]using hb)⟩
      · simp only [List.size_toArray,List.length_append,List.length_take,List.length_drop,Array.length_toList]
        omega
      · rw [htake,←hlen]
        exact List.take_left
    · have holds:∀j u,xs[j]? = some u→w.cell? ((⟨g,0,none⟩:Addr).add j)=some u:=hown.cells (g:=g) rfl
      have hr:=run_append_grow (P:=P) w t ty e ti z ht hi hz ⟨g,0,none⟩ n cap xs hown.1 holds a m c news hl hnews O O (growslice_fits O hbytes)
      have hgr:=grown cap O (Value.ownBlock (.slice (some ⟨g,0,none⟩) n cap))
      refine⟨_,_,hr,hgr.1,hgr.2,fun b hb=> .inr ?_⟩
      simp [Value.ownBlock]at hb;omega
theorem Lz{α:Type}(enc:α→Value)(xs ys:List α):cellsOf enc (xs ++ ys)=cellsOf enc xs ++ cellsOf enc ys:=by simp [cellsOf]
theorem t_app {α:Type} {o:Oper} {x y:Operand} {t e:TypeId} {i i2 j k by_ d:Nat} {v u:Value} {enc:α→Value} {xs ys:List α} {p:Pc} {ti:TypeInfo} {z:Value} {w0:World} {M0:Nat→Prop}
    (ho:o.op= .call { callee:= .builtin .append,args:=#[x,y],argTypes:=#[t,t] }) (hd:o.dst=some d) (hN:Nat.blt d N=true)
    (hx:ev env x=some v) (hy:ev env y=some u) (hH:lk H i=some (Oa k e enc v xs)) (hi0:i≠0) (hj:lk H j=some p) (hr:Rd p k enc u ys) (hys:ys≠[])
    (ht:P.underlying t=some (.slice e)) (hi:P.info? e=some ti) (hz:ti.zero=some z) (he:Enc P e k enc) (hks:ti.size=k) (hby:ti.bytes=by_) (hzs:z.cells.size=k)
    (hb:(xs.length+ys.length)*by_≤140737488355328) (hby1:0<by_)
    (h0:lk H 0=some (Xm w0 M0)) (hw:∀b,w0.heap.size≤b→sc b) :
    T P N sc (fun _=>True) o env H (G:=Value) (fun _=>True) (fun v'=>(d,v') :: env) (fun v'=>(i,Oa k e enc v' (xs ++ ys)) :: H):=fun a w hs K Q hK=>by
  have hrow:w.ownsRow 0 e k v xs.length (cellsOf enc xs):=hs.hold i _ hH
  obtain⟨ad,c,rfl,h1,h2,h3⟩:=hr w (hs.hold j p hj)
  rcases h3 with rfl | ⟨g,off,rfl,h3⟩
  · exact absurd rfl hys
  have hyc:∀q u,(cellsOf enc ys)[q]? = some u→w.cell? ((⟨g,off,none⟩:Addr).add q)=some u:=fun q u hq=>by
    have hlt:q<ys.length*k:=by rw [←Xe he.cells ys];exact(List.getElem?_eq_some_iff.1 hq).1
    have hpos:=he.pos
    have hd1:q/k<ys.length:=Nat.div_lt_of_lt_mul (by rw [Nat.mul_comm];exact hlt)
    have hget:ys[q/k]? = some ys[q/k]:=List.getElem?_eq_getElem hd1
    have hq2:q%k<(enc ys[q/k]).cells.toList.length:=by rw [Array.length_toList,he.cells];exact Nat.mod_lt _ hpos
    have hu:=List.getElem?_eq_getElem hq2
    have h4:=Ie he.cells ys _ _ hget _ _ hu
    have h5:=h3 _ _ hget _ _ hu
    have hqq:q/k*k+q%k=q:=by rw [Nat.mul_comm];exact Nat.div_add_mod q k
    rw [hqq]at h4
    rw [Nat.add_assoc,hqq]at h5
    rw [hq]at h4
    cases h4
    rw [Pq]
    exact h5
  have hone:∀u∈cellsOf enc ys,u.oneCell'=true:=fun u hu=>by
    obtain⟨y,_,hy⟩:=List.mem_flatMap.1 hu
    exact he.one y u hy
  have hle:xs.length+ys.length≤140737488355328:=Nat.le_trans (Nat.le_mul_of_pos_right _ hby1) hb
  obtain⟨v',w',hrun,ho',hg',hb'⟩:=Zce (P:=P) t o.type e ti z k by_ ht hi hz hks hby hzs he.pos v xs.length (cellsOf enc xs) hrow ⟨g,off,none⟩ ys.length c (cellsOf enc ys)
    (Xe he.cells ys) hyc hone (by simp only [maxLen];omega) hb
  have hr2:(execOp a.eval o).run P w= .ok (.value v') w':=by
    simp only [execOp,ho,resolve,invoke,builtin,Sem.run_bind,Sem.run_pure,Result.andThen_ok,List.map_toArray,List.map_cons,List.map_nil,hs.ev hx,hs.ev hy,hrun]
  unfold Oper.wp
  rw [hr2]
  show K (a.put o.dst _) _
  rw [hd]
  have hchg:Chg (fun b=>v.ownBlock=some b) w w':=⟨hg'.os,hg'.tape,hg'.output,hg'.size,fun b hb hn=>hg'.block b hb (fun e=>hn e.symm)⟩
  refine hK v' _ _ trivial ((hs.upd hH rfl hi0 (q:=Oa k e enc v' (xs ++ ys)) hchg ?_ (fun b hb=>hb' b hb) h0 hw).put d _ hN) ⟨hg'.os,hg'.tape,hg'.output,hg'.size,fun b hb hn=>absurd trivial hn⟩
  show w'.ownsRow 0 e k v' (xs ++ ys).length (cellsOf enc (xs ++ ys))
  rw [Lz,List.length_append]
  exact ho'
def Cal(P:Program)(f:FuncId)(args:Array Value)(pre:List Pc)(al:Bool){G:Type}(φ:G→Prop)(Ye:G→Value)(its:G→List Pc):Prop:=
  ∀w,(∀p∈pre,p.holds w)→Calls P f args w fun e w'=>∃g,e= .returned (Ye g)∧φ g∧Below w.heap.size w w'∧
    ∀p∈its g,p.holds w'∧p.own=false∧∀b,p.fp b→w.heap.size≤b∨(al=true∧∃q∈pre,q.fp b)
@[reducible] def adds:Nat→List Pc→Hp→Hp
  | _,[],H=>H
  | n,p :: r,H=>(n,p) :: adds (n+1) r H
def PreOk(H:Hp)(al:Bool):List Pc→Prop
  | []=>True
  | p :: r=>(∃i it,i≠0∧lk H i=some it∧(∀w,it.holds w→p.holds w)∧(∀b,p.fp b→it.fp b)∧(al=true→it.own=false))∧PreOk H al r
theorem PreOk.mem{al:Bool} : ∀{pre:List Pc},PreOk H al pre→∀p∈pre,∃i it,i≠0∧lk H i=some it∧(∀w,it.holds w→p.holds w)∧(∀b,p.fp b→it.fp b)∧(al=true→it.own=false)
  | p :: r,h,q,hq=>by
    cases hq with
    | head=>exact h.1
    | tail _ hq=>exact PreOk.mem h.2 q hq
theorem Ya{al:Bool} : PreOk H al []:=trivial
theorem Yd{al:Bool}{p:Pc}{r:List Pc}(i:Nat)(hi:lk H i=some p)(hi0:Nat.beq i 0=false)(ho:p.own=false)(h:PreOk H al r):PreOk H al (p :: r):=
  ⟨⟨i,p,fun e=>by subst e;simp at hi0,hi,fun _ h=>h,fun _ h=>h,fun _=>ho⟩,h⟩
theorem Ya5{α:Type}{t:TypeId}{k:Nat}{e:TypeId}{enc:α→Value}{v:Value}{xs:List α}{r:List Pc}(i:Nat)(hi:lk H i=some (Oa k e enc v xs))(hi0:Nat.beq i 0=false)(he:Enc P t k enc)(h:PreOk H false r):PreOk H false (Yh k enc v xs :: r):=
  ⟨⟨i,_,fun e=>by subst e;simp at hi0,hi,fun w h=>⟨Dt he.cells h,fun b hb=>(h.lt b hb.2).2⟩,fun _ h=>h.2,fun h=>by cases h⟩,h⟩
theorem Sat.adds{a:Act}{w:World}{w1:World} : ∀(l:List Pc) (n:Nat) {H:Hp},Sat N sc env H a w→(∀p∈l,p.holds w∧p.own=false∧(∀b,p.fp b→sc b)∧
    ∀j jt,lk H j=some jt→jt.own=true→∀b,p.fp b→jt.fp b→False)→Sat N sc env (adds n l H) a w
  | [],_,_,h,_=>h
  | p :: r,n,H,h,hl=>by
    have ih:=Sat.adds (w1:=w1) r (n+1) h (fun q hq=>hl q (List.mem_cons_of_mem _ hq))
    obtain⟨h1,h2,h3,h4⟩:=hl p (List.mem_cons_self ..)
    have key:∀(l:List Pc) (m:Nat) (H:Hp) (j:Nat) (jt:Pc),(∀q∈l,q.own=false)→lk (Sky.adds m l H) j=some jt→jt.own=true→lk H j=some jt:=by
      intro l
      induction l with
      | nil=>intro m H j jt _ h _;exact h
      | cons q l ih=>
        intro m H j jt hq h ho
        by_cases hm:m=j
        · subst hm
          simp only [Sky.adds]at h
          rw [Yb]at h
          cases h
          rw [hq q (List.mem_cons_self ..)]at ho;cases ho
        · simp only [Sky.adds]at h
          rw [Zl _ _ hm]at h
          exact ih (m+1) H j jt (fun q hq'=>hq q (List.mem_cons_of_mem _ hq')) h ho
    refine ih.add n p h1 (fun j jt _ hj Ka b hb hb'=>?_) h3
    rcases Ka with Ka | Ka
    · rw [h2]at Ka;cases Ka
    · exact h4 j jt (key r (n+1) H j jt (fun q hq=>(hl q (List.mem_cons_of_mem _ hq)).2.1) hj Ka) Ka b hb hb'
def evs(e:Qw):List Operand→Option (List Value)
  | []=>some []
  | x :: r=>match ev e x,evs e r with
    | some v,some vs=>some (v :: vs)
    | _,_=>none
def EvL(e:Qw):List Operand→List Value→Prop
  | [],[]=>True
  | x :: r,v :: vs=>ev e x=some v∧EvL e r vs
  | _,_=>False
theorem EvL.map{a:Act}{w:World}(h:Sat N sc env H a w):∀{xs:List Operand} {vs:List Value},EvL env xs vs→xs.map a.eval=vs
  | [],[],_=>rfl
  | x :: r,v :: vs,hh=>by simp only [List.map_cons,h.ev hh.1,EvL.map h hh.2]
  | [],_ :: _,hh=>hh.elim
  | _ :: _,[],hh=>hh.elim
theorem Ov {o:Oper} {f:FuncId} {xs:List Operand} {ats:Array TypeId} {d n:Nat} {vs:List Value} {pre:List Pc} {al:Bool} {G:Type} {φ:G→Prop} {Ye:G→Value} {its:G→List Pc} {w0:World} {M0:Nat→Prop}
    (hc:Cal P f vs.toArray pre al φ Ye its)
    (ho:o.op= .call { callee:= .value (.func f),args:=xs.toArray,argTypes:=ats }) (hd:o.dst=some d) (hN:Nat.blt d N=true)
    (hargs:EvL env xs vs) (hcall:∀args w,(callFunc f args).run P w= .ok (.enter f args) w) (hpre:PreOk H al pre)
    (h0:lk H 0=some (Xm w0 M0)) (hw:∀b,w0.heap.size≤b→sc b) :
    T P N sc M o env H φ (fun g=>(d,Ye g) :: env) (fun g=>adds n (its g) H):=fun a w hs K Q hK=>by
  have hr:(execOp a.eval o).run P w= .ok (.enter f vs.toArray) w:=by
    have hm:=hargs.map hs
    simp [execOp,ho,resolve,invoke,Act.eval,Deferred.ofValue,hm,hcall]
  unfold Oper.wp
  rw [hr]
  refine(hc w (fun p hp=>by
    obtain⟨i,it,_,hi,himp,_,_⟩:=hpre.mem p hp
    exact himp w (hs.hold i it hi))).mono ?_
  rintro e w' ⟨g,rfl,hg,hbel,hits⟩
  show K (a.put o.dst (Ye g)) w'
  rw [hd]
  have hs':Sat N sc env H a w':=hs.chg0 (Chg.of_below hbel)
  refine hK g _ _ hg (Sat.put (hs'.adds (w1:=w) (its g) n ?_) d _ hN) (Chg.of_below hbel)
  intro p hp
  obtain⟨h1,h2,h3⟩:=hits p hp
  refine⟨h1,h2,fun b hb=>?_,fun j jt hj hown b hb hb'=>?_⟩
  · rcases h3 b hb with h | ⟨_,q,hq,hqb⟩
    · exact hw b (Nat.le_trans (hs.hold 0 _ h0).size h)
    · obtain⟨i,it,hi0,hi,_,hfp,_⟩:=hpre.mem q hq
      exact hs.scope i it hi0 hi b (hfp b hqb)
  · rcases h3 b hb with h | ⟨hal,q,hq,hqb⟩
    · have:=jt.lt w b (hs.hold j jt hj) hb';omega
    · obtain⟨i,it,hi0,hi,_,hfp,hno⟩:=hpre.mem q hq
      by_cases hij:j=i
      · subst hij;rw [hi]at hj;cases hj;rw [hno hal]at hown;cases hown
      · exact hs.sep j i jt it hij hj hi hown b hb' (hfp b hqb)
def RV(P:Program)(N:Nat)(sc:Nat→Prop)(env:Qw)(H:Hp)(r:ResultVar)(v:Value):Prop:=
  match r with
  | .tmp t=>lk env t=some v
  | .cell c t=>∃ad,lk env c=some (.pointer (some ad))∧∀a w,Sat N sc env H a w→(loadVar t ad).run P w= .ok v w
theorem Gf {c:Tmp} {t tb:TypeId} {i b k:Nat} {vs:List Value} (hc:lk env c=some (.pointer (some ⟨b,0,none⟩))) (hH:lk H i=some (box b tb vs.toArray)) (ht:∀w,(isAgg t).run P w= .ok true w) (hk:∀w,(sizeOf t).run P w= .ok k w)
    (hl:vs.length=k):RV P N sc env H (.cell c t) (.agg vs.toArray):=⟨_,hc,fun a w hs=>by
  have hr:=run_loadCells_list (P:=P) w ⟨b,0,none⟩ vs (fun n u hu=>by rw [Pq,hs.boxc hH];simpa using hu)
  rw [hl]at hr
  simp [loadVar,ht,hk,hr]⟩
theorem Yam{c:Tmp}{t tb:TypeId}{i b:Nat}{v:Value}(hc:lk env c=some (.pointer (some ⟨b,0,none⟩)))(hH:lk H i=some (box b tb #[v]))(ht:∀w,(isAgg t).run P w= .ok false w) :
    RV P N sc env H (.cell c t) v:=⟨_,hc,fun a w hs=>by
  have h:=hs.boxc hH 0
  simp at h
  simp [loadVar,ht,load,Sem.run,h]⟩
theorem Zb6{a:Act}{w:World}{fn:Func}{r1:ResultVar}{v1:Value}(hs:Sat N sc env H a w)(hf:fn.results=#[r1])(h1:RV P N sc env H r1 v1):(results fn a.tmps).run P w= .ok v1 w:=by
  cases r1 with
  | tmp t=>have:=hs.env t v1 h1;rw [Array.getD_eq_getD_getElem?]at this;simp [results,hf,this]
  | cell c t=>obtain⟨ad,h2,h3⟩:=h1;have:=hs.env c _ h2;rw [Array.getD_eq_getD_getElem?]at this;simp [results,hf,this,asAddr,h3 a w hs]
theorem Zxp{a:Act}{w:World}{fn:Func}{r1 r2:ResultVar}{v1 v2:Value}(hs:Sat N sc env H a w)(hf:fn.results=#[r1,r2])(h1:RV P N sc env H r1 v1)(h2:RV P N sc env H r2 v2) :
    (results fn a.tmps).run P w= .ok (.tuple #[v1,v2]) w:=by
  cases r1 with
  | tmp t=>
    have h1:=hs.env t v1 h1;rw [Array.getD_eq_getD_getElem?]at h1
    cases r2 with
    | tmp t'=>have h2:=hs.env t' v2 h2;rw [Array.getD_eq_getD_getElem?]at h2;simp [results,hf,h1,h2]
    | cell c' t'=>obtain⟨ad,h3,h4⟩:=h2;have h3:=hs.env c' _ h3;rw [Array.getD_eq_getD_getElem?]at h3;simp [results,hf,h1,h3,asAddr,h4 a w hs]
  | cell c t=>
    obtain⟨ad1,h5,h6⟩:=h1;have h5:=hs.env c _ h5;rw [Array.getD_eq_getD_getElem?]at h5
    cases r2 with
    | tmp t'=>have h2:=hs.env t' v2 h2;rw [Array.getD_eq_getD_getElem?]at h2;simp [results,hf,h5,asAddr,h6 a w hs,h2]
    | cell c' t'=>obtain⟨ad,h3,h4⟩:=h2;have h3:=hs.env c' _ h3;rw [Array.getD_eq_getD_getElem?]at h3;simp [results,hf,h5,asAddr,h6 a w hs,h3,h4 a w hs]
def Ygk(tmps:Array Value):ResultVar→Sem Value
  | .tmp t=>pure (tmps.getD t undef)
  | .cell c t=>do loadVar t (←asAddr (tmps.getD c undef))
theorem Zr0{a:Act}{w:World}{r:ResultVar}{v:Value}(hs:Sat N sc env H a w)(h:RV P N sc env H r v):(Ygk a.tmps r).run P w= .ok v w:=by
  cases r with
  | tmp t=>have:=hs.env t v h;simp only [Ygk,this];rfl
  | cell c t=>obtain⟨ad,h2,h3⟩:=h;have:=hs.env c _ h2;simp only [Ygk,this,asAddr,Sem.run_bind,Sem.run_pure,Result.andThen_ok,h3 a w hs]
theorem Zh3(fn:Func)(tmps:Array Value):results fn tmps=(do let vs ←fn.results.mapM (Ygk tmps);pure (if h:vs.size=1 then vs[0]else .tuple vs)):=rfl
theorem res3{a:Act}{w:World}{fn:Func}{r1 r2 r3:ResultVar}{v1 v2 v3:Value}(hs:Sat N sc env H a w)(hf:fn.results=#[r1,r2,r3])(h1:RV P N sc env H r1 v1)(h2:RV P N sc env H r2 v2)(h3:RV P N sc env H r3 v3) :
    (results fn a.tmps).run P w= .ok (.tuple #[v1,v2,v3]) w:=by
  rw [Zh3,hf]
  simp [Zr0 hs h1,Zr0 hs h2,Zr0 hs h3]
def Zbg(P:Program)(fn:Func)(w0:World)(pre:List Pc)(al:Bool){G:Type}(φ:G→Prop)(Ye:G→Value)(its:G→List Pc):Exit→Act→World→Prop:=
  bodyPost P fn fun e w' => ∃ g, e = .returned (Ye g) ∧ φ g ∧ Below w0.heap.size w0 w' ∧
        ∀p∈its g,p.holds w'∧p.own=false∧∀b,p.fp b→w0.heap.size≤b∨(al=true∧∃q∈pre,q.fp b)
theorem Zyu {f:FuncId} {fn:Func} {c:Code} {args:Array Value} {pre:List Pc} {al:Bool} {G:Type} {φ:G→Prop} {Ye:G→Value} {its:G→List Pc} {N:Nat} {env0:Qw} (preH:World→Hp)
    (hf:P.funcs[f]? = some fn) (hb:fn.body=some c) (hN:fn.ntmps=N) (hargs:∀t v,lk env0 t=some v→args[t]? = some v) (hle:args.size≤N)
    (hpre:∀w,∀i p,lk (preH w) i=some p→(i=0∧p=Xm w (fun _=>False))∨(i≠0∧p∈pre∧p.own=false))
    (h:∀w0 (sc:Nat→Prop),(∀b,w0.heap.size≤b→sc b)→(∀b,sc b→w0.heap.size≤b∨∃q∈pre,q.fp b)→
      E P N sc c (Zbg P fn w0 pre al φ Ye its) env0 (preH w0)) :
    Cal P f args pre al φ Ye its:=fun w hp=>by
  refine calls_of_wp hf hb (h w (fun b=>w.heap.size≤b∨∃q∈pre,q.fp b) (fun b hb=> .inl hb) (fun b hb=>hb) _ w ?_)
  refine⟨by simp [hN];omega,rfl,fun t v ht=>?_,fun i p hi=>?_,fun i j p q hne hi hj ho b hb hb'=>?_,fun i p hi0 hi b hb=>?_⟩
  · have h1:=hargs t v ht
    have hlt:=(Array.getElem?_eq_some_iff.1 h1).1
    rw [Array.getD_eq_getD_getElem?,Array.getElem?_append_left hlt,h1];rfl
  · rcases hpre w i p hi with⟨_,rfl⟩ | ⟨_,hm,_⟩
    · exact Chg.refl _ w
    · exact hp p hm
  · rcases hpre w i p hi with⟨_,rfl⟩ | ⟨_,hm,hown⟩
    · cases ho
    · rw [hown]at ho;cases ho
  · rcases hpre w i p hi with⟨h0,_⟩ | ⟨_,hm,_⟩
    · exact absurd h0 hi0
    · exact .inr ⟨p,hm,hb⟩
theorem Ha{w0 w:World}(h:(Xm w0 (fun _=>False)).holds w):Below w0.heap.size w0 w:=
  ⟨h.os,h.tape,h.output,h.size,fun k hk=>h.block k hk (fun h=>h)⟩
def Give(H:Hp)(al:Bool):List Pc→Prop
  | []=>True
  | p :: r=>(p.own=false∧((∃i it,i≠0∧lk H i=some it∧(∀w,it.holds w→p.holds w)∧(∀b,p.fp b→it.fp b)∧(al=false→it.own=true))∨((∀w,p.holds w)∧∀b,¬p.fp b)))∧Give H al r
theorem Give.mem{al:Bool} : ∀{l:List Pc},Give H al l→∀p∈l,p.own=false∧((∃i it,i≠0∧lk H i=some it∧(∀w,it.holds w→p.holds w)∧(∀b,p.fp b→it.fp b)∧(al=false→it.own=true))∨((∀w,p.holds w)∧∀b,¬p.fp b))
  | p :: r,h,q,hq=>by
    cases hq with
    | head=>exact h.1
    | tail _ hq=>exact Give.mem h.2 q hq
theorem Za{al:Bool} : Give H al []:=trivial
theorem Ip{p:Pc}{r:List Pc}(i:Nat)(hi:lk H i=some p)(hi0:Nat.beq i 0=false)(ho:p.own=false)(h:Give H true r):Give H true (p :: r):=
  ⟨⟨ho,.inl ⟨i,p,fun e=>by subst e;simp at hi0,hi,fun _ h=>h,fun _ h=>h,fun h=>by cases h⟩⟩,h⟩
theorem Ycq{al:Bool}{α:Type}{t:TypeId}{k:Nat}{e:TypeId}{enc:α→Value}{v:Value}{xs:List α}{r:List Pc}(i:Nat)(hi:lk H i=some (Oa k e enc v xs))(hi0:Nat.beq i 0=false)(he:Enc P t k enc)(h:Give H al r) :
    Give H al (Yh k enc v xs :: r):=
  ⟨⟨rfl,.inl ⟨i,_,fun e=>by subst e;simp at hi0,hi,fun w h=>⟨Dt he.cells h,fun b hb=>(h.lt b hb.2).2⟩,fun _ h=>h.2,fun _=>rfl⟩⟩,h⟩
theorem Zbu{α:Type}(k:Nat)(enc:α→Value)(w:World):(Yh k enc (.slice none 0 0) ([]:List α)).holds w:=⟨⟨none,0,rfl,Nat.le_refl _,O7,.inl rfl⟩,fun b hb=>by simp [Value.ownBlock]at hb⟩
theorem Ns{al:Bool}{α:Type}{k:Nat}{enc:α→Value}{xs:List α}{r:List Pc}(hx:xs=[])(h:Give H al r):Give H al (Yh k enc (.slice none 0 0) xs :: r):=by
  subst hx
  exact⟨⟨rfl,.inr ⟨fun w=>Zbu k enc w,fun b hb=>by simp [Yh,Value.ownBlock]at hb⟩⟩,h⟩
theorem Zn7 {fn:Func} {pre:List Pc} {al:Bool} {G:Type} {φ:G→Prop} {Ye:G→Value} {its:G→List Pc} {w0:World} {e:Exit} (he:e= .ret∨e= .normal) (hsc:∀b,sc b→w0.heap.size≤b∨∃q∈pre,q.fp b)
    (g:G) (v:Value) (hres:∀a w,Sat N sc env H a w→(results fn a.tmps).run P w= .ok v w) (hv:Ye g=v) (hg:φ g) (h0:lk H 0=some (Xm w0 (fun _=>False))) (hgive:Give H al (its g)) :
    X N sc e (Zbg P fn w0 pre al φ Ye its) env H:=fun a w hs=>by
  have key : a.defers = [] ∧ ∃ v, (results fn a.tmps).run P w = .ok v w ∧ (∃ g, Ending.returned v = .returned (Ye g) ∧ φ g ∧ Below w0.heap.size w0 w ∧
        ∀p∈its g,p.holds w∧p.own=false∧∀b,p.fp b→w0.heap.size≤b∨(al=true∧∃q∈pre,q.fp b)):=by
    refine⟨hs.defers,v,hres a w hs,g,by rw [hv],hg,Ha (hs.hold 0 _ h0),fun p hp=>?_⟩
    obtain⟨ho,h | ⟨h1,h2⟩⟩:=hgive.mem p hp
    case inr=>exact⟨h1 w,ho,fun b hb=>absurd hb (h2 b)⟩
    obtain⟨i,it,hi0,hi,himp,hfp,hal⟩:=h
    refine⟨himp w (hs.hold i it hi),ho,fun b hb=>?_⟩
    have hb':=hfp b hb
    cases al with
    | true=>
      rcases hsc b (hs.scope i it hi0 hi b hb')with h | h
      · exact .inl h
      · exact .inr ⟨rfl,h⟩
    | false=>
      have hown:=hal rfl
      have hn:=hs.sep i 0 it _ hi0 hi h0 hown b hb'
      refine .inl ?_
      rcases Nat.lt_or_ge b w0.heap.size with hlt | hge
      · exact absurd ⟨hlt,fun h=>h⟩ hn
      · exact hge
  rcases he with rfl | rfl
  · exact key
  · exact key
end Go.Sky

