/- rules, arithmetic and contracts: part 13
   Proved without conditions of its own: each theorem bears its own. -/
import Derived.Test.YtcmiiammekgooaaGreatSl11
import Derived.Test.YtcmiiammekgooaaGreatSl03
import Derived.Test.YtcmiiammekgooaaGreatSl02
import Derived.Test.YtcmiiammekgooaaGreatSl01
set_option linter.all false
namespace Go.Sky
theorem Zdz{p:List Int}(h:Vp p)(hz:∀i,i<p.length→bl (cf p (i+1)*((i:Int)+1)).natAbs≤65536):Vp (Pf p):=by
 refine⟨fun i=>?_,Nv h.tr,by rw [Oj];have:=h.len;omega⟩
 rw [Zdq]
 by_cases hi:i<p.length
 ·exact hz i hi
 ·rw [Qf (by omega)];simp [Le]
theorem sf_t{xs:List Int}(h:xs.length=0):Value.bool (decide (Zbz xs))= .bool true:=congrArg Value.bool (decide_eq_true (.inl h))
theorem sf_i{xs:List Int}{n:Int}(h:xs.length≠0)(hn:n=(((xs.length+2)*(xs.length+2)*(msz xs+16):Nat):Int)):Value.bool (decide (Zbz xs))= .bool (decide (n≤65536)):=congrArg Value.bool (decide_eq_decide.2 (by
 subst hn
 show(xs.length=0∨(xs.length+2)*(xs.length+2)*(msz xs+16)≤65536)↔_
 constructor
 ·intro h1;rcases h1 with h1 | h1
  ·exact absurd h1 h
  ·exact Int.ofNat_le.2 h1
 ·intro h1;exact .inr (Int.ofNat_le.1 h1)))
theorem Zqy{x y:List Int}(h:(Pk x y).length=0):Lf x y=[]:=by
 have h1:Pk x y=[]:=List.eq_nil_of_length_eq_zero h
 unfold Lf;rw [h1];split<;>rfl
theorem snext_a{x y:List Int}(hl:y.length≤x.length)(h1:(cf y (y.length-1)).sign<0)(h2:((x.length:Int)-(y.length:Int)+1)%2=1):Lf x y=Yx (Pk x y):=by
 unfold Lf;rw [if_pos ⟨(Qk _).1 h1,by omega⟩]
theorem Zq0{x y:List Int}(h1:¬(cf y (y.length-1)).sign<0):Lf x y=Xj (Yx (Pk x y)) (-1):=by
 unfold Lf;rw [if_neg (fun h=>h1 ((Qk _).2 h.1))]
theorem Zqz{x y:List Int}(hl:y.length≤x.length)(h2:¬((x.length:Int)-(y.length:Int)+1)%2=1):Lf x y=Xj (Yx (Pk x y)) (-1):=by
 unfold Lf;rw [if_neg (fun h=>h2 (by omega))]
theorem Zi0{xs:List Int}{F:Nat}(hv:Vp xs)(h0:xs≠[])(h:sqOK F xs):Vp (sqf F xs):=by
 obtain⟨_,_,_,h4,h5⟩:=h
 have hn:=Zql hv
 unfold sqf Kn
 split
 ·exact⟨Sz.nil _,Tr.nil,by simp⟩
 ·rename_i h6
  rcases h5 with h5 | h5
  ·exact absurd h5 h6
  ·have h7:=(Ar h4).2 h5.1
   refine⟨?_,Oy _,?_⟩
   ·rw [←Zbb];exact(Zqt h7 h5.2.1 _).tzl
   ·have h8:=Hu (Zkb (nrm xs) (Ku F (nrm xs) (Pf (nrm xs))) ((nrm xs).length-(Ku F (nrm xs) (Pf (nrm xs))).length+1))
    rw [Zbb,Df]at h8
    have:=hn.len
    have:=(Ar h4).1
    omega
theorem Zgf{xs:List Int}{F:Nat}(hv:Vp xs)(h:sqOK F xs):(sqf F xs).length≤xs.length:=by
 obtain⟨_,_,_,h4,h5⟩:=h
 have hl:=Pt hv.tr
 unfold sqf Kn
 split
 ·exact Nat.zero_le _
 ·rename_i h6
  rcases h5 with h5 | h5
  ·exact absurd h5 h6
  ·have h8:=Hu (Zkb (nrm xs) (Ku F (nrm xs) (Pf (nrm xs))) ((nrm xs).length-(Ku F (nrm xs) (Pf (nrm xs))).length+1))
   rw [Zbb,Df]at h8
   have:=(Ar h4).1
   have:=h5.1
   omega
theorem Zyb{L:List Int}{i:Nat}{n l s:Int}(hi:i<L.length)(h:(n,l)=(L.take i).foldl Kx (0,0))(hs:L.getD i 0=s)(h0:s=0):(n,l)=(L.take (i+1)).foldl Kx (0,0):=by
 rw [Of 0 L i hi,Bf,←h,hs];unfold Kx;rw [if_pos h0]
theorem Zya{L:List Int}{i:Nat}{n l s:Int}(hi:i<L.length)(h:(n,l)=(L.take i).foldl Kx (0,0))(hs:L.getD i 0=s)(h0:s≠0)(h1:s=-l):(n+1,s)=(L.take (i+1)).foldl Kx (0,0):=by
 rw [Of 0 L i hi,Bf,←h,hs];unfold Kx;rw [if_neg h0];dsimp only;rw [if_pos h1]
theorem Zx9{L:List Int}{i:Nat}{n l s:Int}(hi:i<L.length)(h:(n,l)=(L.take i).foldl Kx (0,0))(hs:L.getD i 0=s)(h0:s≠0)(h1:¬s=-l):(n,s)=(L.take (i+1)).foldl Kx (0,0):=by
 rw [Of 0 L i hi,Bf,←h,hs];unfold Kx;rw [if_neg h0];dsimp only;rw [if_neg h1]
theorem chg_end{L:List Int}{i:Nat}{n l:Int}(hi:L.length≤i)(h:(n,l)=(L.take i).foldl Kx (0,0)):n=chg L:=by
 rw [List.take_of_length_le hi]at h
 unfold chg;rw [←h]
theorem Zv6(z:Int):-1≤z.sign∧z.sign≤1:=by
 rcases Int.lt_trichotomy z 0 with h | h | h
 ·rw [Int.sign_eq_neg_one_of_neg h];omega
 ·subst h;simp
 ·rw [Int.sign_eq_one_of_pos h];omega
theorem Zxi{α:Type}(d:α)(f:α→Int)(ls:List α){i:Nat}(h:i<ls.length):(ls.map f).getD i 0=f (ls.getD i d):=by
 simp [List.getD_eq_getElem?_getD,h]
def sgx(ls:List (SL×List Int))(f:List Int→Int):List Int:=ls.map fun z=>f z.2
theorem Zm6(ls:List (SL×List Int))(f:List Int→Int){i:Nat}(h:i<ls.length):(sgx ls f).getD i 0=f (ls.getD i ((none,0,0),[])).2:=Zxi _ _ _ h
theorem Zgg(ls:List (SL×List Int))(f:List Int→Int):(sgx ls f).length=ls.length:=List.length_map ..
def fr(p:List Int):Int:=(cf p (p.length-1)).sign
def fl(p:List Int):Int:=if p.length%2=0 then-(cf p (p.length-1)).sign else(cf p (p.length-1)).sign
def fat(x y:Int)(p:List Int):Int:=(pev p x y).sign
theorem fat_r(x y:Int)(p:List Int):-1≤fat x y p∧fat x y p≤1:=Zv6 _
theorem Zi1:∀(f:Nat) {x y:List Int},Vp x→Vp y→cok f x y→∀p∈Mk f x y,Vp p
 | 0,x,y,hx,_,_,p,hp=>by rw [List.mem_singleton.1 hp];exact hx
 | f+1,x,y,hx,hy,h,p,hp=>by
  unfold Mk at hp
  split at hp
  ·rw [List.mem_singleton.1 hp];exact hx
  ·rcases h with h | h
   ·contradiction
   ·rcases List.mem_cons.1 hp with rfl | hp
    ·exact hx
    ·exact Zi1 f hy (Zgv hx h.1) h.2.2 p hp
theorem vp_chn{xs:List Int}{F:Nat}(hv:Vp xs)(h0:xs≠[])(hC:Zfh F xs):∀p∈chn F xs,Vp p:=by
 obtain⟨h1,h2,h3⟩:=hC
 have hq:=Zi0 hv h0 h1
 exact Zi1 F hq (Lo (Zdz hq (fun i hi=>h2 i (by have:=Zgf hv h1;omega)))) h3
def cnt(F:Nat)(xs:List Int)(x y:Int):Int:=chg ((chn F xs).map (fat x y))
def sright(F:Nat)(xs:List Int):Int:=chg ((chn F xs).map fr)
def sleft(F:Nat)(xs:List Int):Int:=chg ((chn F xs).map fl)
theorem Zq6{ls:List (SL×List Int)}{C:List (List Int)}(h:ls.map Prod.snd=C)(f:List Int→Int):sgx ls f=C.map f:=by
 rw [←h,List.map_map];rfl
theorem Xy{ls:List (SL×List Int)}{C:List (List Int)}{p:List Int→Prop}(h:ls.map Prod.snd=C)(hp:∀q∈C,p q):∀z∈ls,p z.2:=fun z hz=>hp _ (h▸List.mem_map_of_mem hz)
theorem Cs(L:List Int):0≤chg L∧chg L≤L.length:=by
 unfold chg
 suffices h:∀(l:List Int) (s:Int×Int),s.1≤(l.foldl Kx s).1∧(l.foldl Kx s).1≤s.1+l.length by
  have:=h L (0,0);simpa using this
 intro l
 induction l with
 | nil=>intro s;simp
 | cons x l ih=>
  intro s
  have h1:=ih (Kx s x)
  have h2:=chg1_n s x
  simp only [List.foldl_cons,List.length_cons]
  omega
theorem De:∀(f:Nat) (x y:List Int),(Mk f x y).length≤f+1
 | 0,x,y=>Nat.le_refl _
 | f+1,x,y=>by
  unfold Mk;split
  ·simp
  ·have:=De f y (Lf x y);simp;omega
def sm(xs:List Int)(i:Nat):Nat:=(xs.take i).foldl (fun m c=>max m c.natAbs) 0
theorem Zeu{x y:Int}(h:¬It x y):Zda x y=x/Gi x y∧Zcm x y=y/Gi x y∧rerr x y=0:=⟨if_neg h,if_neg h,if_neg h⟩
theorem nr_bl{x y:Int}(h:¬It x y):bl (Zda x y).natAbs≤65536∧bl (Zcm x y).natAbs≤65536:=by
 obtain⟨h1,h2,_⟩:=Zeu h
 rw [h1,h2]
 unfold It at h
 omega
theorem Zsh{x y:Int}(h:¬It x y)(hy:0<y):0<Zcm x y:=by
 rw [(Zeu h).2.1];exact Zs0 hy
abbrev R2:=Int×Int
def Mp(a b:R2):R2:=(Zda (Zda (a.1*b.2+b.1*a.2) (a.2*b.2)*1) (Zcm (a.1*b.2+b.1*a.2) (a.2*b.2)*2),Zcm (Zda (a.1*b.2+b.1*a.2) (a.2*b.2)*1) (Zcm (a.1*b.2+b.1*a.2) (a.2*b.2)*2))
def Zfn(a b:R2):Prop:=¬It (a.1*b.2+b.1*a.2) (a.2*b.2)∧¬It (Zda (a.1*b.2+b.1*a.2) (a.2*b.2)*1) (Zcm (a.1*b.2+b.1*a.2) (a.2*b.2)*2)
instance (a b:R2):Decidable (Zfn a b):=by unfold Zfn;infer_instance
theorem Zst{a b:R2}(h:Zfn a b):rerr (Zda (a.1*b.2+b.1*a.2) (a.2*b.2)*1) (Zcm (a.1*b.2+b.1*a.2) (a.2*b.2)*2)=0:=(Zeu h.2).2.2
def isp(cv:R2→Int)(hv:Int):Nat→R2→R2→Int→Int→Nat→List (R2×R2)
 | 0,_,_,_,_,_=>[]
 | f+1,a,b,fr,to,d=>if fr=to then []else if fr-to=1∧hv≤(d:Int)then [(a,b)]else isp cv hv f a (Mp a b) fr (cv (Mp a b)) (d+1) ++ isp cv hv f (Mp a b) b (cv (Mp a b)) to (d+1)
def Zxo(cv:R2→Int)(ok:R2→Prop)(hv:Int):Nat→R2→R2→Int→Int→Nat→Prop
 | 0,_,_,_,_,_=>False
 | f+1,a,b,fr,to,d=>fr=to∨(fr-to=1∧hv≤(d:Int))∨(d<1000∧Zfn a b∧ok (Mp a b)∧Zxo cv ok hv f a (Mp a b) fr (cv (Mp a b)) (d+1)∧Zxo cv ok hv f (Mp a b) b (cv (Mp a b)) to (d+1))
instance ispDec (cv:R2→Int) (ok:R2→Prop) [DecidablePred ok] (hv:Int):∀f a b fr to d,Decidable (Zxo cv ok hv f a b fr to d)
 | 0,_,_,_,_,_=>inferInstanceAs (Decidable False)
 | f+1,a,b,fr,to,d=>@instDecidableOr _ _ _ (@instDecidableOr _ _ _ (@instDecidableAnd _ _ _ (@instDecidableAnd _ _ _ (@instDecidableAnd _ _ _ (@instDecidableAnd _ _ (ispDec cv ok hv f a (Mp a b) fr (cv (Mp a b)) (d+1)) (ispDec cv ok hv f (Mp a b) b (cv (Mp a b)) to (d+1)))))))
def okQ(z:R2):Prop:=bl z.1.natAbs≤65536∧bl z.2.natAbs≤65536∧0<z.2
def evok(ls:List (SL×List Int))(m:R2):Prop:=∀z∈ls,¬Kj z.2 m.1 m.2
def cvx(ls:List (SL×List Int))(m:R2):Int:=chg (sgx ls (fat m.1 m.2))
def cvc(F:Nat)(xs:List Int)(m:R2):Int:=cnt F xs m.1 m.2
def evc(F:Nat)(xs:List Int)(m:R2):Prop:=∀p∈chn F xs,¬Kj p m.1 m.2
def slow(a:R2):R2:=(Zda a.1 a.2,Zcm a.1 a.2)
def sisol(F:Nat)(xs:List Int)(f:Nat)(a b:R2)(hq:Int):List (R2×R2):=isp (cvc F xs) hq f (slow a) (slow b) (cvc F xs a) (cvc F xs b) 0
def isOK(F:Nat)(xs:List Int)(f:Nat)(a b:R2)(hq:Int):Prop:=Zfh F xs∧evc F xs a∧evc F xs b∧¬It a.1 a.2∧¬It b.1 b.2∧Zxo (cvc F xs) (evc F xs) hq f (slow a) (slow b) (cvc F xs a) (cvc F xs b) 0∧(sisol F xs f a b hq).length≤1000000
open Go.Proofs.Tryz
open Go.Proofs
set_option maxRecDepth 20000
set_option maxHeartbeats 4000000
set_option linter.unusedSimpArgs false
theorem st_fits(v:Value)(xs:List Int)(hv:Vp xs):Ml prog 197 #[v] [slp 2 wv v xs] (.bool (decide (Zbz xs))):=by
 refine Ya func197 J ntmps197 J K1 ?_
 intro w0 sc hw hsc
 simp only [Zp,Zn]
 have hlen:=hv.len
 have hmz:=Ps hv.sz
 have q1:(xs.length+2)*(xs.length+2)≤27*27:=Nat.mul_le_mul (by omega) (by omega)
 have q2:(xs.length+2)*(xs.length+2)*(msz xs+16)≤27*27*65552:=Nat.mul_le_mul q1 (by omega)
 have q3:((xs.length:Int)-1+3)*((xs.length:Int)-1+3)=(((xs.length+2)*(xs.length+2):Nat):Int):=by rw [show(xs.length:Int)-1+3=((xs.length+2:Nat):Int) by omega];push_cast;rfl
 have q4:((xs.length:Int)-1+3)*((xs.length:Int)-1+3)*((msz xs:Int)+16)=(((xs.length+2)*(xs.length+2)*(msz xs+16):Nat):Int):=by rw [q3];push_cast;rfl
 refine Zc<|Zg<|as_ J<|Zf<|Za<|Zc<|Zc<|Zg<|mv J<|tt (Zh (n:=1) (Xq _ _ ‹_›) J J J K1 Zdr (Zb 1 J J J Ze) J hw) fun _ _=>dt (Xp J J)<|Zf<|Za<|Ye J<|Zj<|Za<|Zc<|Zg<|mv J<|tt (Zh (n:=1) (Zeo _ _ hv) J J J K1 call105 (Zb 1 J J J Ze) J hw) fun _ _=>mv J<|dt (Yf J J J)<|dt (Yf J J J)<|as_ J<|as_ J<|Zf<|Za<|Zc<|Zg<|mv J<|tt (Zh (n:=1) (Zjs _ _ hv) J J J K1 call106 (Zb 1 J J J Ze) J hw) fun _ _=>mv J<|dt (Yf J J J)<|dt (Yf J J J)<|as_ J<|as_ J<|Zf<|Za<|Zc<|Zg<|mv J<|dt (Yb J J (i:=1) J Zi Qp)<|dt (Pm J J J)<|mv J<|Qu (d:=23) J (fun s24=>?_) (fun s24=>?_)
 ·exact gsk J J J<|gsk J J J<|gsk J J J<|gsk J J J<|gsk J J J<|gsk J J J<|gsk J J J<|gsk J J J<|gsk J J J<|dt (Xh J J J)<|as_ J<|Zf<|Za<|Zv<|xU hsc results197 J J (by first | exact sf_t (by omega) | exact sf_i (by omega) q4)
 ·exact gdt (Ym J J) J J<|gdt (Ys J J J ⟨by omega,by omega⟩) J J<|gdt (Ym J J) J J<|gdt (Ys J J J ⟨by omega,by omega⟩) J J<|gdt (Gq J J J (by rw [q3];exact⟨by omega,by omega⟩)) J J<|gdt (Ym J J) J J<|gdt (Ys J J J ⟨by omega,by omega⟩) J J<|gdt (Gq J J J (by rw [q4];exact⟨by omega,by omega⟩)) J J<|gdt (Co J J J) J J<|dt (Yh J J J)<|as_ J<|Zf<|Za<|Zv<|xU hsc results197 J J (by first | exact sf_t (by omega) | exact sf_i (by omega) q4)
theorem Zqx(v:Value)(xs:List Int)(hv:Vp xs):Ml prog 183 #[v,.slice none 0 0] [slp 2 wv v xs] (.int .i64 (chk0 xs)):=by
 refine Ya func183 J ntmps183 J K1 ?_
 intro w0 sc hw hsc
 simp only [Zp,Zn]
 refine Yl (Nj 999 2 31 wv)<|Yl (Qz 999 J J pV)<|Zc<|Zg<|as_ J<|Zf<|Za<|Zc<|Zg<|mv J<|tt (Zh (n:=1) (st_fits _ _ hv) J J J K1 call197 (Zb 1 J J J Ze) J hw) fun _ _=>dt (Ze6 J J)<|as_ J<|Zf<|Za<|Zc<|Zc<|Zg<|mv J<|dt (Yb J J (i:=999) J Zi uT83)<|mv J<|Zf<|Za<|Zl<|Nt [(0,_),(1,_),(13,_),(14,_)] [(0,_),(1,_),(999,_)] (fun(_:Unit)=>[(15,.int .i64 0),(5,.bool (decide (¬Zbz xs)))]) (fun(_:Unit)=>[]) (fun(_:Unit)=>True) (fun(_:Unit)=>0) () trivial K6 K3 ?_
 rintro _ -
 simp only [CA,NA]
 refine Zc<|Zg<|dt (Yc (r':= .bool false) (Xu J J J) (congrArg Value.bool (by decide)))<|Zf<|Za<|Zc<|Ye J<|Yu<|Zu<|Zu<|Ox<|Za<|Zc<|Zc<|Zg<|mv J<|tt (Zh (n:=1) (Xq _ _ ‹_›) J J J K1 Zdr (Zb 1 J J J Ze) J hw) fun _ _=>dt (Xp J J)<|Zf<|Za<|Ye J<|Zj<|Za<|Zc<|Zc<|Zg<|mv J<|dt (Yb J J (i:=1) J Zi Qp)<|dt (Pm J J J)<|Zf<|Za<|Zq J (fun h39=>?_) (fun h39=>?_)
 ·exact Zc<|Zg<|as_ J<|Zf<|Za<|Zv<|Xc<|xU hsc results183 J J (by unfold chk0;rw [if_pos (by omega)])
 ·refine Zj<|Za<|Zc<|Zc<|Zg<|mv J<|dt (Yb J J (i:=999) J Zi uT83)<|dt (Yc (r':= .bool false) (Pm J J J) (congrArg Value.bool (by decide)))<|Zf<|Za<|Ye J<|Zj<|Za<|Zc<|Zc<|Zg<|mv J<|Zf<|Za<|Lm J (fun h47=>?_) (fun h47=>?_)
  ·exact Zc<|Zg<|as_ J<|Zf<|Za<|Zv<|Xc<|xU hsc results183 J J (by unfold chk0;rw [if_neg (by omega),if_neg (by simpa using h47)])
  ·exact Zj<|Za<|Zc<|Zg<|as_ J<|Zf<|Za<|Zv<|xU hsc results183 J J (by unfold chk0;rw [if_neg (by omega),if_pos (by simpa using h47)])
theorem Zk2(v:Value)(xs:List Int)(hv:Vp xs)(h0:xs≠[]):Cal prog 184 #[v] [slp 2 wv v xs] true (G:=Value) (fun r=>True) (fun r=> .tuple #[r,.int .i64 0]) (fun r=>[slp 2 wv r (nrm xs)]):=by
 refine Ya func184 J ntmps184 J K1 ?_
 intro w0 sc hw hsc
 simp only [Zp,Zn]
 have hvp:=Lo hv
 have hl0:=List.length_pos_iff.2 h0
 have hlp:=Yi xs
 have hlen:=hv.len
 refine Zc<|Zg<|as_ J<|as_ J<|Zf<|Za<|Zc<|Zg<|mv J<|tt (Zh (n:=2) (Mi _ _ hv) J J J K1 call150 (Zb 1 J J J Ze) J hw) fun _ _=>mv J<|dt (Yf J J J)<|dt (Yf J J J)<|as_ J<|as_ J<|Zf<|Za<|Zc<|Zc<|Zg<|mv J<|dt (Yc (r':= .bool true) (Pm J J J) (congrArg Value.bool (by decide)))<|mv J<|gdt (Ym J J) J J<|gdt (Ym J J) J J<|gdt (Yb J J (i:=2) J Zi Qp) J J<|gdt (Qa J J J ⟨by omega,by omega⟩) J J<|gdt (Yw (ii:=2) (i:=((Yx xs).length-1)) J J J J Zi Qp Yj) J J<|gdt (Xm (ii:=2) 0 J J J Zi pV (by first | omega | (simp only [List.length_set];omega))) J J<|gtt (Zh (n:=2) (Mo _ (hvp.sz _)) J J J K1 call104 Ze J hw) J J J fun _ _=>gdt (Xu J J J) J J<|dt (Xh J J J)<|Zf<|Za<|Zq J (fun h56=>?_) (fun h56=>?_)
 ·exact Zc<|Zg<|mv J<|tt (Zh (n:=2) (Xd _ ⟨by decide,by decide⟩) J J J K1 Bj Ze J hw) fun _ _=>tt (Zh (n:=3) (Ec _ _ _ hvp (by decide +kernel) (fun i=>Aw hvp.sz i)) J J J K2 call151 (Zb 2 J J J Ze) J hw) fun _ _=>dt (Yf J J J)<|dt (Yf J J J)<|as_ J<|as_ J<|Zf<|Za<|Zv<|Xc<|Yn (.inl J) hsc _ _ (fun a w hs=>Np hs results184 J J) J trivial J (Yk 3 J J J (by rw [Zh3 (by omega) ((Qk _).1 ‹_›)]<;>rfl) Zk)
 ·exact Zj<|Za<|Zc<|Zg<|mv J<|mv J<|as_ J<|as_ J<|Zf<|Za<|Zv<|Yn (.inl J) hsc _ _ (fun a w hs=>Np hs results184 J J) J trivial J (Yk 2 J J J (by rw [Zh2 (fun h=>by have h2:=(Qk _).2 h;exact absurd h2 ‹_›)]<;>rfl) Zk)
theorem st_sqf(v:Value)(xs:List Int)(hv:Vp xs)(h0:xs≠[])(hf:Zbz xs)(F:Nat)(hS:sqOK F xs):Cal prog 161 #[v] [slp 2 wv v xs] true (G:=Value) (fun r=>True) (fun r=> .tuple #[r,.int .i64 0]) (fun r=>[slp 2 wv r (sqf F xs)]):=by
 refine Ya func161 J ntmps161 J K1 ?_
 intro w0 sc hw hsc
 simp only [Zp,Zn]
 obtain⟨hS1,hS2,hS3,hS4,hS5⟩:=hS
 have hvn:=Zql hv
 have hln:=Pt hv.tr
 have hvd:Vp (Pf (nrm xs)):=Zdz hvn (fun i hi=>hS1 i (by omega))
 have hvg:=Zqj hvn hvd hS3
 have hc0:=chk0_ok h0 hf
 refine Yl (Nj 999 2 31 wv)<|Yl (Qz 999 J J pV)<|Zc<|Zg<|as_ J<|as_ J<|Zf<|Za<|Zc<|Zc<|Zg<|mv J<|tt (Zh (n:=1) (Zqx _ _ hv) J J J K2 call183 (Zb 1 J J J Ze) J hw) fun _ _=>as_ J<|Zf<|Za<|Zc<|Zg<|mv J<|dt (Qb J J J)<|Zf<|Za<|Zq J (fun h64=>?_) (fun h64=>?_)
 ·exfalso;omega
 ·refine Zj<|Za<|Zc<|Zg<|mv J<|tt (Zh (n:=2) (Zk2 _ _ hv h0) J J J K1 call184 (Zb 1 J J J Ze) J hw) fun _ _=>mv J<|dt (Yf J J J)<|dt (Yf J J J)<|as_ J<|as_ J<|Zf<|Za<|Zc<|Zc<|Zg<|mv J<|dt (Yc (r':= .bool false) (Qb J J J) (congrArg Value.bool (by decide)))<|Zf<|Za<|Ye J<|Zj<|Za<|Zc<|Zg<|mv J<|tt (Zh (n:=3) (Dc _ _ hvn (fun i=>by by_cases hi:i<xs.length;exact hS1 i hi;rw [Qf (by omega)];simp [Le])) J J J K1 call109 (Zb 2 J J J Ze) J hw) fun _ _=>mv J<|dt (Yf J J J)<|dt (Yf J J J)<|as_ J<|as_ J<|Zf<|Za<|Zc<|Zc<|Zg<|mv J<|dt (Yc (r':= .bool false) (Qb J J J) (congrArg Value.bool (by decide)))<|Zf<|Za<|Ye J<|Zj<|Za<|Zc<|Zg<|mv J<|mv J<|tt (Zh (n:=4) (Znr _ _ _ _ hvn hvd F hS2 hS3) J J J K2 call110 (Zb 2 J J J (Zb 3 J J J Ze)) J hw) fun _ _=>mv J<|dt (Yf J J J)<|dt (Yf J J J)<|as_ J<|as_ J<|Zf<|Za<|Zc<|Zc<|Zg<|mv J<|dt (Yc (r':= .bool false) (Qb J J J) (congrArg Value.bool (by decide)))<|Zf<|Za<|Ye J<|Zj<|Za<|Zc<|Zg<|mv J<|mv J ?_
  exact tt (Zh (n:=5) (Ak _ _ _ _ hvn hvg hS4) J J J K2 call111 (Zb 2 J J J (Zb 4 J J J Ze)) J hw) fun _ _=>dt (Yf J J J)<|dt (Yf J J J)<|as_ J<|as_ J<|Zf<|Za<|Zv<|Yn (.inl J) hsc _ _ (fun a w hs=>Np hs results161 J J) (by rw [if_pos hS5]<;>rfl) trivial J (Yk 5 J J J (by rw [if_pos hS5]<;>rfl) Zk)
theorem st_next(v u:Value)(xs ys:List Int)(hv:Vp xs)(hu:Vp ys)(h0:ys≠[])(hd:Zdn xs ys=0)(hl:ys.length≤xs.length):Cal prog 162 #[v,u] [slp 2 wv v xs,slp 2 wv u ys] true (G:=Value) (fun r=>True) (fun r=> .tuple #[r,.int .i64 0]) (fun r=>[slp 2 wv r (Lf xs ys)]):=by
 refine Ya func162 J ntmps162 J K2 ?_
 intro w0 sc hw hsc
 simp only [Zp,Zn]
 have hvr:=Cv hv hd
 have hvp:=Lo hvr
 have hlen:=hv.len
 have hlen2:=hu.len
 have hl0:=List.length_pos_iff.2 h0
 refine Yl (Nj 999 2 31 wv)<|Yl (Qz 999 J J pV)<|Zc<|Zg<|as_ J<|as_ J<|Zf<|Za<|Zc<|Zg<|mv J<|mv J<|tt (Zh (n:=3) (Zjp _ _ _ _ hv hu hd) J J J K2 call155 (Zb 1 J J J (Zb 2 J J J Ze)) J hw) fun _ _=>mv J<|dt (Yf J J J)<|dt (Yf J J J)<|as_ J<|as_ J<|Zf<|Za<|Zc<|Zc<|Zg<|mv J<|dt (Yc (r':= .bool false) (Qb J J J) (congrArg Value.bool (by decide)))<|mv J<|gdt (Ym J J) J J<|gdt (Yb J J (i:=3) J Zi Qp) J J<|gdt (Pm J J J) J J<|dt (Yh J J J)<|Zf<|Za<|Zq J (fun h85=>?_) (fun h85=>?_)
 ·exact Zc<|Zg<|mv J<|as_ J<|as_ J<|Zf<|Za<|Zv<|Xc<|Yn (.inl J) hsc (.slice none 0 0) _ (fun a w hs=>Np hs results162 J J) J trivial J (Lh (Zqy (by omega)) Zk)
 ·refine Zj<|Za<|Zc<|Zg<|mv J<|tt (Zh (n:=4) (Mi _ _ hvr) J J J K1 call150 (Zb 3 J J J Ze) J hw) fun _ _=>mv J<|dt (Yf J J J)<|dt (Yf J J J)<|as_ J<|as_ J<|Zf<|Za<|Zc<|Zc<|Zg<|mv J<|dt (Yc (r':= .bool false) (Qb J J J) (congrArg Value.bool (by decide)))<|Zf<|Za<|Ye J<|Zj<|Za<|Zc<|Zg<|mv J<|dt (Yb J J (i:=1) J Zi Qp)<|mv J<|dt (Yb J J (i:=2) J Zi Qp)<|dt (Qa J J J ⟨by omega,by omega⟩)<|dt (Ys J J J ⟨by omega,by omega⟩)<|as_ J<|Zf<|Za<|Zc<|Zc<|Zg<|mv J<|mv J<|dt (Yb J J (i:=2) J Zi Qp)<|dt (Qa J J J ⟨by omega,by omega⟩)<|dt (Yw (ii:=2) (i:=(ys.length-1)) J J J J Zi Qp Yj)<|dt (Xm (ii:=2) 0 J J J Zi pV (by first | omega | (simp only [List.length_set];omega)))<|tt (Zh (n:=4) (Mo _ (hu.sz _)) J J J K1 call104 Ze J hw) fun _ _=>dt (Xu J J J)<|mv J<|Qu (d:=45) J (fun s94=>?_) (fun s94=>?_)
  ·refine gdt (Ym J J) J J<|gdt (Zkf J J J) J J<|gdt (Pm J J J) J J<|dt (Xh J J J)<|Zf<|Za<|Zq J (fun h94=>?_) (fun h94=>?_)
   ·exact Zc<|Zg<|mv J<|as_ J<|as_ J<|Zf<|Za<|Zv<|Xc<|Yn (.inl J) hsc _ _ (fun a w hs=>Np hs results162 J J) J trivial J (Yk 4 J J J (by rw [snext_a hl ‹_› ‹_›]<;>rfl) Zk)
   ·exact Zj<|Za<|Zc<|Zg<|mv J<|tt (Zh (n:=4) (Xd _ ⟨by decide,by decide⟩) J J J K1 Bj Ze J hw) fun _ _=>tt (Zh (n:=5) (Ec _ _ _ hvp (by decide +kernel) (fun i=>Aw hvp.sz i)) J J J K2 call151 (Zb 4 J J J Ze) J hw) fun _ _=>dt (Yf J J J)<|dt (Yf J J J)<|as_ J<|as_ J<|Zf<|Za<|Zv<|Yn (.inl J) hsc _ _ (fun a w hs=>Np hs results162 J J) J trivial J (Yk 5 J J J (by first | (rw [Zq0 ‹_›]<;>rfl) | (rw [Zqz hl ‹_›]<;>rfl)) Zk)
  ·exact gsk J J J<|gsk J J J<|gsk J J J<|dt (Yh J J J)<|Zf<|Za<|Ye J<|Zj<|Za<|Zc<|Zg<|mv J<|tt (Zh (n:=5) (Xd _ ⟨by decide,by decide⟩) J J J K1 Bj Ze J hw) fun _ _=>tt (Zh (n:=6) (Ec _ _ _ hvp (by decide +kernel) (fun i=>Aw hvp.sz i)) J J J K2 call151 (Zb 4 J J J Ze) J hw) fun _ _=>dt (Yf J J J)<|dt (Yf J J J)<|as_ J<|as_ J<|Zf<|Za<|Zv<|Yn (.inl J) hsc _ _ (fun a w hs=>Np hs results162 J J) J trivial J (Yk 6 J J J (by first | (rw [Zq0 ‹_›]<;>rfl) | (rw [Zqz hl ‹_›]<;>rfl)) Zk)
theorem Zvt(v:Value)(xs:List Int)(hv:Vp xs)(h0:xs≠[])(hf:Zbz xs)(F:Nat)(hC:Zfh F xs):Cal prog 118 #[v] [slp 2 wv v xs] true (G:=Value×List (SL×List Int)) (fun r=>r.2.map Prod.snd=chn F xs) (fun r=> .tuple #[r.1,.int .i64 0]) (fun r=>[Au 1 Bh qZ r.1 r.2]):=by
 refine Ya func118 J ntmps118 J K1 ?_
 intro w0 sc hw hsc
 simp only [Zp,Zn]
 obtain⟨hC1,hC2,hC3⟩:=hC
 have hvq:=Zi0 hv h0 hC1
 have hlq:=Zgf hv hC1
 have hvqd:Vp (Pf (sqf F xs)):=Zdz hvq (fun i hi=>hC2 i (by omega))
 refine Yl (Nj 999 2 31 wv)<|Yl (Qz 999 J J pV)<|Zc<|Zg<|as_ J<|as_ J<|Zf<|Za<|Zc<|Zg<|mv J<|tt (Zh (n:=2) (st_sqf _ _ hv h0 hf F hC1) J J J K1 call161 (Zb 1 J J J Ze) J hw) fun _ _=>mv J<|dt (Yf J J J)<|dt (Yf J J J)<|as_ J<|as_ J<|Zf<|Za<|Zc<|Zc<|Zg<|mv J<|dt (Yc (r':= .bool false) (Qb J J J) (congrArg Value.bool (by decide)))<|Zf<|Za<|Ye J<|Zj<|Za<|Zc<|Zg<|mv J<|tt (Zh (n:=3) (Dc _ _ hvq (fun i=>by by_cases hi:i<xs.length;exact hC2 i hi;rw [Qf (by omega)];simp [Le])) J J J K1 call109 (Zb 2 J J J Ze) J hw) fun _ _=>mv J<|dt (Yf J J J)<|dt (Yf J J J)<|as_ J<|as_ J<|Zf<|Za<|Zc<|Zc<|Zg<|mv J<|dt (Yc (r':= .bool true) (Pm J J J) (congrArg Value.bool (by decide)))<|Zf<|Za<|Ov J<|Zg<|mv J<|tt (Zh (n:=80) (Mi _ _ hvqd) J J J K1 call150 (Zb 3 J J J Ze) J hw) fun _ _=>mv J<|dt (Yf J J J)<|dt (Yf J J J)<|as_ J<|as_ J<|Zf<|Za<|Zc<|Zc<|Zg<|mv J<|dt (Yc (r':= .bool false) (Qb J J J) (congrArg Value.bool (by decide)))<|Zf<|Za<|Ye J<|Zj<|Za<|Zc<|e_ex (On 2 J Zi) (fun ss hss=>?_)
 subst hss
 refine Yl (Nz qZ 71)<|Yl (Pj (q:=qZ) (z:=(ss,sqf F xs)) 71 2 71 J J J J J)<|e_ex (On 80 J Zi) (fun sd0 hsd=>?_)
 subst hsd
 refine Zg<|mv J<|tt (Pn (i:=70) (ivs:=[(0,_)]) (enc:=Bh) [(ss,sqf F xs)] J J K2 Zku ti23 J J J J J pS.cells J J hw) fun v _=>as_ J<|Zf<|Za<|Zc<|Zl<|Nt [] [(0,_),(1,_),(999,_),(2,_),(3,_)] (fun(q:List (SL×List Int)×SL×List Int×SL×List Int×Nat×Value)=>[(7,q.2.2.2.2.2.2),(6,svv q.2.2.2.1)]) (fun(q:List (SL×List Int)×SL×List Int×SL×List Int×Nat×Value)=>[(70,osl 1 23 Bh q.2.2.2.2.2.2 (q.1 ++ [(q.2.1,q.2.2.1)])),(71,Zb7 qZ (q.1 ++ [(q.2.1,q.2.2.1)])),(80,slp 2 wv (svv q.2.2.2.1) q.2.2.2.2.1)]) (fun(q:List (SL×List Int)×SL×List Int×SL×List Int×Nat×Value)=>(Vp q.2.2.1)∧(Vp q.2.2.2.2.1)∧(cok q.2.2.2.2.2.1 q.2.2.1 q.2.2.2.2.1)∧(q.1.map Prod.snd ++ Mk q.2.2.2.2.2.1 q.2.2.1 q.2.2.2.2.1=chn F xs)∧(q.1.length+q.2.2.2.2.1.length≤25)) (fun(q:List (SL×List Int)×SL×List Int×SL×List Int×Nat×Value)=>q.2.2.2.2.1.length) ([],ss,sqf F xs,sd0,Yx (Pf (sqf F xs)),F,_) ⟨hvq,Lo hvqd,hC3,J,by rw [Yi];simp;have:=hvqd.len;omega⟩ K2 K8 ?_
 rintro⟨ws,sx,x,sd,y,f,vo⟩ ⟨hvx,hvy,hck,hch,hwl⟩
 dsimp only at hvx hvy hck hch hwl
 simp only [CA,NA]
 refine Zc<|Zc<|Zg<|mv J<|dt (Yb J J (i:=80) J Zi Qp)<|dt (Oq J J J)<|Zf<|Za<|Zq J (fun h114=>?_) (fun h114=>?_)
 ·have hy0:y≠[]:=fun e=>by rw [e]at h114;simp at h114
  obtain⟨f0,rfl,hd,hle,hck2,hsc2⟩:=Zdo hck hy0
  refine Zj<|Za<|Zl<|Zc<|Zg<|mv J<|mv J<|tt (Pn (i:=4) (ivs:=[(0,_)]) (enc:=Bh) [(sd,y)] J J K2 Zku ti23 J J J J J pS.cells J J hw) fun v_2 _=>tt (Im (i:=70) (j:=4) (by_:=24) J J J J J J (by decide) J (Yq pS) Zku ti23 J pS J J J (by simp;omega) (by decide) J hw) fun v_3 _=>as_ J<|Zf<|Za<|Zc ?_
  have hll:(ws ++ [(sx,x)] ++ [(sd,y)]).length=ws.length+2:=by simp
  refine Yl (Pj (q:=qZ) (z:=(sd,y)) 71 80 71 J J J J J)<|Yl (s_many (q:=qZ) 71 92 (sx,x) J J (by simp) J)<|Zg<|mv J<|mv J<|dt (Yb J J (i:=70) J (Yq pS) Zku)<|dt (Qa J J J ⟨by omega,by omega⟩)<|dt (Yw (ii:=70) (i:=ws.length) J J J J (Yq pS) Zku sizeOf23)<|dt (Yc (r':=svv sx) (Xm (ii:=70) Z0 J J J (Yq pS) pS) (by simp [List.getD_eq_getElem?_getD])) ?_
  refine mv J<|tt (Zh (n:=80) (st_next _ _ _ _ hvx hvy hy0 hd hle) J J J K2 call162 (Zb 92 J J J (Zb 80 J J J Ze)) J hw) fun _ _=>l_ex (On 80 J Zi) (fun sn hsn=>?_)
  subst hsn
  exact mv J<|dt (Yf J J J)<|dt (Yf J J J)<|as_ J<|as_ J<|Zf<|Za<|Zc<|Zg<|mv J<|dt (Yc (r':= .bool false) (Qb J J J) (congrArg Value.bool (by decide)))<|Zf<|Za<|Ye J<|Zj<|Oa<|Xk (ws ++ [(sx,x)],sd,y,sn,Lf x y,f0,_) ⟨hvy,Zgv hvx hd,hck2,by rw [←hch,hsc2];simp,by have h7:=Qx x hy0;have h8:=Fa (y:=y) hvx.tr;simp;omega⟩ (by have h7:=Qx x hy0;have h8:=Fa (y:=y) hvx.tr;dsimp only;omega) K2 K8
 ·refine Yu<|Zu<|Zu<|Ox<|Za<|Zc ?_
  obtain rfl:y=[]:=List.eq_nil_of_length_eq_zero (by omega)
  exact Yl (Qz 70 J J pS)<|Yl (Ma 70 71 72 J J J J)<|Zg<|mv J<|as_ J<|as_ J<|Zf<|Za<|Zv<|Yn (.inl J) hsc (_,ws ++ [(sx,x)]) _ (fun a w hs=>Np hs results118 J J) J (by rw [←hch,Ge];simp) J (Xa 72 J J J Zk)
theorem Zby{c:Int} : c.sign<0↔c<0:=Qk c
abbrev RWL:=List (Bool×ByteArray)
def smallR(r:RWL):Bool:=decide (r.length≤8) && r.all fun c=>decide (c.2.size≤6)
noncomputable def dec (r:RWL):List Int:=if h:okP r=true then(okP_ex h).choose else []
theorem Zke{r:RWL}(h:okP r=true):Vp (dec r)∧r=(dec r).map wr:=by
 unfold dec;rw [dif_pos h];exact(okP_ex h).choose_spec
noncomputable def bdE (r:RWL):Int:=if okP r=true then chk0 (dec r)else 2
noncomputable def bdZ (r:RWL):Int:=if bdE r=0 then sbound (dec r)else 0
theorem Zq2{r:RWL}(h:okP r=true)(v:Value)(w:World)(hh:(slp 2 Zie v r).holds w):(slp 2 wv v (dec r)).holds w:=
 Zg9 v (dec r) w ((Zke h).2▸hh)
theorem rabs_n{y:List Int}{c:Int}{n:Nat}(hn:y.length=n)(hc:c=cf y (n-1))(h:c.sign<0):Ai y=-c:=by
 subst hn;unfold Ai;rw [←hc,if_pos (Zby.1 h)]
theorem rabs_p{y:List Int}{c:Int}{n:Nat}(hn:y.length=n)(hc:c=cf y (n-1))(h:¬c.sign<0):Ai y=c:=by
 subst hn;unfold Ai;rw [←hc,if_neg (fun h2=>h (Zby.2 h2))]
theorem rb_n{x y:List Int}{c d:Int}{n m:Nat}(hn:y.length=n)(hm:x.length=m)(hc:c=cf y (n-1))(hd:d=cf x (m-1))(h:c.sign<0):rb x y=-d:=by
 subst hn hm;unfold rb;rw [←hc,if_pos (Zby.1 h),hd]
theorem rb_p{x y:List Int}{c d:Int}{n m:Nat}(hn:y.length=n)(hm:x.length=m)(hc:c=cf y (n-1))(hd:d=cf x (m-1))(h:¬c.sign<0):rb x y=d:=by
 subst hn hm;unfold rb;rw [←hc,if_neg (fun h2=>h (Zby.2 h2)),hd]
theorem Zux(y:List Int):bl (Ai y).natAbs≤msz y:=by
 have:=Od y (y.length-1)
 unfold Ai;split
 ·rwa [Int.natAbs_neg]
 ·exact this
theorem bl_rb(x y:List Int):bl (rb x y).natAbs≤msz x:=by
 have:=Od x (x.length-1)
 unfold rb;split
 ·rwa [Int.natAbs_neg]
 ·exact this
theorem Cx{p:List Int}{c:Int}{n m:Nat}(hp:Sz n p)(hc:bl c.natAbs≤m):Sz (n+m) (Xj p c):=fun i=>by
 rw [Xn];have h1:=Xs (cf p i) c;have h2:=hp i;omega
theorem Zvn{p q:List Int}{n:Nat}(hp:Sz n p)(hq:Sz n q):Sz (n+1) (Zfm p q):=fun i=>by
 rw [Kq];have h1:=Fp (cf p i) (cf q i);have h2:=hp i;have h3:=hq i;omega
theorem sz_shm'{x y:List Int}{s i:Nat} : Sz (msz x+msz y) (shm y (rb x y) s i):=Zm5 fun t=>by
 have h1:=Xs (rb x y) (cf y t);have h2:=bl_rb x y;have h3:=Od y t;omega
theorem Zjx(x y:List Int):msz (Fh x y)≤msz x+msz y+1:=by
 refine Ps ?_
 unfold Fh
 exact Zvn (Cx (Od x) (Zux y)) sz_shm'
theorem Zrh{x y:List Int}{f S:Nat}(hy0:0<y.length)(hle:y.length≤x.length)(hL:x.length<y.length+f)(hT:Tr x)(hS:msz x+f*(msz y+1)≤S) :
  ∃g,f=g+1∧Bn f x y=Bn g (Fh x y) y∧(Fh x y).length<y.length+g∧Tr (Fh x y)∧msz (Fh x y)+g*(msz y+1)≤S∧(Fh x y).length<x.length:=by
 obtain⟨g,rfl⟩:∃g,f=g+1:=⟨f-1,by omega⟩
 have h1:=Zcq hT hy0 hle
 have h2:=Zjx x y
 refine⟨g,rfl,?_,by omega,Zbs _ _,?_,h1⟩
 ·rw [Bn,if_neg (by omega)]
 ·rw [Nat.succ_mul]at hS;omega
theorem Zwc{x y:List Int}{f:Nat}(h:x.length<y.length):Bn f x y=x:=by
 cases f with
 | zero=>rfl
 | succ f=>rw [Bn,if_pos h]
theorem Zn0(y:List Int):∀(f:Nat) (x:List Int),msz (Bn f x y)≤msz x+f*(msz y+1)
 | 0,x=>by rw [Bn];omega
 | f+1,x=>by
  rw [Bn]
  split
  ·omega
  ·have h1:=Zn0 y f (Fh x y)
   have h2:=Zjx x y
   rw [Nat.succ_mul];omega
theorem Cal.toS {P:Program} {f:FuncId} {args:Array Value} {pre:List Pc} {al:Bool} {φ:Value×List (Int×SL)→Prop}
  (h:Cal P f args pre al (G:=Value×List (Int×SL)) φ (fun r=>r.1) (fun r=>[pp r.1 r.2])) :
  Cal P f args pre al (G:=SL×List (Int×SL)) (fun r=>φ (svv r.1,r.2)) (fun r=>svv r.1) (fun r=>[pp (svv r.1) r.2]):=fun w hw=>by
 refine(h w hw).mono fun e w' ⟨g,he,hφ,hb,hi⟩=>?_
 obtain⟨v,z⟩:=g
 have h0:=(hi _ (List.mem_cons_self ..)).1
 obtain⟨ad,c,h1,_⟩:=Zx w' h0
 have h2:v=svv (ad,z.length,c):=h1
 subst h2
 exact⟨((ad,z.length,c),z),he,hφ,hb,hi⟩
abbrev qT (z:SL×List (Int×SL)):Pc:=pp (svv z.1) z.2
abbrev T0:SL×List (Int×SL):=((none,0,0),[])
abbrev Bq (zs:List (SL×List (Int×SL))):List (List Int):=zs.map fun z=>Zs z.2
def firstE(r:RWL)(x y x2 y2:Int):Int:=if okP r=true then(if r.length=0∨0<x*y2-x2*y then 3 else 0)else 2
theorem Zs8{z:List (SL×List (Int×SL))}{L:List (List Int)}(h:Bq z=L):z.length=L.length:=by rw [←h];simp
theorem Zuz{n:Nat}(k:Nat)(h:(Qq n).size≤k):bl n≤8*k:=by
 have h1:=Mw n
 have h2:=Za2 n
 omega
theorem Zox{n l x:Int}(h1:-1≤l)(h2:l≤1)(h3:-1≤x)(h4:x≤1):Kx (n,l) x=(if x*l<0 then n+1 else n,if x≠0 then x else l):=by
 obtain rfl | rfl | rfl:l=-1∨l=0∨l=1:=by omega
 all_goals obtain rfl | rfl | rfl:x=-1∨x=0∨x=1:=by omega
 all_goals simp [Kx]
theorem Zwi{n l x:Int}(h1:-1≤l)(h2:l≤1)(h3:-1≤x)(h4:x≤1)(ha:x*l<0)(hb:x≠0):Kx (n,l) x=(n+1,x):=by rw [Zox h1 h2 h3 h4,if_pos ha,if_pos hb]
theorem Zwh{n l x:Int}(h1:-1≤l)(h2:l≤1)(h3:-1≤x)(h4:x≤1)(ha:x*l<0)(hb:¬x≠0):Kx (n,l) x=(n+1,l):=by rw [Zox h1 h2 h3 h4,if_pos ha,if_neg hb]
theorem Zwg{n l x:Int}(h1:-1≤l)(h2:l≤1)(h3:-1≤x)(h4:x≤1)(ha:¬x*l<0)(hb:x≠0):Kx (n,l) x=(n,x):=by rw [Zox h1 h2 h3 h4,if_neg ha,if_pos hb]
theorem Zwf{n l x:Int}(h1:-1≤l)(h2:l≤1)(h3:-1≤x)(h4:x≤1)(ha:¬x*l<0)(hb:¬x≠0):Kx (n,l) x=(n,l):=by rw [Zox h1 h2 h3 h4,if_neg ha,if_neg hb]
theorem Zag{l:List Int}{i:Nat}{n m:Int}(hi:i<l.length)(h:(n,m)=(l.take i).foldl Kx (0,0)):(l.take (i+1)).foldl Kx (0,0)=Kx (n,m) (l.getD i 0):=by
 rw [Of 0 l i hi,Bf,h]
theorem mul_r{x m:Int}(h3:-1≤x)(h4:x≤1)(h1:-1≤m)(h2:m≤1):-9223372036854775808≤x*m∧x*m≤9223372036854775807:=by
 obtain rfl | rfl | rfl:m=-1∨m=0∨m=1:=by omega
 all_goals obtain rfl | rfl | rfl:x=-1∨x=0∨x=1:=by omega
 all_goals decide
theorem ev_b{p:List Int}{x y:Int}(hs:Sz 1000000 p)(hl:p.length≤30)(hx:bl x.natAbs≤1000000)(hy:bl y.natAbs≤1000000):bl (pev p x y).natAbs≤100000010:=
 Zmk (fun t _=>ev_tb hs (fun k=>Ad hx k) (fun k=>Ad hy k) hl t) (by omega)
theorem Zs7{z:List (SL×List (Int×SL))}{L:List (List Int)}(h:Bq z=L)(f:List Int→Int){i:Nat}(hi:i<z.length):(L.map f).getD i 0=f (Zs (z.getD i T0).2):=by
 subst h
 simp only [List.getD_eq_getElem?_getD,List.getElem?_map,List.getElem?_eq_getElem hi]
 rfl
def chke:Nat→Nat→Nat→Nat→Nat→Bool
 | 0,la,_,A,_=>Nat.ble (A+la*64) 65500
 | f+1,la,lb,A,B=>Nat.ble (A+la*64) 65500 && (Nat.beq lb 0 || (List.range lb).all fun l=>chke f lb l B (bif Nat.ble l 1 then 2 else A+(la-lb+1)*B))
inductive SV:List Int→List Int→Prop
 | one (a:Int):SV [a] [a]
 | step (a:Int) (r t:List Int):SV r t→SV (a :: r) (a :: t)
 | skip (a u w:Int) (r t:List Int):(a=1∨a=-1)→(-1≤u∧u≤1)→(-1≤w∧w≤1)→SV (-a :: r) (-a :: t)→SV (a :: u :: -a :: r) (a :: w :: -a :: t)
theorem Zki{s:Int×Int}{a u:Int}(ha:a=1∨a=-1)(hu:-1≤u∧u≤1):Kx (Kx (Kx s a) u) (-a)=Kx (Kx s a) (-a):=by
 obtain⟨n,l⟩:=s
 have h3:u=-1∨u=0∨u=1:=by omega
 rcases ha with rfl | rfl<;>rcases h3 with rfl | rfl | rfl<;>simp [Kx]
theorem SV.fold{a b:List Int}(h:SV a b):∀s,a.foldl Kx s=b.foldl Kx s:=by
 induction h with
 | one a=>intro s;rfl
 | step a r t _ ih=>intro s;exact ih (Kx s a)
 | skip a u w r t ha hu hw _ ih=>
  intro s
  show(r.foldl Kx (Kx (Kx (Kx s a) u) (-a)))=(t.foldl Kx (Kx (Kx (Kx s a) w) (-a)))
  rw [Zki ha hu,Zki ha hw]
  exact ih (Kx s a)
theorem SV.chg{a b:List Int}(h:SV a b):chg a=chg b:=congrArg Prod.fst (h.fold (0,0))
def rsg(x:Rat):Int:=if x<0 then -1 else if x=0 then 0 else 1
theorem rsg_r(x:Rat):-1≤rsg x∧rsg x≤1:=by unfold rsg;split;decide;split<;>decide
theorem Dz{x:Rat}(h:0<x):rsg x=1:=by unfold rsg;rw [if_neg (by grind),if_neg (by grind)]
theorem Ca{x:Rat}(h:x<0):rsg x=-1:=by unfold rsg;rw [if_pos h]
def Big(η x:Rat)(f:Rat→Rat):Prop:=η<f x∨f x < -η
def Tri(η x:Rat):(Rat→Rat)→List (Rat→Rat)→Prop
 | _,[]=>True
 | _,[g]=>Big η x g
 | f,g :: k :: r=>(Big η x g∧Tri η x g (k :: r))∨(Big η x k∧f x*k x<0∧Tri η x k r)
def Near(η x y:Rat)(f:Rat→Rat):Prop:=f x-f y≤η∧f y-f x≤η
theorem Zo1{η x y:Rat}{f:Rat→Rat}(h0:0≤η)(h:Big η x f)(hn:Near η x y f):rsg (f x)=rsg (f y)∧(rsg (f x)=1∨rsg (f x)=-1):=by
 obtain⟨h1,h2⟩:=hn
 rcases h with h | h
 ·rw [Dz (by grind),Dz (by grind)];exact⟨rfl,.inl rfl⟩
 ·rw [Ca (by grind),Ca (by grind)];exact⟨rfl,.inr rfl⟩
theorem opp_sg{a b:Rat}(h:a*b<0):rsg b=- rsg a:=by
 rcases(show a<0∨a=0∨0<a by grind)with h1 | h1 | h1
 ·rw [Ca h1,Dz (by
   rcases(show b≤0∨0<b by grind)with h2 | h2
   ·have:=Rat.mul_nonneg (a:=-a) (b:=-b) (by grind) (by grind);grind
   ·exact h2)];rfl
 ·subst h1;grind
 ·rw [Dz h1,Ca (by
   rcases(show 0≤b∨b<0 by grind)with h2 | h2
   ·have:=Rat.mul_nonneg (a:=a) (b:=b) (by grind) h2;grind
   ·exact h2)]
theorem Zmz{η x y:Rat}(h0:0≤η):∀(n:Nat) (f:Rat→Rat) (fs:List (Rat→Rat)),fs.length≤n→Big η x f→(∀g∈f :: fs,Near η x y g)→Tri η x f fs→
  SV ((f :: fs).map fun g=>rsg (g x)) ((f :: fs).map fun g=>rsg (g y))
 | _,f,[],_,hb,hn,_=>by
  have:=(Zo1 h0 hb (hn f (List.mem_cons_self ..))).1
  simp only [List.map_cons,List.map_nil,this]
  exact SV.one _
 | 0,f,g :: r,hl,_,_,_=>absurd hl (by simp)
 | n+1,f,[g],hl,hb,hn,ht=>by
  have h1:=(Zo1 h0 hb (hn f (List.mem_cons_self ..))).1
  have h2:=Zmz h0 n g [] (by simp) ht (fun k hk=>hn k (List.mem_cons_of_mem _ hk)) trivial
  rw [List.map_cons,List.map_cons,h1]
  exact SV.step _ _ _ h2
 | n+1,f,g :: k :: r,hl,hb,hn,ht=>by
  have h1:=Zo1 h0 hb (hn f (List.mem_cons_self ..))
  rcases ht with⟨hg,ht⟩ | ⟨hk,ho,ht⟩
  ·have h2:=Zmz h0 n g (k :: r) (by simp at hl ⊢;omega) hg (fun k hk=>hn k (List.mem_cons_of_mem _ hk)) ht
   rw [List.map_cons (l:=g :: k :: r),List.map_cons (l:=g :: k :: r),h1.1]
   exact SV.step _ _ _ h2
  ·have h2:=Zmz h0 n k r (by simp at hl ⊢;omega) hk (fun j hj=>hn j (List.mem_cons_of_mem _ (List.mem_cons_of_mem _ hj))) ht
   have h3:=(Zo1 h0 hk (hn k (by simp))).1
   have h4:=opp_sg ho
   rw [List.map_cons (l:=r),List.map_cons (l:=r)]at h2
   simp only [List.map_cons]
   rw [←h3]at h2 ⊢
   rw [h4]at h2 ⊢
   rw [←h1.1]
   exact SV.skip _ _ _ _ _ h1.2 (rsg_r _) (rsg_r _) h2
structure Lnk (η x:Rat) (f g k:Rat→Rat):Prop where
 big:¬Big η x g→Big η x k
 opp:¬Big η x g→f x*k x<0
def Lnks(η x:Rat):(Rat→Rat)→List (Rat→Rat)→Prop
 | _,[]=>True
 | _,[g]=>Big η x g
 | f,g :: k :: r=>Lnk η x f g k∧Lnks η x g (k :: r)
theorem Zh8{η x:Rat} : ∀(n:Nat) (f:Rat→Rat) (fs:List (Rat→Rat)),fs.length≤n→Lnks η x f fs→Tri η x f fs
 | _,f,[],_,_=>trivial
 | 0,f,g :: r,hl,_=>absurd hl (by simp)
 | n+1,f,[g],_,h=>h
 | n+1,f,[g,k],hl,h=>by
  by_cases hg:Big η x g
  ·exact .inl ⟨hg,h.2⟩
  ·exact .inr ⟨h.1.big hg,h.1.opp hg,trivial⟩
 | n+1,f,g :: k :: j :: r,hl,h=>by
  by_cases hg:Big η x g
  ·exact .inl ⟨hg,Zh8 n g (k :: j :: r) (by simp at hl ⊢;omega) h.2⟩
  ·exact .inr ⟨h.1.big hg,h.1.opp hg,Zh8 n k (j :: r) (by simp at hl ⊢;omega) h.2.2⟩
def Rl3(s t:Rat)(f g k:Rat→Rat):Prop:=∃m n Q:Rat,0<m∧0<n∧0<Q∧∀x,s≤x→x≤t→∃q,-Q≤q∧q≤Q∧m*f x=q*g x-n*k x
def Rl2(s t:Rat)(f g:Rat→Rat):Prop:=∃m Q:Rat,0<m∧0<Q∧∀x,s≤x→x≤t→∃q,-Q≤q∧q≤Q∧m*f x=q*g x
def Rls(s t:Rat):(Rat→Rat)→List (Rat→Rat)→Prop
 | _,[]=>True
 | f,[g]=>Rl2 s t f g
 | f,g :: k :: r=>Rl3 s t f g k∧Rls s t g (k :: r)
theorem Zcy{q Q g e:Rat}(h1:-Q≤q)(h2:q≤Q)(h3:-e≤g)(h4:g≤e)(hQ:0≤Q):q*g≤Q*e∧-(Q*e)≤q*g:=by
 have a:=Rat.mul_nonneg (a:=Q-q) (b:=e+g) (by grind) (by grind)
 have b:=Rat.mul_nonneg (a:=Q+q) (b:=e-g) (by grind) (by grind)
 have c:=Rat.mul_nonneg (a:=Q-q) (b:=e-g) (by grind) (by grind)
 have d:=Rat.mul_nonneg (a:=Q+q) (b:=e+g) (by grind) (by grind)
 constructor<;>grind
theorem Zb6{η x:Rat}{g:Rat→Rat}(h:¬Big η x g):-η≤g x∧g x≤η:=by
 unfold Big at h;constructor<;>grind
theorem Zu1{η ε x:Rat}{g:Rat→Rat}(h:η≤ε)(hb:Big ε x g):Big η x g:=by
 unfold Big at *;grind
theorem Ih{ε a b:Rat}(h:0<ε)(ha:0<a)(hb:0<b):∃e:Rat,0<e∧e≤ε∧e*a≤b:=by
 have h1:0<b*a⁻¹:=Rat.mul_pos hb (Rat.inv_pos.2 ha)
 have h2:b*a⁻¹*a=b:=by grind
 rcases(show ε≤b*a⁻¹∨b*a⁻¹≤ε by grind)with h3 | h3
 ·exact⟨ε,h,by grind,by have:=Rat.mul_le_mul_of_nonneg_right h3 (show 0≤a by grind);grind⟩
 ·exact⟨b*a⁻¹,h1,h3,by grind⟩
theorem pair3{s t ε:Rat}{f g k:Rat→Rat}(h:Rl3 s t f g k)(he:0<ε)(hp:∀x,s≤x→x≤t→Big ε x f∨Big ε x g) :
  ∃e,0<e∧(∀x,s≤x→x≤t→Big e x g∨Big e x k)∧∀η,0<η→η≤e→∀x,s≤x→x≤t→Lnk η x f g k:=by
 obtain⟨m,n,Q,hm,hn,hQ,hr⟩:=h
 obtain⟨e,e1,e2,e3⟩:=Ih he (show 0<Q+n by grind) (Rat.mul_pos hm he)
 have key:∀η,0<η→η≤e→∀x,s≤x→x≤t→¬Big η x g→Big η x k∧f x*k x<0:=fun η h1 h2 x hs ht hg=>by
  obtain⟨q,q1,q2,q3⟩:=hr x hs ht
  obtain⟨g1,g2⟩:=Zb6 hg
  obtain⟨p1,p2⟩:=Zcy q1 q2 g1 g2 (by grind)
  have hf:Big ε x f:=(hp x hs ht).resolve_right fun h=>hg (Zu1 (by grind) h)
  have c1:η*(Q+n)≤m*ε:=by
   have:=Rat.mul_le_mul_of_nonneg_right h2 (show 0≤Q+n by grind);grind
  have c2:0<η*n:=Rat.mul_pos h1 hn
  rcases hf with hf | hf
  ·have d1:m*ε<m*f x:=by have:=Rat.mul_pos hm (show 0<f x-ε by grind);grind
   have d2:n*k x < - (n*η):=by grind
   have d3:k x < -η:=by
    rcases(show k x < -η∨-η≤k x by grind)with h9 | h9
    ·exact h9
    ·have:=Rat.mul_nonneg (a:=n) (b:=k x+η) (by grind) (by grind);grind
   refine⟨.inr d3,?_⟩
   have:=Rat.mul_pos (a:=f x) (b:=- k x) (by grind) (by grind);grind
  ·have d1:m*f x < - (m*ε):=by have:=Rat.mul_pos hm (show 0 < -ε-f x by grind);grind
   have d2:n*η<n*k x:=by grind
   have d3:η<k x:=by
    rcases(show η<k x∨k x≤η by grind)with h9 | h9
    ·exact h9
    ·have:=Rat.mul_nonneg (a:=n) (b:=η-k x) (by grind) (by grind);grind
   refine⟨.inl d3,?_⟩
   have:=Rat.mul_pos (a:=- f x) (b:=k x) (by grind) (by grind);grind
 refine⟨e,e1,fun x hs ht=>?_,fun η h1 h2 x hs ht=>⟨fun hg=>(key η h1 h2 x hs ht hg).1,fun hg=>(key η h1 h2 x hs ht hg).2⟩⟩
 by_cases hg:Big e x g
 ·exact .inl hg
 ·exact .inr (key e e1 (by grind) x hs ht hg).1
theorem pair2{s t ε:Rat}{f g:Rat→Rat}(h:Rl2 s t f g)(he:0<ε)(hp:∀x,s≤x→x≤t→Big ε x f∨Big ε x g) :
  ∃e,0<e∧∀η,0<η→η≤e→∀x,s≤x→x≤t→Big η x g:=by
 obtain⟨m,Q,hm,hQ,hr⟩:=h
 obtain⟨e,e1,e2,e3⟩:=Ih he hQ (Rat.mul_pos hm he)
 refine⟨e,e1,fun η h1 h2 x hs ht=>?_⟩
 by_cases hg:Big η x g
 ·exact hg
 ·exfalso
  obtain⟨q,q1,q2,q3⟩:=hr x hs ht
  obtain⟨g1,g2⟩:=Zb6 hg
  obtain⟨p1,p2⟩:=Zcy q1 q2 g1 g2 (by grind)
  have hf:Big ε x f:=(hp x hs ht).resolve_right fun h=>hg (Zu1 (by grind) h)
  have c1:η*Q≤m*ε:=by
   have:=Rat.mul_le_mul_of_nonneg_right h2 (show 0≤Q by grind);grind
  rcases hf with hf | hf
  ·have:=Rat.mul_pos hm (show 0<f x-ε by grind);grind
  ·have:=Rat.mul_pos hm (show 0 < -ε-f x by grind);grind
theorem Zn3{s t:Rat} : ∀(n:Nat) (f:Rat→Rat) (fs:List (Rat→Rat)) (ε:Rat),fs.length≤n→Rls s t f fs→0<ε→(∀g r,fs=g :: r→∀x,s≤x→x≤t→Big ε x f∨Big ε x g)→
  ∃e,0<e∧∀η,0<η→η≤e→∀x,s≤x→x≤t→Lnks η x f fs
 | _,f,[],ε,_,_,he,_=>⟨ε,he,fun _ _ _ _ _ _=>trivial⟩
 | 0,f,g :: r,ε,hl,_,_,_=>absurd hl (by simp)
 | n+1,f,[g],ε,_,h,he,hp=>pair2 h he (hp g [] rfl)
 | n+1,f,g :: k :: r,ε,hl,h,he,hp=>by
  obtain⟨e,e1,e2,e3⟩:=pair3 h.1 he (hp g (k :: r) rfl)
  obtain⟨e',e1',e2'⟩:=Zn3 n g (k :: r) e (by simp at hl ⊢;omega) h.2 e1 (fun k' r' heq=>by
   injection heq with h1 h2;subst h1;exact e2)
  rcases(show e≤e'∨e'≤e by grind)with h9 | h9
  ·exact⟨e,e1,fun η h1 h2 x hs ht=>⟨e3 η h1 h2 x hs ht,e2' η h1 (by grind) x hs ht⟩⟩
  ·exact⟨e',e1',fun η h1 h2 x hs ht=>⟨e3 η h1 (by grind) x hs ht,e2' η h1 h2 x hs ht⟩⟩
def Lip(s t L:Rat)(f:Rat→Rat):Prop:=∀x y,s≤x→x≤y→y≤t→f x-f y≤L*(y-x)∧f y-f x≤L*(y-x)
def vat(fs:List (Rat→Rat))(x:Rat):Int:=chg (fs.map fun g=>rsg (g x))
theorem step_eq{s t L δ:Rat}{f:Rat→Rat}{fs:List (Rat→Rat)}(hL:0<L)(hl:∀g∈f :: fs,Lip s t L g)(hd:0<δ)(hb:∀x,s≤x→x≤t→Big δ x f)(hr:Rls s t f fs) :
  ∃h,0<h∧∀x y,s≤x→x≤y→y≤t→y-x≤h→vat (f :: fs) x=vat (f :: fs) y:=by
 obtain⟨e,e1,e2⟩:=Zn3 fs.length f fs δ (Nat.le_refl _) hr hd (fun g r _ x hs ht=> .inl (hb x hs ht))
 obtain⟨η,n1,n2,n3⟩:=Ih hd (show(0:Rat)<1 by decide) e1
 obtain⟨h,h1,h2,h3⟩:=Ih n1 hL n1
 refine⟨h,h1,fun x y hx hxy hy hh=>SV.chg ?_⟩
 refine Zmz (by grind) fs.length f fs (Nat.le_refl _) (Zu1 (by grind) (hb x hx (by grind))) (fun g hg=>?_) (Zh8 _ _ _ (Nat.le_refl _) (e2 η n1 (by grind) x hx (by grind)))
 obtain⟨a,b⟩:=hl g hg x y hx hxy hy
 have:=Rat.mul_le_mul_of_nonneg_right hh (show 0≤L by grind)
 exact⟨by grind,by grind⟩
theorem Zqn{s t L δ:Rat}{f:Rat→Rat}{fs:List (Rat→Rat)}(hL:0<L)(hl:∀g∈f :: fs,Lip s t L g)(hd:0<δ)(hb:∀x,s≤x→x≤t→Big δ x f)(hr:Rls s t f fs)(hst:s≤t) :
  vat (f :: fs) s=vat (f :: fs) t:=by
 obtain⟨h,h1,h2⟩:=step_eq hL hl hd hb hr
 have key:∀n:Nat,∀y,s≤y→y≤t→y-s≤(n:Rat)*h→vat (f :: fs) s=vat (f :: fs) y:=fun n=>by
  induction n with
  | zero=>
    intro y h3 h4 h5;have:y=s:=by simp at h5;grind
    rw [this]
  | succ n ih=>
   intro y h3 h4 h5
   have h6:((n+1:Nat):Rat)*h=(n:Rat)*h+h:=by push_cast;grind
   rcases(show y-s≤(n:Rat)*h∨(n:Rat)*h<y-s by grind)with h7 | h7
   ·exact ih y h3 h4 h7
   ·have h8:(0:Rat)≤(n:Rat)*h:=Rat.mul_nonneg (by exact_mod_cast Nat.zero_le n) (by grind)
    rcases(show s≤y-h∨y-h<s by grind)with h9 | h9
    ·rw [ih (y-h) h9 (by grind) (by grind)]
     exact h2 (y-h) y h9 (by grind) h4 (by grind)
    ·exact h2 s y (by grind) h3 h4 (by grind)
 have h3:∃n:Nat,t-s≤(n:Rat)*h:=by
  have h4:0<h⁻¹:=Rat.inv_pos.2 h1
  refine⟨((t-s)*h⁻¹).ceil.toNat,?_⟩
  have h5:=@Rat.le_ceil ((t-s)*h⁻¹)
  have h6:((((t-s)*h⁻¹).ceil:Int):Rat)≤((((t-s)*h⁻¹).ceil.toNat:Nat):Rat):=by
   have:((t-s)*h⁻¹).ceil≤((((t-s)*h⁻¹).ceil.toNat:Nat):Int):=Int.self_le_toNat _
   exact_mod_cast this
  have h7:=Rat.mul_le_mul_of_nonneg_right (Rat.le_trans h5 h6) (show 0≤h by grind)
  have h8:(t-s)*h⁻¹*h=t-s:=by grind
  grind
 obtain⟨n,hn⟩:=h3
 exact key n t hst (by grind) hn
def rev:List Int→Rat→Rat
 | [],_=>0
 | c :: p,x=>(c:Rat)+x*rev p x
theorem ex_K(s t:Rat):∃K:Rat,0<K∧∀x,s≤x→x≤t→-K≤x∧x≤K:=by
 rcases(show(0≤s∨s<0) by grind)with h | h<;>rcases(show(0≤t∨t<0) by grind)with h' | h'
 ·exact⟨t+1,by grind,fun x _ _=>by grind⟩
 ·exact⟨1,by grind,fun x _ _=>by grind⟩
 ·exact⟨t-s+1,by grind,fun x _ _=>by grind⟩
 ·exact⟨-s+1,by grind,fun x _ _=>by grind⟩
theorem Zrn(s t:Rat):∀p:List Int,∃B:Rat,0<B∧∀x,s≤x→x≤t→-B≤rev p x∧rev p x≤B
 | []=>⟨1,by decide,fun x _ _=>by unfold rev;grind⟩
 | c :: p=>by
  obtain⟨B,b1,b2⟩:=Zrn s t p
  obtain⟨K,k1,k2⟩:=ex_K s t
  obtain⟨C,c1,c2⟩:=ex_K (c:Rat) (c:Rat)
  have hc:=c2 (c:Rat) (by grind) (by grind)
  refine⟨C+K*B,by have:=Rat.mul_pos k1 b1;grind,fun x hs ht=>?_⟩
  obtain⟨d1,d2⟩:=b2 x hs ht
  obtain⟨e1,e2⟩:=k2 x hs ht
  obtain⟨f1,f2⟩:=Zcy e1 e2 d1 d2 (by grind)
  unfold rev
  constructor<;>grind
theorem Ez(s t:Rat):∀p:List Int,∃L:Rat,0<L∧Lip s t L (rev p)
 | []=>⟨1,by decide,fun x y _ _ _=>by unfold rev;constructor<;>grind⟩
 | c :: p=>by
  obtain⟨L,l1,l2⟩:=Ez s t p
  obtain⟨B,b1,b2⟩:=Zrn s t p
  obtain⟨K,k1,k2⟩:=ex_K s t
  refine⟨K*L+B,by have:=Rat.mul_pos k1 l1;grind,fun x y hs hxy ht=>?_⟩
  obtain⟨a1,a2⟩:=l2 x y hs hxy ht
  obtain⟨d1,d2⟩:=b2 y (by grind) ht
  obtain⟨e1,e2⟩:=k2 x hs (by grind)
  obtain⟨f1,f2⟩:=Zcy (q:=x) (g:=rev p x-rev p y) (e:=L*(y-x)) e1 e2 (by grind) (by grind) (by grind)
  have g1:=Rat.mul_nonneg (a:=B-rev p y) (b:=y-x) (by grind) (by grind)
  have g2:=Rat.mul_nonneg (a:=B+rev p y) (b:=y-x) (by grind) (by grind)
  unfold rev
  constructor<;>grind
theorem Zhp(x:Rat):∀q:List Int,(∀i,cf q i=0)→rev q x=0
 | [],_=>rfl
 | c :: q,h=>by
  have h0:c=0:=h 0
  have h1:=Zhp x q fun i=>h (i+1)
  unfold rev;rw [h1,h0];grind
theorem Mr(x:Rat):∀p q:List Int,(∀i,cf p i=cf q i)→rev p x=rev q x
 | [],q,h=>by rw [Zhp x q fun i=>(h i).symm.trans (Qf (Nat.zero_le _))];rfl
 | c :: p,[],h=>by rw [Zhp x (c :: p) fun i=>(h i).trans (Qf (Nat.zero_le _))];rfl
 | c :: p,d :: q,h=>by
  have h0:c=d:=h 0
  have h1:=Mr x p q fun i=>h (i+1)
  unfold rev;rw [h1,h0]
def Gf:List Int→List Int→List Int
 | [],q=>q
 | p,[]=>p
 | a :: p,b :: q=>(a+b) :: Gf p q
theorem Zn7(p:List Int):Gf p []=p:=by cases p<;>rfl
theorem Qd(x:Rat):∀p q:List Int,rev (Gf p q) x=rev p x+rev q x
 | [],q=>by unfold Gf;show rev q x=0+rev q x;grind
 | a :: p,[]=>by rw [Zn7];show rev (a :: p) x=rev (a :: p) x+0;grind
 | a :: p,b :: q=>by
  have h:=Qd x p q
  unfold Gf rev;rw [h];push_cast;grind
theorem Ke:∀(p q:List Int) (i:Nat),cf (Gf p q) i=cf p i+cf q i
 | [],q,i=>by unfold Gf;rw [show cf [] i=0 from Qf (Nat.zero_le _)];omega
 | a :: p,[],i=>by rw [Zn7,show cf [] i=0 from Qf (Nat.zero_le _)];omega
 | a :: p,b :: q,0=>rfl
 | a :: p,b :: q,i+1=>Ke p q i
theorem Yd(x:Rat)(c:Int):∀p:List Int,rev (p.map fun a=>c*a) x=(c:Rat)*rev p x
 | []=>by show(0:Rat)=c*0;grind
 | a :: p=>by
  have h:=Yd x c p
  simp only [List.map_cons];unfold rev;rw [h];push_cast;grind
theorem Pg(c:Int):∀(p:List Int) (i:Nat),cf (p.map fun a=>c*a) i=c*cf p i
 | [],i=>by simp [cf]
 | a :: p,0=>rfl
 | a :: p,i+1=>Pg c p i
def Mn:List Int→List Int→List Int
 | [],_=>[]
 | c :: p,q=>Gf (q.map fun a=>c*a) (0 :: Mn p q)
theorem Yt(x:Rat):∀p q:List Int,rev (Mn p q) x=rev p x*rev q x
 | [],q=>by show(0:Rat)=0*rev q x;grind
 | c :: p,q=>by
  have h:=Yt x p q
  unfold Mn;rw [Qd,Yd]
  show(c:Rat)*rev q x+(((0:Int):Rat)+x*rev (Mn p q) x)=((c:Rat)+x*rev p x)*rev q x
  rw [h];grind
theorem Gm:∀(p q:List Int) (i:Nat),cf (Mn p q) i=Qn (fun k=>cf p k*cf q (i-k)) (i+1)
 | [],q,i=>by
  rw [show cf (Mn [] q) i=0 from Qf (Nat.zero_le _)]
  exact(Ff fun k _=>by rw [show cf [] k=0 from Qf (Nat.zero_le _),Int.zero_mul]).symm
 | c :: p,q,0=>by
  unfold Mn;rw [Ke,Pg,Xt,Gb]
  show c*cf q 0+0=0+c*cf q 0
  omega
 | c :: p,q,i+1=>by
  have h:=Gm p q i
  unfold Mn;rw [Ke,Pg,Ir]
  show c*cf q (i+1)+cf (Mn p q) i=c*cf q (i+1)+_
  rw [h]
  congr 1
  refine Xg fun k hk=>?_
  show cf p k*cf q (i-k)=cf p k*cf q (i+1-(k+1))
  rw [show i+1-(k+1)=i-k by omega]
theorem Fi{a c:Int}{x s y z:List Int}(h:∀t,a*cf x t=(ps s*ps y).c t-c*cf z t)(q:Rat):(a:Rat)*rev x q=rev s q*rev y q-(c:Rat)*rev z q:=by
 have h1:∀t,cf (Gf (x.map fun b=>a*b) (z.map fun b=>c*b)) t=cf (Mn s y) t:=fun t=>by
  rw [Ke,Pg,Pg,Gm,h t,PS.mul_c]
  show Qn (fun k=>cf s k*cf y (t-k)) (t+1)-c*cf z t+c*cf z t=_
  omega
 have h2:=Mr q _ _ h1
 rw [Qd,Yd,Yd,Yt]at h2
 grind
theorem Zrl{s t:Rat}{x y:List Int}(hx:Tr x)(hy:Tr y)(h0:y≠[])(hl:y.length≤x.length):Rl3 s t (rev x) (rev y) (rev (Lf x y)):=by
 have l0:=List.length_pos_iff.2 h0
 obtain⟨r1,r2,k,u,hk⟩:=Ag hy h0 x.length x hx (by omega)
 have hs:=Zai (f:=x.length) hx hy h0 hl (by omega)
 have htn:Tr (Zlj (Bn x.length x y)):=Qw _ _
 obtain⟨m,n,hm,hn,hp⟩:=Zb2 htn
 rw [hs]at hp
 have hK:0<Ai y^k:=Int.pow_pos (Zdc hy h0)
 obtain⟨B,b1,b2⟩:=Zrn s t u
 have hm':(0:Rat)<(m:Rat):=by exact_mod_cast hm
 have hn':(0:Rat)<(n:Rat):=by exact_mod_cast hn
 have hK':(0:Rat)<((Ai y^k:Int):Rat):=by exact_mod_cast hK
 refine⟨(n:Rat)*((Ai y^k:Int):Rat),(m:Rat),(n:Rat)*B,Rat.mul_pos hn' hK',hm',Rat.mul_pos hn' b1,fun q hq1 hq2=>⟨(n:Rat)*rev u q,?_,?_,?_⟩⟩
 ·have:=Rat.mul_nonneg (a:=(n:Rat)) (b:=rev u q+B) (by grind) (by have:=b2 q hq1 hq2;grind);grind
 ·have:=Rat.mul_nonneg (a:=(n:Rat)) (b:=B-rev u q) (by grind) (by have:=b2 q hq1 hq2;grind);grind
 ·have e1:=Fi (a:=Ai y^k) (c:=-1) (x:=x) (s:=u) (y:=y) (z:=Bn x.length x y) (fun t=>by rw [hk t];omega) q
  have e2:rev ((Lf x y).map fun b=>m*b) q=rev ((Bn x.length x y).map fun b=>(-n)*b) q:=Mr q _ _ fun i=>by
   rw [Pg,Pg,hp i,Fn,Int.mul_neg,Int.neg_mul]
  rw [Yd,Yd]at e2
  push_cast at e1 e2 ⊢
  grind
theorem rl2_of{s t:Rat}{f g:Rat→Rat}(h:Rl3 s t f g (rev [])):Rl2 s t f g:=by
 obtain⟨m,n,Q,hm,hn,hQ,hr⟩:=h
 refine⟨m,Q,hm,hQ,fun x h1 h2=>?_⟩
 obtain⟨q,q1,q2,q3⟩:=hr x h1 h2
 refine⟨q,q1,q2,?_⟩
 have:rev [] x=0:=rfl
 rw [this]at q3;grind
theorem Zji{s t:Rat} : ∀(f:Nat) (a b:List Int),Tr a→Tr b→cok f a b→∃r,Mk f a b=a :: r∧Rls s t (rev a) (r.map rev)∧(b=[]→r=[])∧(b≠[]→∃r',r=b :: r'):=fun f=>by
 induction f with
 | zero=>
  intro a b ha hb h
  have h0:b=[]:=h
  subst h0
  exact⟨[],rfl,trivial,fun _=>rfl,fun h=>absurd rfl h⟩
 | succ f ih=>
  intro a b ha hb h
  by_cases h0:b=[]
  ·subst h0
   exact⟨[],Ge _ _,trivial,fun _=>rfl,fun h=>absurd rfl h⟩
  ·obtain⟨g,hg,hd,hle,hc,hs⟩:=Zdo h h0
   obtain rfl:f=g:=by omega
   obtain⟨r,h1,h2,h3,h4⟩:=ih b (Lf a b) hb (Zaf ha) hc
   have hR:=Zrl (s:=s) (t:=t) ha hb h0 hle
   refine⟨b :: r,by rw [hs,h1],?_,fun h=>absurd h h0,fun _=>⟨r,rfl⟩⟩
   by_cases hz:Lf a b=[]
   ·rw [h3 hz]
    rw [hz]at hR
    exact rl2_of hR
   ·obtain⟨r',rfl⟩:=h4 hz
    exact⟨hR,h2⟩
theorem Zn4{s t L M:Rat}{f:Rat→Rat}(h:L≤M)(hf:Lip s t L f):Lip s t M f:=fun x y h1 h2 h3=>by
 obtain⟨a,b⟩:=hf x y h1 h2 h3
 have:=Rat.mul_le_mul_of_nonneg_right h (show 0≤y-x by grind)
 constructor<;>grind
theorem Zsy(s t:Rat):∀ls:List (List Int),∃L:Rat,0<L∧∀g∈ls.map rev,Lip s t L g
 | []=>⟨1,by decide,fun g hg=>by cases hg⟩
 | p :: ls=>by
  obtain⟨L,l1,l2⟩:=Zsy s t ls
  obtain⟨M,m1,m2⟩:=Ez s t p
  refine⟨L+M,by grind,fun g hg=>?_⟩
  rw [List.map_cons]at hg
  rcases List.mem_cons.1 hg with rfl | hg
  ·exact Zn4 (by grind) m2
  ·exact Zn4 (by grind) (l2 g hg)
theorem Zcl{s t δ:Rat}{f:Nat}{a b:List Int}(ha:Tr a)(hb:Tr b)(hc:cok f a b)(hst:s≤t)(hd:0<δ)(hB:∀x,s≤x→x≤t→Big δ x (rev a)) :
  vat ((Mk f a b).map rev) s=vat ((Mk f a b).map rev) t:=by
 obtain⟨r,h1,h2,_,_⟩:=Zji (s:=s) (t:=t) f a b ha hb hc
 obtain⟨L,l1,l2⟩:=Zsy s t (Mk f a b)
 rw [h1]at l2 ⊢
 exact Zqn l1 l2 hd hB h2 hst
def alt:List Int→List Int
 | []=>[]
 | c :: p=>c :: (alt p).map fun a=>-1*a
theorem Zwy(c:Int)(p:List Int)(X Y:Int)(h:p≠[]):pev (c :: p) X Y=c*Y^p.length+X*pev p X Y:=by
 have hl:=List.length_pos_iff.2 h
 unfold pev
 rw [List.length_cons,Ir,←Ng]
 congr 1
 ·show c*(X^0*Y^(p.length+1-1-0))=_
  rw [Int.pow_zero,Int.one_mul,show p.length+1-1-0=p.length by omega]
 ·refine Xg fun i hi=>?_
  show cf p i*(X^(i+1)*Y^(p.length+1-1-(i+1)))=X*(cf p i*(X^i*Y^(p.length-1-i)))
  rw [show p.length+1-1-(i+1)=p.length-1-i by omega,Int.pow_succ]
  grind
theorem Zr9{X Y:Int}(hY:0<Y):∀p:List Int,((pev p X Y:Int):Rat)=rev p ((X:Rat)/(Y:Rat))*(Y:Rat)^(p.length-1)
 | []=>by show(0:Rat)=0*_;grind
 | [c]=>by
  have:pev [c] X Y=c:=by unfold pev;show 0+c*(X^0*Y^0)=c;rw [Int.pow_zero,Int.pow_zero];omega
  rw [this];show(c:Rat)=(c+X/Y*0)*(Y:Rat)^0;rw [Rat.pow_zero];grind
 | c :: d :: p=>by
  have h:=Zr9 (X:=X) hY (d :: p)
  rw [Zwy c (d :: p) X Y (by simp)]
  have hy:(Y:Rat)≠0:=by
    have:(0:Rat)<(Y:Rat):=by exact_mod_cast hY
    grind
  push_cast
  rw [h]
  show(c:Rat)*(Y:Rat)^(p.length+1)+X*(rev (d :: p) (X/Y)*(Y:Rat)^(p.length+1-1))=((c:Rat)+X/Y*rev (d :: p) (X/Y))*(Y:Rat)^(p.length+1+1-1)
  rw [show p.length+1-1=p.length by omega,show p.length+1+1-1=p.length+1 by omega,Rat.pow_succ]
  generalize rev (d :: p) (X/Y)=R
  generalize (Y:Rat)^p.length=P
  have:(X:Rat)/Y*Y=X:=by grind
  grind
theorem Zvx{z:Int}{r q:Rat}(hq:0<q)(h:(z:Rat)=r*q):z.sign=rsg r:=by
 rcases(show r<0∨r=0∨0<r by grind)with h1 | h1 | h1
 ·rw [Ca h1]
  have:=Rat.mul_pos (a:=-r) (b:=q) (by grind) hq
  have h2:(z:Rat)<0:=by grind
  have h3:z<0:=by exact_mod_cast h2
  exact Int.sign_eq_neg_one_of_neg h3
 ·subst h1
  have h2:(z:Rat)=0:=by grind
  have h3:z=0:=by exact_mod_cast h2
  subst h3;rfl
 ·rw [Dz h1]
  have:=Rat.mul_pos h1 hq
  have h2:(0:Rat)<z:=by grind
  have h3:0<z:=by exact_mod_cast h2
  exact Int.sign_eq_one_of_pos h3
theorem Zcb{X Y:Int}(hY:0<Y)(p:List Int):fat X Y p=rsg (rev p ((X:Rat)/(Y:Rat))):=by
 have:(0:Rat)<(Y:Rat):=by exact_mod_cast hY
 exact Zvx (Rat.pow_pos this) (Zr9 hY p)
theorem rev_sqf{xs:List Int}{F:Nat}(hx:Tr xs)(h0:xs≠[])(hok:eok F (gA (nrm xs) (Pf (nrm xs))) (gB (nrm xs) (Pf (nrm xs)))):∃g:List Int,∀x,rev xs x=rev (sqf F xs) x*rev g x:=by
 obtain⟨f1,f2,f3,f4,f5,f6⟩:=Nh (F:=F) hx h0 hok
 have hk:∃k:Int,∀i,cf xs i=k*cf (nrm xs) i:=by
  unfold nrm Ki
  split
  ·refine⟨-Qc xs,fun i=>?_⟩
   rw [Xn,←Hj xs i];grind
  ·refine⟨Qc xs,fun i=>?_⟩
   rw [←Hj xs i];grind
 obtain⟨k,hk⟩:=hk
 refine⟨(Ku F (nrm xs) (Pf (nrm xs))).map fun a=>k*a,fun x=>?_⟩
 have h1:rev (nrm xs) x=rev (sqf F xs) x*rev (Ku F (nrm xs) (Pf (nrm xs))) x:=by
  have:=Fi (a:=1) (c:=0) (x:=nrm xs) (s:=sqf F xs) (y:=Ku F (nrm xs) (Pf (nrm xs))) (z:=[]) (fun t=>by
   have h2:=Hc (sqf F xs) (Ku F (nrm xs) (Pf (nrm xs))) t
   rw [←f4]at h2
   rw [h2];omega) x
  push_cast at this
  grind
 have h2:rev xs x=rev ((nrm xs).map fun a=>k*a) x:=Mr x _ _ fun i=>by rw [Pg];exact hk i
 rw [h2,Yd,Yd,h1];grind
theorem vat_map{ls:List (List Int)}{x:Rat}{f:List Int→Int}(h:∀p∈ls,rsg (rev p x)=f p):vat (ls.map rev) x=chg (ls.map f):=by
 unfold vat
 rw [List.map_map]
 exact congrArg chg (List.map_congr_left fun p hp=>h p hp)
theorem cnt_vat{F:Nat}{xs:List Int}{X Y:Int}(hY:0<Y):cnt F xs X Y=vat ((chn F xs).map rev) ((X:Rat)/(Y:Rat)):=
 (vat_map fun p _=>(Zcb hY p).symm).symm
theorem Ztk(t:Int):∀p:List Int,rev p (t:Rat)=((ev1 p t:Int):Rat)
 | []=>rfl
 | c :: p=>by
  have h:=Ztk t p
  rw [show rev (c :: p) (t:Rat)=(c:Rat)+(t:Rat)*rev p (t:Rat)from rfl,show ev1 (c :: p) t=c+t*ev1 p t from rfl,h];push_cast;rfl
theorem Zrm{p:List Int}(h:∀x:Rat,rev p x=0)(i:Nat):cf p i=0:=by
 by_cases h0:cf p i=0
 ·exact h0
 ·exfalso
  have:=Zho p.length p ((List.range p.length).map fun n:Nat=>(n:Int)) rfl ⟨i,h0⟩ (by
   refine List.Pairwise.map _ (fun a b hab=>?_) List.nodup_range
   intro e;exact hab (by exact_mod_cast e)) (fun t ht=>by
   have h1:=Ztk t p
   rw [h]at h1
   exact_mod_cast h1.symm)
  simp at this
theorem Mh{p q:List Int}(h:∀x:Rat,rev p x=rev q x)(i:Nat):cf p i=cf q i:=by
 have h1:=Zrm (p:=Gf p (q.map fun a=>(-1)*a)) (fun x=>by rw [Qd,Yd,h x];push_cast;grind) i
 rw [Ke,Pg]at h1;omega
theorem Lc(p:List Int)(x:Rat):rev (tzl p) x=rev p x:=Mr x _ _ fun i=>Lr p i
theorem Yz(p q:List Int)(x:Rat):rev (Mb p q) x=rev p x*rev q x:=by
 rw [←Yt];exact Mr x _ _ fun i=>by rw [Hc,Gm,PS.mul_c];rfl
theorem Ot(c:Int)(x:Rat):rev [c] x=(c:Rat):=by show(c:Rat)+x*0=c;grind
def ld:List Int→List Int
 | []=>[]
 | _ :: p=>Gf p (0 :: ld p)
theorem Zem(c:Int)(p:List Int)(x:Rat):rev (ld (c :: p)) x=rev p x+x*rev (ld p) x:=by
 rw [show ld (c :: p)=Gf p (0 :: ld p)from rfl,Qd];show rev p x+(((0:Int):Rat)+x*rev (ld p) x)=_;push_cast;grind
theorem Zin:∀(p:List Int) (i:Nat),cf (ld p) i=cf p (i+1)*((i:Int)+1)
 | [],i=>by rw [Zbh,show ld []=[]from rfl,Zbh,Int.zero_mul]
 | c :: p,0=>by
  rw [show ld (c :: p)=Gf p (0 :: ld p)from rfl,Ke];show cf p 0+0=cf p 0*_;simp
 | c :: p,i+1=>by
  have h:=Zin p i
  rw [show ld (c :: p)=Gf p (0 :: ld p)from rfl,Ke];show cf p (i+1)+cf (ld p) i=cf p (i+1)*_
  rw [h];push_cast;grind
theorem Kd(p:List Int)(x:Rat):rev (Pf p) x=rev (ld p) x:=Mr x _ _ fun i=>by rw [Zdq,Zin]
theorem Gx{p q:List Int}(h:∀x,rev p x=rev q x)(x:Rat):rev (ld p) x=rev (ld q) x:=Mr x _ _ fun i=>by rw [Zin,Zin,Mh h]
theorem rd_ladd(p q:List Int)(x:Rat):rev (ld (Gf p q)) x=rev (ld p) x+rev (ld q) x:=by
 rw [←Qd];exact Mr x _ _ fun i=>by rw [Zin,Ke,Ke,Zin,Zin];grind
theorem Cb(c:Int)(p:List Int)(x:Rat):rev (ld (p.map fun a=>c*a)) x=(c:Rat)*rev (ld p) x:=by
 rw [←Yd];exact Mr x _ _ fun i=>by rw [Zin,Pg,Pg,Zin];grind
theorem Da(x:Rat):∀p q:List Int,rev (ld (Mn p q)) x=rev (ld p) x*rev q x+rev p x*rev (ld q) x
 | [],q=>by show(0:Rat)=0*rev q x+0*rev (ld q) x;grind
 | c :: p,q=>by
  have h:=Da x p q
  rw [show Mn (c :: p) q=Gf (q.map fun a=>c*a) (0 :: Mn p q)from rfl,rd_ladd,Cb,Zem,Zem,h,Yt,show rev (c :: p) x=(c:Rat)+x*rev p x from rfl]
  grind
def Ed(g a:List Int):Prop:=∃(k:Int) (s:List Int),k≠0∧∀x:Rat,(k:Rat)*rev a x=rev s x*rev g x
theorem Ed.refl(a:List Int):Ed a a:=⟨1,[1],by decide,fun x=>by rw [Ot]⟩
theorem Ed.nil(g:List Int):Ed g []:=⟨1,[],by decide,fun x=>by show(((1:Int)):Rat)*0=0*rev g x;grind⟩
theorem Ed.trans{a b c:List Int} : Ed a b→Ed b c→Ed a c:=fun⟨k,s,hk,h⟩ ⟨m,u,hm,e⟩=>
 ⟨k*m,Mn u s,Int.mul_ne_zero hk hm,fun x=>by
  have h1:=h x
  have h2:=e x
  rw [Yt];push_cast
  have:(k:Rat)*m*rev c x=k*(m*rev c x):=by grind
  rw [this,h2];grind⟩
theorem Ed.congr{g a b:List Int}(h:Ed g a)(e:∀x,rev a x=rev b x):Ed g b:=by
 obtain⟨k,s,hk,h⟩:=h
 exact⟨k,s,hk,fun x=>by rw [←e x];exact h x⟩
theorem Ed.congr_l{g g' a:List Int}(h:Ed g a)(e:∀x,rev g x=rev g' x):Ed g' a:=by
 obtain⟨k,s,hk,h⟩:=h
 exact⟨k,s,hk,fun x=>by rw [←e x];exact h x⟩
theorem Ed.sim{g a b:List Int}(h:Ed g a)(e:Sim a b):Ed g b:=by
 obtain⟨k,s,hk,h⟩:=h
 obtain⟨m,n,hm,hn,e⟩:=e
 refine⟨k*n,s.map fun c=>m*c,Int.mul_ne_zero hk hn,fun x=>?_⟩
 have h1:rev (a.map fun c=>m*c) x=rev (b.map fun c=>n*c) x:=Mr x _ _ fun i=>by rw [Pg,Pg,e]
 rw [Yd,Yd]at h1
 rw [Yd]
 have:=h x
 push_cast
 have e2:(k:Rat)*n*rev b x=k*(n*rev b x):=by grind
 rw [e2,←h1];grind
theorem Ed.lin{g a b c:List Int}(ha:Ed g a)(hb:Ed g b)(s:List Int)(L:Int)(hL:L≠0)(h:∀x,(L:Rat)*rev c x=rev s x*rev a x+rev b x):Ed g c:=by
 obtain⟨k,u,hk,h1⟩:=ha
 obtain⟨m,v,hm,h2⟩:=hb
 refine⟨L*(k*m),Gf ((Mn s u).map fun c=>m*c) (v.map fun c=>k*c),Int.mul_ne_zero hL (Int.mul_ne_zero hk hm),fun x=>?_⟩
 have h1:=h1 x
 have h2:=h2 x
 have h:=h x
 rw [Qd,Yd,Yd,Yt]
 push_cast
 have e:(L:Rat)*(k*m)*rev c x=k*m*(L*rev c x):=by grind
 rw [e,h]
 have e2:(k:Rat)*m*(rev s x*rev a x+rev b x)=m*rev s x*(k*rev a x)+k*(m*rev b x):=by grind
 rw [e2,h1,h2];grind
theorem Ztt{g a s:List Int}{k:Int}(hk:k≠0)(hg:Tr g)(ha:Tr a)(h0:a≠[])(h:∀x:Rat,(k:Rat)*rev a x=rev s x*rev g x):g≠[]∧tzl s≠[]∧(tzl s).length+g.length≤a.length+1:=by
 have hc:∀i,k*cf a i=(ps (tzl s)*ps g).c i:=fun i=>by
  have h1:=Mh (p:=a.map fun c=>k*c) (q:=Mn (tzl s) g) (fun x=>by rw [Yd,Yt,Lc];exact h x) i
  rw [Pg,Gm]at h1
  rw [h1,PS.mul_c];rfl
 have hz:∀i,k*cf a i=0→cf a i=0:=fun i hi=>(Int.mul_eq_zero.1 hi).resolve_left hk
 have hla:=ha.mem h0
 have h1:tzl s≠[]:=fun e=>hla (hz _ (by rw [hc,e,Mu (fun t=>Qf (Nat.zero_le _))]))
 have h2:g≠[]:=fun e=>hla (hz _ (by rw [hc,e,PS.mul_comm',Mu (fun t=>Qf (Nat.zero_le _))]))
 refine⟨h2,h1,?_⟩
 have l1:=List.length_pos_iff.2 h1
 have l2:=List.length_pos_iff.2 h2
 have ht:=Dl (p:=tzl s) (q:=g) (a:=(tzl s).length-1) (b:=g.length-1) (fun i hi=>Qf (by omega)) (fun i hi=>Qf (by omega))
 rw [←hc]at ht
 have hne:=Int.mul_ne_zero ((Oy s).mem h1) (hg.mem h2)
 rcases Nat.lt_or_ge ((tzl s).length-1+(g.length-1)) a.length with h9 | h9
 ·omega
 ·rw [Qf h9,Int.mul_zero]at ht;exact absurd ht.symm hne
theorem Ed.len{g a:List Int}(h:Ed g a)(hg:Tr g)(ha:Tr a)(h0:a≠[]):g≠[]∧g.length≤a.length:=by
 obtain⟨k,s,hk,h⟩:=h
 obtain⟨a1,a2,a3⟩:=Ztt hk hg ha h0 h
 have:=List.length_pos_iff.2 a2
 exact⟨a1,by omega⟩
theorem Ed.same{g a:List Int}(h:Ed g a)(hg:Tr g)(ha:Tr a)(h0:a≠[])(hl:g.length=a.length):Ed a g:=by
 obtain⟨k,s,hk,h⟩:=h
 obtain⟨a1,a2,a3⟩:=Ztt hk hg ha h0 h
 have hl1:=List.length_pos_iff.2 a2
 match hs:tzl s,hl1,a3 with
 | [c],_,_=>
  have hc:c≠0:=by have:=(Oy s).mem a2;rw [hs]at this;exact this
  refine⟨c,[k],hc,fun x=>?_⟩
  have h1:=h x
  rw [←Lc s,hs,Ot]at h1
  rw [Ot];exact h1.symm
 | c :: d :: r,_,h9=>simp at h9;omega
theorem Zkp:∀(n:Nat) (a b:List Int),Tr a→Tr b→b.length≤n→∃g A B:List Int,Tr g∧Ed g a∧Ed g b∧∀x,rev g x=rev A x*rev a x+rev B x*rev b x
 | n,a,[],ha,hb,_=>⟨a,[1],[],ha,Ed.refl a,Ed.nil a,fun x=>by rw [Ot];show _=_+0*(0:Rat);push_cast;grind⟩
 | 0,a,c :: r,_,_,hl=>absurd hl (by simp)
 | n+1,a,c :: b',ha,hb,hl=>by
  have h0:(c :: b')≠[]:=by simp
  generalize c :: b'=b at *
  obtain⟨k,s,hs⟩:=Gy a h0
  have hL:=Nl (hb.mem h0) k
  generalize cf b (b.length-1)^k=L at hs hL
  have hlt:=Qx a h0
  obtain⟨g,A,B,g1,g2,g3,g4⟩:=Zkp n b (Pk a b) hb (Lp ha) (by omega)
  have he:∀x,(L:Rat)*rev a x=rev s x*rev b x+rev (Pk a b) x:=fun x=>by
   have:=Fi (a:=L) (c:=-1) (x:=a) (s:=s) (y:=b) (z:=Pk a b) (fun t=>by rw [hs t];omega) x
   push_cast at this;grind
  refine⟨g,B.map fun c=>L*c,Gf A ((Mn B s).map fun c=>(-1)*c),g1,g2.lin g3 s L hL he,g2,fun x=>?_⟩
  rw [Yd,Qd,Yd,Yt,g4 x]
  have:=he x
  have e:rev (Pk a b) x=L*rev a x-rev s x*rev b x:=by grind
  rw [e];push_cast;grind
def Irr(q:List Int):Prop:=Tr q∧2≤q.length∧∀d,Tr d→Ed d q→d.length≤1∨d.length=q.length
theorem Zax{q:List Int}(h:2≤q.length):q≠[]:=fun e=>by rw [e]at h;simp at h
theorem irr_ex:∀(n:Nat) (q:List Int),q.length≤n→Tr q→2≤q.length→∃p,Irr p∧Ed p q
 | 0,q,hl,_,h2=>by omega
 | n+1,q,hl,ht,h2=>by
  by_cases h:Irr q
  ·exact⟨q,h,Ed.refl q⟩
  ·have:∃d,Tr d∧Ed d q∧¬(d.length≤1∨d.length=q.length):=by
    refine Classical.byContradiction fun h9=>h ⟨ht,h2,fun d hd he=>Classical.byContradiction fun h8=>h9 ⟨d,hd,he,h8⟩⟩
   obtain⟨d,hd,he,hn⟩:=this
   have hle:=(he.len hd ht (Zax h2)).2
   obtain⟨p,hp,hp2⟩:=irr_ex n d (by omega) hd (by omega)
   exact⟨p,hp,hp2.trans he⟩
theorem Ci{q f h m:List Int}{k:Int}(hq:Irr q)(hk:k≠0)(e:∀x:Rat,(k:Rat)*(rev f x*rev h x)=rev m x*rev q x):Ed q f∨Ed q h:=by
 obtain⟨hq1,hq2,hq3⟩:=hq
 obtain⟨g,A,B,g1,g2,g3,g4⟩:=Zkp _ q (tzl f) hq1 (Oy f) (Nat.le_refl _)
 have hg:=(g2.len g1 hq1 (Zax hq2)).1
 rcases hq3 g g1 g2 with h1 | h1
 ·right
  match g,hg,h1,g1,g4 with
  | [c],_,_,g1,g4=>
   have hc:c≠0:=g1.mem (by simp)
   refine⟨c*k,Gf ((Mn A h).map fun c=>k*c) (Mn B m),Int.mul_ne_zero hc hk,fun x=>?_⟩
   have h4:=g4 x
   have h5:=e x
   rw [Ot,Lc]at h4
   rw [Qd,Yd,Yt,Yt]
   push_cast
   rw [h4]
   have:(rev A x*rev q x+rev B x*rev f x)*k*rev h x=k*rev A x*rev q x*rev h x+rev B x*(k*(rev f x*rev h x)):=by grind
   rw [this,h5];grind
  | c :: d :: r,_,h9,_,_=>simp at h9
 ·left
  have h2:=g2.same g1 hq1 (Zax hq2) h1
  exact(h2.trans g3).congr fun x=>Lc f x
def Aj(q:List Int):Nat→List Int
 | 0=>[1]
 | n+1=>Mb q (Aj q n)
theorem Bb{q:List Int}(hq:Tr q)(h2:2≤q.length):∀n,Tr (Aj q n)∧n+1≤(Aj q n).length
 | 0=>⟨.inr (show cf [1] 0≠0 by decide),Nat.le_refl _⟩
 | n+1=>by
  obtain⟨h1,h3⟩:=Bb hq h2 n
  refine⟨Pi _ _,?_⟩
  show n+1+1≤(Mb q (Aj q n)).length
  rw [Oe hq h1 (Zax h2) (fun e=>by rw [e]at h3;simp at h3)]
  omega
theorem Hx(q:List Int)(n:Nat)(x:Rat):rev (Aj q (n+1)) x=rev q x*rev (Aj q n) x:=Yz _ _ _
theorem Zlc(q:List Int):∀(n:Nat) (x:Rat),rev (ld (Aj q (n+1))) x=((n:Rat)+1)*(rev (Aj q n) x*rev (ld q) x)
 | n,x=>by
  have h1:rev (ld (Aj q (n+1))) x=rev (ld (Mn q (Aj q n))) x:=Gx (fun y=>by rw [Hx,Yt]) x
  rw [h1,Da]
  match n with
  | 0=>
   rw [show rev (ld (Aj q 0)) x=0 from by rw [show Aj q 0=[1]from rfl,Zem];show(0:Rat)+x*0=0;grind]
   simp;grind
  | n+1=>
   rw [Zlc q n x,Hx];push_cast;grind
theorem Zvu{p s g q u:List Int}{c:Int}{k:Nat}(hps:∀x:Rat,rev p x=rev s x*rev g x)(hgr:∀d,Tr d→Ed d p→Ed d (ld p)→Ed d g)(hq:Irr q)(h1:Ed q s)(h2:Ed q (ld s))(hk:Ed (Aj q k) g):Ed (Aj q (k+1)) g:=by
 obtain⟨hq1,hq2,hq3⟩:=hq
 obtain⟨c1,s1,k1,e1⟩:=h1
 obtain⟨c2,s2,k2,e2⟩:=h2
 have d1:∀x:Rat,(c1:Rat)*rev (ld s) x=rev (ld s1) x*rev q x+rev s1 x*rev (ld q) x:=fun x=>by
  have:=Gx (p:=s.map fun a=>c1*a) (q:=Mn s1 q) (fun y=>by rw [Yd,Yt];exact e1 y) x
  rwa [Cb,Da]at this
 have h3:Ed q s1:=by
  rcases Ci (f:=s1) (h:=ld q) (m:=Gf (s2.map fun a=>c1*a) ((ld s1).map fun a=>(-c2)*a)) ⟨hq1,hq2,hq3⟩ k2 (fun x=>by
   have a1:=d1 x
   have a2:=e2 x
   rw [Qd,Yd,Yd];push_cast
   have:(c2:Rat)*(rev s1 x*rev (ld q) x)=c1*(c2*rev (ld s) x)-c2*(rev (ld s1) x*rev q x):=by grind
   rw [this,a2];grind)with h9 | h9
  ·exact h9
  ·exfalso
   have h8:Ed q (Pf q):=h9.congr fun x=>(Kd q x).symm
   have hl:=Oj q
   have:=(h8.len hq1 (Nv hq1) (fun e=>by rw [e]at hl;simp at hl;omega)).2
   omega
 obtain⟨c3,s3,k3,e3⟩:=h3
 obtain⟨c,u,kc,eu⟩:=hk
 have hP:∀x:Rat,((c1*c3*c:Int):Rat)*rev p x=rev (Mn s3 u) x*rev (Aj q (k+1+1)) x:=fun x=>by
  rw [hps x,Yt,Hx,Hx];push_cast
  have a1:=e1 x
  have a3:=e3 x
  have a4:=eu x
  have:(c1:Rat)*c3*c*(rev s x*rev g x)=c3*(c1*rev s x)*(c*rev g x):=by grind
  rw [this,a1,a4]
  have:(c3:Rat)*(rev s1 x*rev q x)*(rev u x*rev (Aj q k) x)=(c3*rev s1 x)*rev q x*(rev u x*rev (Aj q k) x):=by grind
  rw [this,a3];grind
 have hC:c1*c3*c≠0:=Int.mul_ne_zero (Int.mul_ne_zero k1 k3) kc
 generalize c1*c3*c=C at hP hC
 have hD:∀x:Rat,(C:Rat)*rev (ld p) x=rev (ld (Mn s3 u)) x*rev (Aj q (k+1+1)) x+rev (Mn s3 u) x*((((k+1:Nat):Rat)+1)*(rev (Aj q (k+1)) x*rev (ld q) x)):=fun x=>by
  have:=Gx (p:=p.map fun a=>C*a) (q:=Mn (Mn s3 u) (Aj q (k+1+1))) (fun y=>by rw [Yd,Yt];exact hP y) x
  rwa [Cb,Da,Zlc]at this
 refine hgr _ (Bb hq1 hq2 _).1 ⟨C,Mn (Mn s3 u) q,hC,fun x=>?_⟩ ⟨C,Gf (Mn (ld (Mn s3 u)) q) ((Mn (Mn s3 u) (ld q)).map fun a=>((k+2:Nat):Int)*a),hC,fun x=>?_⟩
 ·rw [hP x,Yt _ (Mn s3 u),Hx q (k+1)];grind
 ·rw [hD x,Qd,Yd,Yt _ (ld (Mn s3 u)),Yt _ (Mn s3 u),Hx q (k+1)];push_cast;grind
theorem Zvw{p s g q:List Int}(hps:∀x:Rat,rev p x=rev s x*rev g x)(hg:Tr g)(g0:g≠[])(hgr:∀d,Tr d→Ed d p→Ed d (ld p)→Ed d g)(hq:Tr q)(h1:Ed q s)(h2:Ed q (ld s)):q.length≤1:=by
 refine Classical.byContradiction fun h=>?_
 obtain⟨r,hr,hr2⟩:=irr_ex _ q (Nat.le_refl _) hq (by omega)
 have key:∀k,Ed (Aj r k) g:=fun k=>by
  induction k with
  | zero=>exact⟨1,g,by decide,fun x=>by rw [show Aj r 0=[1]from rfl,Ot];push_cast;grind⟩
  | succ k ih=>exact Zvu (u:=[]) (c:=0) hps hgr hr (hr2.trans h1) (hr2.trans h2) ih
 obtain⟨a1,a2⟩:=Bb hr.1 hr.2.1 g.length
 have:=((key g.length).len a1 hg g0).2
 omega
theorem ed_rest{d a b:List Int}(hb:Tr b)(h0:b≠[])(h1:Ed d a)(h2:Ed d b):Ed d (Pk a b):=by
  obtain⟨k,s,hs⟩:=Gy a h0
  have hL:=Nl (hb.mem h0) k
  generalize cf b (b.length-1)^k=L at hs hL
  have he:∀x,(L:Rat)*rev a x=rev s x*rev b x+rev (Pk a b) x:=fun x=>by
    have:=Fi (a:=L) (c:=-1) (x:=a) (s:=s) (y:=b) (z:=Pk a b) (fun t=>by rw [hs t];omega) x
    push_cast at this;grind
  have h3:Ed d (a.map fun c=>L*c):=by
    obtain⟨k,u,hk,e⟩:=h1
    exact⟨k,u.map fun c=>L*c,hk,fun x=>by rw [Yd,Yd];have:=e x;grind⟩
  exact h2.lin h3 (s.map fun c=>(-1)*c) 1 (by decide) fun x=>by
    rw [Yd,Yd];push_cast;have:=he x;grind
theorem Zog{d:List Int} : ∀(f:Nat) {a b:List Int},Tr a→Tr b→Ed d a→Ed d b→Ed d (eu f a b)
  | 0,a,b,_,_,h1,_=>h1
  | f+1,a,b,ha,hb,h1,h2=>by
    by_cases h0:b=[]
    · rw [h0,Ek];exact h1
    · rw [show eu (f + 1) a b = eu f b (Yx (Pk a b)) by
          conv=>lhs;unfold eu
          rw [if_neg h0]]
      have t1:=Lp (q:=b) ha
      exact Zog f hb (Xi t1) h2 ((ed_rest hb h0 h1 h2).sim (Qo t1).symm)
theorem Zf9{F:Nat}{d p q:List Int}(hp:Tr p)(hq:Tr q)(h1:Ed d p)(h2:Ed d q):Ed d (Ku F p q):=by
  have a1:=h1.sim (Qo hp).symm
  have a2:=h2.sim (Qo hq).symm
  unfold Ku
  refine Ed.sim ?_ (Kg _).symm
  refine Zog F (Zi6 hp hq) (Zi5 hp hq) ?_ ?_
  · unfold gA;split<;>assumption
  · unfold gB;split<;>assumption
theorem Zea{xs:List Int}{F:Nat}(hx:Tr xs)(h0:xs≠[])(hok:eok F (gA (nrm xs) (Pf (nrm xs))) (gB (nrm xs) (Pf (nrm xs)))){q:List Int}(hq:Tr q)(h1:Ed q (sqf F xs))(h2:Ed q (Pf (sqf F xs))):q.length≤1:=by
  obtain⟨f1,f2,f3,f4,f5,f6⟩:=Nh (F:=F) hx h0 hok
  have hs:Tr (nrm xs):=Nk (Xi hx)
  have hd:Tr (Pf (nrm xs)):=Nv hs
  refine Zvw (p:=nrm xs) (s:=sqf F xs) (g:=Ku F (nrm xs) (Pf (nrm xs))) (fun x=>?_) (Zbt hs hd) f5 (fun d _ a b=>?_) hq h1 (h2.congr fun x=>Kd _ x)
  · have:rev (nrm xs) x=rev (Mb (sqf F xs) (Ku F (nrm xs) (Pf (nrm xs)))) x:=by rw [←f4]
    rw [this,Yz]
  · exact Zf9 hs hd a (b.congr fun x=>(Kd _ x).symm)
theorem Cr:∀(l:List Int) (n z:Int),(l.foldl Kx (n,z)).1=n+(l.foldl Kx (0,z)).1
 | [],n,z=>by simp
 | x :: l,n,z=>by
  simp only [List.foldl_cons]
  by_cases h:x=0
  ·have e:∀n,Kx (n,z) x=(n,z):=fun n=>by unfold Kx;rw [if_pos h]
   rw [e,e];exact Cr l n z
  ·by_cases h2:x=-z
   ·have e:∀n,Kx (n,z) x=(n+1,x):=fun n=>by unfold Kx;rw [if_neg h,if_pos (by dsimp only;exact h2)]
    rw [e,e,Cr l (n+1) x,Cr l (0+1) x];omega
   ·have e:∀n,Kx (n,z) x=(n,x):=fun n=>by unfold Kx;rw [if_neg h,if_neg (by dsimp only;exact h2)]
    rw [e,e];exact Cr l n x
theorem chg_two{x y:Int}(l:List Int)(hy:y≠0):chg (x :: y :: l)=chg (y :: l)+(if x=-y then 1 else 0):=by
 unfold chg
 simp only [List.foldl_cons]
 have h1:Kx (0,0) y=(0,y):=by unfold Kx;rw [if_neg hy,if_neg (by dsimp only;omega)]
 rw [h1]
 by_cases hx:x=0
 ·have h2:Kx (0,0) x=(0,0):=by unfold Kx;rw [if_pos hx]
  rw [h2,h1,if_neg (by omega)];omega
 ·have h2:Kx (0,0) x=(0,x):=by unfold Kx;rw [if_neg hx,if_neg (by dsimp only;omega)]
  rw [h2]
  have h3:Kx (0,x) y=(if x=-y then 1 else 0,y):=by
   unfold Kx;rw [if_neg hy]
   by_cases h:x=-y
   ·rw [if_pos (by dsimp only;omega),if_pos h];rfl
   ·rw [if_neg (by dsimp only;omega),if_neg h]
  rw [h3,Cr];omega
def crs(f:Rat→Rat)(u v:Rat):Int:=if f u≠0∧f u*f v≤0 then 1 else 0
theorem Zhq(s t:Rat):∀p:List Int,∃M:Rat,0<M∧∀x y,s≤x→x≤y→y≤t→
  -(M*(y-x)*(y-x))≤rev p y-rev p x-(y-x)*rev (ld p) x∧rev p y-rev p x-(y-x)*rev (ld p) x≤M*(y-x)*(y-x)
 | []=>⟨1,by decide,fun x y h1 h2 h3=>by
   have:=Rat.mul_nonneg (a:=y-x) (b:=y-x) (by grind) (by grind)
   show -(1*(y-x)*(y-x))≤(0:Rat)-0-(y-x)*0∧(0:Rat)-0-(y-x)*0≤1*(y-x)*(y-x)
   constructor<;>grind⟩
 | c :: p=>by
  obtain⟨M,m1,m2⟩:=Zhq s t p
  obtain⟨L,l1,l2⟩:=Ez s t p
  obtain⟨K,k1,k2⟩:=ex_K s t
  refine⟨L+K*M,by have:=Rat.mul_pos k1 m1;grind,fun x y hs hxy ht=>?_⟩
  obtain⟨a1,a2⟩:=m2 x y hs hxy ht
  obtain⟨b1,b2⟩:=l2 x y hs hxy ht
  obtain⟨e1,e2⟩:=k2 x hs (by grind)
  have hd:0≤y-x:=by grind
  obtain⟨f1,f2⟩:=Zcy (q:=x) (Q:=K) (g:=rev p y-rev p x-(y-x)*rev (ld p) x) (e:=M*(y-x)*(y-x)) e1 e2 a1 a2 (by grind)
  have g1:=Rat.mul_nonneg (a:=y-x) (b:=L*(y-x)-(rev p y-rev p x)) hd (by grind)
  have g2:=Rat.mul_nonneg (a:=y-x) (b:=L*(y-x)+(rev p y-rev p x)) hd (by grind)
  rw [Zem,show rev (c :: p) y=(c:Rat)+y*rev p y from rfl,show rev (c :: p) x=(c:Rat)+x*rev p x from rfl]
  constructor<;>grind
theorem Zt9{a b:List Int}(ha:Tr a)(hb:Tr b)(h0:a≠[])(hc:∀q,Tr q→Ed q a→Ed q b→q.length≤1)(s t:Rat):∃ε:Rat,0<ε∧∀x,s≤x→x≤t→Big ε x (rev a)∨Big ε x (rev b):=by
 obtain⟨g,A,B,g1,g2,g3,g4⟩:=Zkp _ a b ha hb (Nat.le_refl _)
 have hl:=hc g g1 g2 g3
 have hg:=(g2.len g1 ha h0).1
 match g,hg,hl,g1,g4 with
 | [c],_,_,g1,g4=>
  have hc0:c≠0:=g1.mem (by simp)
  obtain⟨P,p1,p2⟩:=Zrn s t A
  obtain⟨Q,q1,q2⟩:=Zrn s t B
  obtain⟨ε,e1,e2,e3⟩:=Ih (show(0:Rat)<1 by decide) (show 0<(P+Q)+(P+Q) by grind) (show(0:Rat)<1 by decide)
  refine⟨ε,e1,fun x hs ht=>?_⟩
  by_cases h1:Big ε x (rev a)
  ·exact .inl h1
  ·by_cases h2:Big ε x (rev b)
   ·exact .inr h2
   ·exfalso
    obtain⟨a1,a2⟩:=Zb6 h1
    obtain⟨b1,b2⟩:=Zb6 h2
    obtain⟨c1,c2⟩:=p2 x hs ht
    obtain⟨d1,d2⟩:=q2 x hs ht
    obtain⟨u1,u2⟩:=Zcy c1 c2 a1 a2 (by grind)
    obtain⟨v1,v2⟩:=Zcy d1 d2 b1 b2 (by grind)
    have h4:=g4 x
    rw [Ot]at h4
    have h5:(c:Rat)≤-1∨1≤(c:Rat):=by
     rcases Int.lt_or_gt_of_ne hc0 with h | h
     ·left;have:((c:Int):Rat)≤((-1:Int):Rat):=by exact_mod_cast (show c≤-1 by omega)
      rwa [show(((-1:Int)):Rat)=-1 from rfl]at this
     ·right;have:1≤c:=by omega
      exact_mod_cast this
    rcases h5 with h5 | h5<;>grind
 | c :: d :: r,_,h9,_,_=>simp at h9
theorem Big.near{ε x y:Rat}{f:Rat→Rat}(h:Big ε x f)(h1:f x-f y≤ε/2)(h2:f y-f x≤ε/2):Big (ε/2) y f:=by
 unfold Big at *;grind
end Go.Sky

