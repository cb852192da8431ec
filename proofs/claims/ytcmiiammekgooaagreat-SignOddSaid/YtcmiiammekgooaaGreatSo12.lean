/- rules, arithmetic and contracts: part 13
   Proved without conditions of its own: each theorem bears its own. -/
import Derived.Test.YtcmiiammekgooaaGreatSo11
import Derived.Test.YtcmiiammekgooaaGreatSo03
import Derived.Test.YtcmiiammekgooaaGreatSo02
import Derived.Test.YtcmiiammekgooaaGreatSo01
set_option linter.all false
namespace Go.Sky
theorem Zdb{p:List Int}(h:Vp p)(hz:∀i,i<p.length→bl (cf p (i+1)*((i:Int)+1)).natAbs≤65536):Vp (Pj p):=by
 refine⟨fun i=>?_,Ma h.tr,by rw [Nh];have:=h.len;omega⟩
 rw [Zc3]
 by_cases hi:i<p.length
 ·exact hz i hi
 ·rw [Qe (by omega)];simp [La]
theorem sf_t{xs:List Int}(h:xs.length=0):Value.bool (decide (Za7 xs))= .bool true:=congrArg Value.bool (decide_eq_true (.inl h))
theorem sf_i{xs:List Int}{n:Int}(h:xs.length≠0)(hn:n=(((xs.length+2)*(xs.length+2)*(msz xs+16):Nat):Int)):Value.bool (decide (Za7 xs))= .bool (decide (n≤65536)):=congrArg Value.bool (decide_eq_decide.2 (by
 subst hn
 show(xs.length=0∨(xs.length+2)*(xs.length+2)*(msz xs+16)≤65536)↔_
 constructor
 ·intro h1;rcases h1 with h1 | h1
  ·exact absurd h1 h
  ·exact Int.ofNat_le.2 h1
 ·intro h1;exact .inr (Int.ofNat_le.1 h1)))
theorem Zqa{x y:List Int}(h:(Ph x y).length=0):Lj x y=[]:=by
 have h1:Ph x y=[]:=List.eq_nil_of_length_eq_zero h
 unfold Lj;rw [h1];split<;>rfl
theorem snext_a{x y:List Int}(hl:y.length≤x.length)(h1:(cf y (y.length-1)).sign<0)(h2:((x.length:Int)-(y.length:Int)+1)%2=1):Lj x y=Yx (Ph x y):=by
 unfold Lj;rw [if_pos ⟨(Qk _).1 h1,by omega⟩]
theorem Zqc{x y:List Int}(h1:¬(cf y (y.length-1)).sign<0):Lj x y=Xk (Yx (Ph x y)) (-1):=by
 unfold Lj;rw [if_neg (fun h=>h1 ((Qk _).2 h.1))]
theorem Zqb{x y:List Int}(hl:y.length≤x.length)(h2:¬((x.length:Int)-(y.length:Int)+1)%2=1):Lj x y=Xk (Yx (Ph x y)) (-1):=by
 unfold Lj;rw [if_neg (fun h=>h2 (by omega))]
end Go.Sky
namespace Go.Sky
theorem Zmf{xs:List Int}{F:Nat}(hv:Vp xs)(h0:xs≠[])(h:sqOK F xs):Vp (sqf F xs):=by
 obtain⟨_,_,_,h4,h5⟩:=h
 have hn:=Zpw hv
 unfold sqf Ki
 split
 ·exact⟨Sz.nil _,Tr.nil,by simp⟩
 ·rename_i h6
  rcases h5 with h5 | h5
  ·exact absurd h5 h6
  ·have h7:=(Bs h4).2 h5.1
   refine⟨?_,Ol _,?_⟩
   ·rw [←Zaj];exact(Zp4 h7 h5.2.1 _).tzl
   ·have h8:=Hu (Zjq (nrm xs) (Ko F (nrm xs) (Pj (nrm xs))) ((nrm xs).length-(Ko F (nrm xs) (Pj (nrm xs))).length+1))
    rw [Zaj,Ep]at h8
    have:=hn.len
    have:=(Bs h4).1
    omega
theorem Zfu{xs:List Int}{F:Nat}(hv:Vp xs)(h:sqOK F xs):(sqf F xs).length≤xs.length:=by
 obtain⟨_,_,_,h4,h5⟩:=h
 have hl:=Pn hv.tr
 unfold sqf Ki
 split
 ·exact Nat.zero_le _
 ·rename_i h6
  rcases h5 with h5 | h5
  ·exact absurd h5 h6
  ·have h8:=Hu (Zjq (nrm xs) (Ko F (nrm xs) (Pj (nrm xs))) ((nrm xs).length-(Ko F (nrm xs) (Pj (nrm xs))).length+1))
   rw [Zaj,Ep]at h8
   have:=(Bs h4).1
   have:=h5.1
   omega
end Go.Sky
namespace Go.Sky
theorem Zw8{L:List Int}{i:Nat}{n l s:Int}(hi:i<L.length)(h:(n,l)=(L.take i).foldl Hi (0,0))(hs:L.getD i 0=s)(h0:s=0):(n,l)=(L.take (i+1)).foldl Hi (0,0):=by
 rw [Om 0 L i hi,Zbl,←h,hs];unfold Hi;rw [if_pos h0]
theorem Zw7{L:List Int}{i:Nat}{n l s:Int}(hi:i<L.length)(h:(n,l)=(L.take i).foldl Hi (0,0))(hs:L.getD i 0=s)(h0:s≠0)(h1:s=-l):(n+1,s)=(L.take (i+1)).foldl Hi (0,0):=by
 rw [Om 0 L i hi,Zbl,←h,hs];unfold Hi;rw [if_neg h0];dsimp only;rw [if_pos h1]
theorem Zw6{L:List Int}{i:Nat}{n l s:Int}(hi:i<L.length)(h:(n,l)=(L.take i).foldl Hi (0,0))(hs:L.getD i 0=s)(h0:s≠0)(h1:¬s=-l):(n,s)=(L.take (i+1)).foldl Hi (0,0):=by
 rw [Om 0 L i hi,Zbl,←h,hs];unfold Hi;rw [if_neg h0];dsimp only;rw [if_neg h1]
theorem chg_end{L:List Int}{i:Nat}{n l:Int}(hi:L.length≤i)(h:(n,l)=(L.take i).foldl Hi (0,0)):n=chg L:=by
 rw [List.take_of_length_le hi]at h
 unfold chg;rw [←h]
theorem Zvf(z:Int):-1≤z.sign∧z.sign≤1:=by
 rcases Int.lt_trichotomy z 0 with h | h | h
 ·rw [Int.sign_eq_neg_one_of_neg h];omega
 ·subst h;simp
 ·rw [Int.sign_eq_one_of_pos h];omega
theorem Zwf{α:Type}(d:α)(f:α→Int)(ls:List α){i:Nat}(h:i<ls.length):(ls.map f).getD i 0=f (ls.getD i d):=by
 simp [List.getD_eq_getElem?_getD,h]
def sgx(ls:List (SL×List Int))(f:List Int→Int):List Int:=ls.map fun z=>f z.2
theorem Zmu(ls:List (SL×List Int))(f:List Int→Int){i:Nat}(h:i<ls.length):(sgx ls f).getD i 0=f (ls.getD i ((none,0,0),[])).2:=Zwf _ _ _ h
theorem Zfv(ls:List (SL×List Int))(f:List Int→Int):(sgx ls f).length=ls.length:=List.length_map ..
def fr(p:List Int):Int:=(cf p (p.length-1)).sign
def fl(p:List Int):Int:=if p.length%2=0 then-(cf p (p.length-1)).sign else(cf p (p.length-1)).sign
def fat(x y:Int)(p:List Int):Int:=(pev p x y).sign
theorem fat_r(x y:Int)(p:List Int):-1≤fat x y p∧fat x y p≤1:=Zvf _
end Go.Sky
namespace Go.Sky
theorem Zij:∀(f:Nat) {x y:List Int},Vp x→Vp y→cok f x y→∀p∈Lb f x y,Vp p
 | 0,x,y,hx,_,_,p,hp=>by rw [List.mem_singleton.1 hp];exact hx
 | f+1,x,y,hx,hy,h,p,hp=>by
  unfold Lb at hp
  split at hp
  ·rw [List.mem_singleton.1 hp];exact hx
  ·rcases h with h | h
   ·contradiction
   ·rcases List.mem_cons.1 hp with rfl | hp
    ·exact hx
    ·exact Zij f hy (Zmg hx h.1) h.2.2 p hp
theorem vp_chn{xs:List Int}{F:Nat}(hv:Vp xs)(h0:xs≠[])(hC:Zeu F xs):∀p∈chn F xs,Vp p:=by
 obtain⟨h1,h2,h3⟩:=hC
 have hq:=Zmf hv h0 h1
 exact Zij F hq (Lt (Zdb hq (fun i hi=>h2 i (by have:=Zfu hv h1;omega)))) h3
def cnt(F:Nat)(xs:List Int)(x y:Int):Int:=chg ((chn F xs).map (fat x y))
def sright(F:Nat)(xs:List Int):Int:=chg ((chn F xs).map fr)
def sleft(F:Nat)(xs:List Int):Int:=chg ((chn F xs).map fl)
theorem Zqk{ls:List (SL×List Int)}{C:List (List Int)}(h:ls.map Prod.snd=C)(f:List Int→Int):sgx ls f=C.map f:=by
 rw [←h,List.map_map];rfl
theorem Xw{ls:List (SL×List Int)}{C:List (List Int)}{p:List Int→Prop}(h:ls.map Prod.snd=C)(hp:∀q∈C,p q):∀z∈ls,p z.2:=fun z hz=>hp _ (h▸List.mem_map_of_mem hz)
theorem Zel(L:List Int):0≤chg L∧chg L≤L.length:=by
 unfold chg
 suffices h:∀(l:List Int) (s:Int×Int),s.1≤(l.foldl Hi s).1∧(l.foldl Hi s).1≤s.1+l.length by
  have:=h L (0,0);simpa using this
 intro l
 induction l with
 | nil=>intro s;simp
 | cons x l ih=>
  intro s
  have h1:=ih (Hi s x)
  have h2:=chg1_n s x
  simp only [List.foldl_cons,List.length_cons]
  omega
theorem Zaa:∀(f:Nat) (x y:List Int),(Lb f x y).length≤f+1
 | 0,x,y=>Nat.le_refl _
 | f+1,x,y=>by
  unfold Lb;split
  ·simp
  ·have:=Zaa f y (Lj x y);simp;omega
end Go.Sky
namespace Go.Sky
def sm(xs:List Int)(i:Nat):Nat:=(xs.take i).foldl (fun m c=>max m c.natAbs) 0
end Go.Sky
namespace Go.Sky
end Go.Sky
namespace Go.Sky
theorem Zd8{x y:Int}(h:¬Ih x y):Zcn x y=x/Hy x y∧Zb0 x y=y/Hy x y∧rerr x y=0:=⟨if_neg h,if_neg h,if_neg h⟩
theorem nr_bl{x y:Int}(h:¬Ih x y):bl (Zcn x y).natAbs≤65536∧bl (Zb0 x y).natAbs≤65536:=by
 obtain⟨h1,h2,_⟩:=Zd8 h
 rw [h1,h2]
 unfold Ih at h
 omega
theorem Zrr{x y:Int}(h:¬Ih x y)(hy:0<y):0<Zb0 x y:=by
 rw [(Zd8 h).2.1];exact Zsa hy
end Go.Sky
namespace Go.Sky
abbrev R2:=Int×Int
def Mk(a b:R2):R2:=(Zcn (Zcn (a.1*b.2+b.1*a.2) (a.2*b.2)*1) (Zb0 (a.1*b.2+b.1*a.2) (a.2*b.2)*2),Zb0 (Zcn (a.1*b.2+b.1*a.2) (a.2*b.2)*1) (Zb0 (a.1*b.2+b.1*a.2) (a.2*b.2)*2))
def Ze0(a b:R2):Prop:=¬Ih (a.1*b.2+b.1*a.2) (a.2*b.2)∧¬Ih (Zcn (a.1*b.2+b.1*a.2) (a.2*b.2)*1) (Zb0 (a.1*b.2+b.1*a.2) (a.2*b.2)*2)
instance (a b:R2):Decidable (Ze0 a b):=by unfold Ze0;infer_instance
theorem Zr3{a b:R2}(h:Ze0 a b):rerr (Zcn (a.1*b.2+b.1*a.2) (a.2*b.2)*1) (Zb0 (a.1*b.2+b.1*a.2) (a.2*b.2)*2)=0:=(Zd8 h.2).2.2
def isp(cv:R2→Int)(hv:Int):Nat→R2→R2→Int→Int→Nat→List (R2×R2)
 | 0,_,_,_,_,_=>[]
 | f+1,a,b,fr,to,d=>if fr=to then []else if fr-to=1∧hv≤(d:Int)then [(a,b)]else isp cv hv f a (Mk a b) fr (cv (Mk a b)) (d+1) ++ isp cv hv f (Mk a b) b (cv (Mk a b)) to (d+1)
def Zwl(cv:R2→Int)(ok:R2→Prop)(hv:Int):Nat→R2→R2→Int→Int→Nat→Prop
 | 0,_,_,_,_,_=>False
 | f+1,a,b,fr,to,d=>fr=to∨(fr-to=1∧hv≤(d:Int))∨(d<1000∧Ze0 a b∧ok (Mk a b)∧Zwl cv ok hv f a (Mk a b) fr (cv (Mk a b)) (d+1)∧Zwl cv ok hv f (Mk a b) b (cv (Mk a b)) to (d+1))
instance ispDec (cv:R2→Int) (ok:R2→Prop) [DecidablePred ok] (hv:Int):∀f a b fr to d,Decidable (Zwl cv ok hv f a b fr to d)
 | 0,_,_,_,_,_=>inferInstanceAs (Decidable False)
 | f+1,a,b,fr,to,d=>@instDecidableOr _ _ _ (@instDecidableOr _ _ _ (@instDecidableAnd _ _ _ (@instDecidableAnd _ _ _ (@instDecidableAnd _ _ _ (@instDecidableAnd _ _ (ispDec cv ok hv f a (Mk a b) fr (cv (Mk a b)) (d+1)) (ispDec cv ok hv f (Mk a b) b (cv (Mk a b)) to (d+1)))))))
def okQ(z:R2):Prop:=bl z.1.natAbs≤65536∧bl z.2.natAbs≤65536∧0<z.2
def evok(ls:List (SL×List Int))(m:R2):Prop:=∀z∈ls,¬Ke z.2 m.1 m.2
def cvx(ls:List (SL×List Int))(m:R2):Int:=chg (sgx ls (fat m.1 m.2))
end Go.Sky
namespace Go.Sky
def cvc(F:Nat)(xs:List Int)(m:R2):Int:=cnt F xs m.1 m.2
def evc(F:Nat)(xs:List Int)(m:R2):Prop:=∀p∈chn F xs,¬Ke p m.1 m.2
def slow(a:R2):R2:=(Zcn a.1 a.2,Zb0 a.1 a.2)
def sisol(F:Nat)(xs:List Int)(f:Nat)(a b:R2)(hq:Int):List (R2×R2):=isp (cvc F xs) hq f (slow a) (slow b) (cvc F xs a) (cvc F xs b) 0
def isOK(F:Nat)(xs:List Int)(f:Nat)(a b:R2)(hq:Int):Prop:=Zeu F xs∧evc F xs a∧evc F xs b∧¬Ih a.1 a.2∧¬Ih b.1 b.2∧Zwl (cvc F xs) (evc F xs) hq f (slow a) (slow b) (cvc F xs a) (cvc F xs b) 0∧(sisol F xs f a b hq).length≤1000000
end Go.Sky
namespace Go.Sky
end Go.Sky
namespace Go.Sky
end Go.Sky
namespace Go.Sky
open Go.Proofs
set_option maxRecDepth 20000
set_option maxHeartbeats 4000000
set_option linter.unusedSimpArgs false
theorem st_fits(v:Value)(xs:List Int)(hv:Vp xs):Cal Tryz.prog 197 #[v] [slp 2 wv v xs] false (G:=Unit) (fun _=>True) (fun _=> .bool (decide (Za7 xs))) (fun _=>[]):=by
 refine Yd Tryz.func197 J Tryz.ntmps197 J K1 ?_
 intro w0 sc hw hsc
 simp only [Zp,Zn]
 have hlen:=hv.len
 have hmz:=Pz hv.sz
 have q1:(xs.length+2)*(xs.length+2)≤27*27:=Nat.mul_le_mul (by omega) (by omega)
 have q2:(xs.length+2)*(xs.length+2)*(msz xs+16)≤27*27*65552:=Nat.mul_le_mul q1 (by omega)
 have q3:((xs.length:Int)-1+3)*((xs.length:Int)-1+3)=(((xs.length+2)*(xs.length+2):Nat):Int):=by rw [show(xs.length:Int)-1+3=((xs.length+2:Nat):Int) by omega];push_cast;rfl
 have q4:((xs.length:Int)-1+3)*((xs.length:Int)-1+3)*((msz xs:Int)+16)=(((xs.length+2)*(xs.length+2)*(msz xs+16):Nat):Int):=by rw [q3];push_cast;rfl
 refine Zb<|Zg<|as_ J J<|Zf<|Za<|Zb<|Zb<|Zg<|mv J J<|tt (Zh (n:=1) (Xm _ _ (by assumption)) J J J K1 Zcf (Zd 1 J J J Ze) J hw) J fun _ _=>dt (Xo J J) J<|Zf<|Za<|Yf J<|Zk<|Za<|Zb<|Zg<|mv J J<|tt (Zh (n:=1) (Zd2 _ _ hv) J J J K1 cF105 (Zd 1 J J J Ze) J hw) J fun _ _=>mv J J<|dt (Yg J J J) J<|dt (Yg J J J) J<|as_ J J<|as_ J J<|Zf<|Za<|Zb<|Zg<|mv J J<|tt (Zh (n:=1) (Zi8 _ _ hv) J J J K1 cF106 (Zd 1 J J J Ze) J hw) J fun _ _=>mv J J<|dt (Yg J J J) J<|dt (Yg J J J) J<|as_ J J<|as_ J J<|Zf<|Za<|Zb<|Zg<|mv J J<|dt (Zy J J (i:=1) J Zi Qn) J<|dt (Pi J J J) J<|mv J J<|Qx (d:=23) J (fun s24=>?_) (fun s24=>?_)
 ·exact gsk J J J J J<|gsk J J J J J<|gsk J J J J J<|gsk J J J J J<|gsk J J J J J<|gsk J J J J J<|gsk J J J J J<|gsk J J J J J<|gsk J J J J J<|dt (Xh J J J) J<|as_ J J<|Zf<|Za<|Zu<|Zv (.inl J) hsc () _ (fun a w hs=>Qj hs Tryz.results197 J) (by first | exact sf_t (by omega) | exact sf_i (by omega) q4) trivial J Zj
 ·exact gdt (Ym J J) J J J J<|gdt (Yt J J J ⟨by omega,by omega⟩) J J J J<|gdt (Ym J J) J J J J<|gdt (Yt J J J ⟨by omega,by omega⟩) J J J J<|gdt (Gz J J J (by rw [q3];exact⟨by omega,by omega⟩)) J J J J<|gdt (Ym J J) J J J J<|gdt (Yt J J J ⟨by omega,by omega⟩) J J J J<|gdt (Gz J J J (by rw [q4];exact⟨by omega,by omega⟩)) J J J J<|gdt (De J J J) J J J J<|dt (Yh J J J) J<|as_ J J<|Zf<|Za<|Zu<|Zv (.inl J) hsc () _ (fun a w hs=>Qj hs Tryz.results197 J) (by first | exact sf_t (by omega) | exact sf_i (by omega) q4) trivial J Zj
theorem Zp8(v:Value)(xs:List Int)(hv:Vp xs):Cal Tryz.prog 183 #[v,.slice none 0 0] [slp 2 wv v xs] false (G:=Unit) (fun _=>True) (fun _=> .int .i64 (chk0 xs)) (fun _=>[]):=by
 refine Yd Tryz.func183 J Tryz.ntmps183 J K1 ?_
 intro w0 sc hw hsc
 simp only [Zp,Zn]
 refine Ys (Nj 999 2 31 wv)<|Ys (Po 999 J J pV)<|Zb<|Zg<|as_ J J<|Zf<|Za<|Zb<|Zg<|mv J J<|tt (Zh (n:=1) (st_fits _ _ hv) J J J K1 cF197 (Zd 1 J J J Ze) J hw) J fun _ _=>dt (Ze2 J J) J<|as_ J J<|Zf<|Za<|Zb<|Zb<|Zg<|mv J J<|dt (Zy J J (i:=999) J Zi uT83) J<|mv J J<|Zf<|Za<|Zl<|Nt [(0,_),(1,_),(13,_),(14,_)] [(0,_),(1,_),(999,_)] (fun(_:Unit)=>[(15,.int .i64 0),(5,.bool (decide (¬Za7 xs)))]) (fun(_:Unit)=>[]) (fun(_:Unit)=>True) (fun(_:Unit)=>0) () trivial K6 K3 ?_
 rintro _ -
 simp only [List.cons_append,List.nil_append]
 refine Zb<|Zg<|dt (Ye (r':= .bool false) (Qb J J J) (congrArg Value.bool (by decide))) J<|Zf<|Za<|Zb<|Yf J<|Yu<|Zs<|Zs<|Ox<|Za<|Zb<|Zb<|Zg<|mv J J<|tt (Zh (n:=1) (Xm _ _ (by assumption)) J J J K1 Zcf (Zd 1 J J J Ze) J hw) J fun _ _=>dt (Xo J J) J<|Zf<|Za<|Yf J<|Zk<|Za<|Zb<|Zb<|Zg<|mv J J<|dt (Zy J J (i:=1) J Zi Qn) J<|dt (Pi J J J) J<|Zf<|Za<|Zq J (fun h39=>?_) (fun h39=>?_)
 ·exact Zb<|Zg<|as_ J J<|Zf<|Za<|Zu<|Xe<|Zv (.inl J) hsc () _ (fun a w hs=>Qj hs Tryz.results183 J) (by unfold chk0;rw [if_pos (by omega)]) trivial J Zj
 ·refine Zk<|Za<|Zb<|Zb<|Zg<|mv J J<|dt (Zy J J (i:=999) J Zi uT83) J<|dt (Ye (r':= .bool false) (Pi J J J) (congrArg Value.bool (by decide))) J<|Zf<|Za<|Yf J<|Zk<|Za<|Zb<|Zb<|Zg<|mv J J<|Zf<|Za<|Mq J (fun h47=>?_) (fun h47=>?_)
  ·exact Zb<|Zg<|as_ J J<|Zf<|Za<|Zu<|Xe<|Zv (.inl J) hsc () _ (fun a w hs=>Qj hs Tryz.results183 J) (by unfold chk0;rw [if_neg (by omega),if_neg (by simpa using h47)]) trivial J Zj
  ·exact Zk<|Za<|Zb<|Zg<|as_ J J<|Zf<|Za<|Zu<|Zv (.inl J) hsc () _ (fun a w hs=>Qj hs Tryz.results183 J) (by unfold chk0;rw [if_neg (by omega),if_pos (by simpa using h47)]) trivial J Zj
theorem Zkg(v:Value)(xs:List Int)(hv:Vp xs)(h0:xs≠[]):Cal Tryz.prog 184 #[v] [slp 2 wv v xs] true (G:=Value) (fun r=>True) (fun r=> .tuple #[r,.int .i64 0]) (fun r=>[slp 2 wv r (nrm xs)]):=by
 refine Yd Tryz.func184 J Tryz.ntmps184 J K1 ?_
 intro w0 sc hw hsc
 simp only [Zp,Zn]
 have hvp:=Lt hv
 have hl0:=List.length_pos_iff.2 h0
 have hlp:=Yi xs
 have hlen:=hv.len
 refine Zb<|Zg<|as_ J J<|as_ J J<|Zf<|Za<|Zb<|Zg<|mv J J<|tt (Zh (n:=2) (Mc _ _ hv) J J J K1 Zl2 (Zd 1 J J J Ze) J hw) J fun _ _=>mv J J<|dt (Yg J J J) J<|dt (Yg J J J) J<|as_ J J<|as_ J J<|Zf<|Za<|Zb<|Zb<|Zg<|mv J J<|dt (Ye (r':= .bool true) (Pi J J J) (congrArg Value.bool (by decide))) J<|mv J J<|gdt (Ym J J) J J J J<|gdt (Ym J J) J J J J<|gdt (Zy J J (i:=2) J Zi Qn) J J J J<|gdt (Qg J J J ⟨by omega,by omega⟩) J J J J<|gdt (Yz (ii:=2) (i:=((Yx xs).length-1)) J J J J Zi Qn Yk (by omega) (by omega)) J J J J<|gdt (Xs (ii:=2) 0 J J J Zi pV (by first | omega | (simp only [List.length_set];omega))) J J J J<|gtt (Zh (n:=2) (Mh _ (hvp.sz _)) J J J K1 Zbt Ze J hw) J J J J fun _ _=>gdt (Qb J J J) J J J J<|dt (Xh J J J) J<|Zf<|Za<|Zq J (fun h56=>?_) (fun h56=>?_)
 ·exact Zb<|Zg<|mv J J<|tt (Zh (n:=2) (Xa _ ⟨by decide,by decide⟩) J J J K1 Cu Ze J hw) J fun _ _=>tt (Zh (n:=3) (Fq _ _ _ hvp (by decide +kernel) (fun i=>Bu hvp.sz i)) J J J K2 Zt0 (Zd 2 J J J Ze) J hw) J fun _ _=>dt (Yg J J J) J<|dt (Yg J J J) J<|as_ J J<|as_ J J<|Zf<|Za<|Zu<|Xe<|Zv (.inl J) hsc _ _ (fun a w hs=>Ni hs Tryz.results184 J J) J trivial J (Yj 3 J J J (by rw [Zhm (by omega) ((Qk _).1 (by assumption))]<;>rfl) Zj)
 ·exact Zk<|Za<|Zb<|Zg<|mv J J<|mv J J<|as_ J J<|as_ J J<|Zf<|Za<|Zu<|Zv (.inl J) hsc _ _ (fun a w hs=>Ni hs Tryz.results184 J J) J trivial J (Yj 2 J J J (by rw [Zhl (fun h=>by have h2:=(Qk _).2 h;exact absurd h2 (by assumption))]<;>rfl) Zj)
theorem st_sqf(v:Value)(xs:List Int)(hv:Vp xs)(h0:xs≠[])(hf:Za7 xs)(F:Nat)(hS:sqOK F xs):Cal Tryz.prog 161 #[v] [slp 2 wv v xs] true (G:=Value) (fun r=>True) (fun r=> .tuple #[r,.int .i64 0]) (fun r=>[slp 2 wv r (sqf F xs)]):=by
 refine Yd Tryz.func161 J Tryz.ntmps161 J K1 ?_
 intro w0 sc hw hsc
 simp only [Zp,Zn]
 obtain⟨hS1,hS2,hS3,hS4,hS5⟩:=hS
 have hvn:=Zpw hv
 have hln:=Pn hv.tr
 have hvd:Vp (Pj (nrm xs)):=Zdb hvn (fun i hi=>hS1 i (by omega))
 have hvg:=Zpv hvn hvd hS3
 have hc0:=chk0_ok h0 hf
 refine Ys (Nj 999 2 31 wv)<|Ys (Po 999 J J pV)<|Zb<|Zg<|as_ J J<|as_ J J<|Zf<|Za<|Zb<|Zb<|Zg<|mv J J<|tt (Zh (n:=1) (Zp8 _ _ hv) J J J K2 cF183 (Zd 1 J J J Ze) J hw) J fun _ _=>as_ J J<|Zf<|Za<|Zb<|Zg<|mv J J<|dt (Qd J J J) J<|Zf<|Za<|Zq J (fun h64=>?_) (fun h64=>?_)
 ·exfalso;omega
 ·refine Zk<|Za<|Zb<|Zg<|mv J J<|tt (Zh (n:=2) (Zkg _ _ hv h0) J J J K1 cF184 (Zd 1 J J J Ze) J hw) J fun _ _=>mv J J<|dt (Yg J J J) J<|dt (Yg J J J) J<|as_ J J<|as_ J J<|Zf<|Za<|Zb<|Zb<|Zg<|mv J J<|dt (Ye (r':= .bool false) (Qd J J J) (congrArg Value.bool (by decide))) J<|Zf<|Za<|Yf J<|Zk<|Za<|Zb<|Zg<|mv J J<|tt (Zh (n:=3) (Eo _ _ hvn (fun i=>by by_cases hi:i<xs.length;exact hS1 i hi;rw [Qe (by omega)];simp [La])) J J J K1 Zxg (Zd 2 J J J Ze) J hw) J fun _ _=>mv J J<|dt (Yg J J J) J<|dt (Yg J J J) J<|as_ J J<|as_ J J<|Zf<|Za<|Zb<|Zb<|Zg<|mv J J<|dt (Ye (r':= .bool false) (Qd J J J) (congrArg Value.bool (by decide))) J<|Zf<|Za<|Yf J<|Zk<|Za<|Zb<|Zg<|mv J J<|mv J J<|tt (Zh (n:=4) (Zm8 _ _ _ _ hvn hvd F hS2 hS3) J J J K2 cF110 (Zd 2 J J J (Zd 3 J J J Ze)) J hw) J fun _ _=>mv J J<|dt (Yg J J J) J<|dt (Yg J J J) J<|as_ J J<|as_ J J<|Zf<|Za<|Zb<|Zb<|Zg<|mv J J<|dt (Ye (r':= .bool false) (Qd J J J) (congrArg Value.bool (by decide))) J<|Zf<|Za<|Yf J<|Zk<|Za<|Zb<|Zg<|mv J J<|mv J J ?_
  exact tt (Zh (n:=5) (Bm _ _ _ _ hvn hvg hS4) J J J K2 cF111 (Zd 2 J J J (Zd 4 J J J Ze)) J hw) J fun _ _=>dt (Yg J J J) J<|dt (Yg J J J) J<|as_ J J<|as_ J J<|Zf<|Za<|Zu<|Zv (.inl J) hsc _ _ (fun a w hs=>Ni hs Tryz.results161 J J) (by rw [if_pos hS5]<;>rfl) trivial J (Yj 5 J J J (by rw [if_pos hS5]<;>rfl) Zj)
end Go.Sky
namespace Go.Sky
open Go.Proofs
set_option maxRecDepth 20000
set_option maxHeartbeats 4000000
set_option linter.unusedSimpArgs false
theorem st_next(v u:Value)(xs ys:List Int)(hv:Vp xs)(hu:Vp ys)(h0:ys≠[])(hd:Zc1 xs ys=0)(hl:ys.length≤xs.length):Cal Tryz.prog 162 #[v,u] [slp 2 wv v xs,slp 2 wv u ys] true (G:=Value) (fun r=>True) (fun r=> .tuple #[r,.int .i64 0]) (fun r=>[slp 2 wv r (Lj xs ys)]):=by
 refine Yd Tryz.func162 J Tryz.ntmps162 J K2 ?_
 intro w0 sc hw hsc
 simp only [Zp,Zn]
 have hvr:=Cg hv hd
 have hvp:=Lt hvr
 have hlen:=hv.len
 have hlen2:=hu.len
 have hl0:=List.length_pos_iff.2 h0
 refine Ys (Nj 999 2 31 wv)<|Ys (Po 999 J J pV)<|Zb<|Zg<|as_ J J<|as_ J J<|Zf<|Za<|Zb<|Zg<|mv J J<|mv J J<|tt (Zh (n:=3) (Zi5 _ _ _ _ hv hu hd) J J J K2 cF155 (Zd 1 J J J (Zd 2 J J J Ze)) J hw) J fun _ _=>mv J J<|dt (Yg J J J) J<|dt (Yg J J J) J<|as_ J J<|as_ J J<|Zf<|Za<|Zb<|Zb<|Zg<|mv J J<|dt (Ye (r':= .bool false) (Qd J J J) (congrArg Value.bool (by decide))) J<|mv J J<|gdt (Ym J J) J J J J<|gdt (Zy J J (i:=3) J Zi Qn) J J J J<|gdt (Pi J J J) J J J J<|dt (Yh J J J) J<|Zf<|Za<|Zq J (fun h85=>?_) (fun h85=>?_)
 ·exact Zb<|Zg<|mv J J<|as_ J J<|as_ J J<|Zf<|Za<|Zu<|Xe<|Zv (.inl J) hsc (.slice none 0 0) _ (fun a w hs=>Ni hs Tryz.results162 J J) J trivial J (Ld (Zqa (by omega)) Zj)
 ·refine Zk<|Za<|Zb<|Zg<|mv J J<|tt (Zh (n:=4) (Mc _ _ hvr) J J J K1 Zl2 (Zd 3 J J J Ze) J hw) J fun _ _=>mv J J<|dt (Yg J J J) J<|dt (Yg J J J) J<|as_ J J<|as_ J J<|Zf<|Za<|Zb<|Zb<|Zg<|mv J J<|dt (Ye (r':= .bool false) (Qd J J J) (congrArg Value.bool (by decide))) J<|Zf<|Za<|Yf J<|Zk<|Za<|Zb<|Zg<|mv J J<|dt (Zy J J (i:=1) J Zi Qn) J<|mv J J<|dt (Zy J J (i:=2) J Zi Qn) J<|dt (Qg J J J ⟨by omega,by omega⟩) J<|dt (Yt J J J ⟨by omega,by omega⟩) J<|as_ J J<|Zf<|Za<|Zb<|Zb<|Zg<|mv J J<|mv J J<|dt (Zy J J (i:=2) J Zi Qn) J<|dt (Qg J J J ⟨by omega,by omega⟩) J<|dt (Yz (ii:=2) (i:=(ys.length-1)) J J J J Zi Qn Yk (by omega) (by omega)) J<|dt (Xs (ii:=2) 0 J J J Zi pV (by first | omega | (simp only [List.length_set];omega))) J<|tt (Zh (n:=4) (Mh _ (hu.sz _)) J J J K1 Zbt Ze J hw) J fun _ _=>dt (Qb J J J) J<|mv J J<|Qx (d:=45) J (fun s94=>?_) (fun s94=>?_)
  ·refine gdt (Ym J J) J J J J<|gdt (Zjt J J J (by omega) (by omega)) J J J J<|gdt (Pi J J J) J J J J<|dt (Xh J J J) J<|Zf<|Za<|Zq J (fun h94=>?_) (fun h94=>?_)
   ·exact Zb<|Zg<|mv J J<|as_ J J<|as_ J J<|Zf<|Za<|Zu<|Xe<|Zv (.inl J) hsc _ _ (fun a w hs=>Ni hs Tryz.results162 J J) J trivial J (Yj 4 J J J (by rw [snext_a hl (by assumption) (by assumption)]<;>rfl) Zj)
   ·exact Zk<|Za<|Zb<|Zg<|mv J J<|tt (Zh (n:=4) (Xa _ ⟨by decide,by decide⟩) J J J K1 Cu Ze J hw) J fun _ _=>tt (Zh (n:=5) (Fq _ _ _ hvp (by decide +kernel) (fun i=>Bu hvp.sz i)) J J J K2 Zt0 (Zd 4 J J J Ze) J hw) J fun _ _=>dt (Yg J J J) J<|dt (Yg J J J) J<|as_ J J<|as_ J J<|Zf<|Za<|Zu<|Zv (.inl J) hsc _ _ (fun a w hs=>Ni hs Tryz.results162 J J) J trivial J (Yj 5 J J J (by first | (rw [Zqc (by assumption)]<;>rfl) | (rw [Zqb hl (by assumption)]<;>rfl)) Zj)
  ·exact gsk J J J J J<|gsk J J J J J<|gsk J J J J J<|dt (Yh J J J) J<|Zf<|Za<|Yf J<|Zk<|Za<|Zb<|Zg<|mv J J<|tt (Zh (n:=5) (Xa _ ⟨by decide,by decide⟩) J J J K1 Cu Ze J hw) J fun _ _=>tt (Zh (n:=6) (Fq _ _ _ hvp (by decide +kernel) (fun i=>Bu hvp.sz i)) J J J K2 Zt0 (Zd 4 J J J Ze) J hw) J fun _ _=>dt (Yg J J J) J<|dt (Yg J J J) J<|as_ J J<|as_ J J<|Zf<|Za<|Zu<|Zv (.inl J) hsc _ _ (fun a w hs=>Ni hs Tryz.results162 J J) J trivial J (Yj 6 J J J (by first | (rw [Zqc (by assumption)]<;>rfl) | (rw [Zqb hl (by assumption)]<;>rfl)) Zj)
theorem Zu2(v:Value)(xs:List Int)(hv:Vp xs)(h0:xs≠[])(hf:Za7 xs)(F:Nat)(hC:Zeu F xs):Cal Tryz.prog 118 #[v] [slp 2 wv v xs] true (G:=Value×List (SL×List Int)) (fun r=>r.2.map Prod.snd=chn F xs) (fun r=> .tuple #[r.1,.int .i64 0]) (fun r=>[Zam 1 Zaz qZ r.1 r.2]):=by
 refine Yd Tryz.func118 J Tryz.ntmps118 J K1 ?_
 intro w0 sc hw hsc
 simp only [Zp,Zn]
 obtain⟨hC1,hC2,hC3⟩:=hC
 have hvq:=Zmf hv h0 hC1
 have hlq:=Zfu hv hC1
 have hvqd:Vp (Pj (sqf F xs)):=Zdb hvq (fun i hi=>hC2 i (by omega))
 refine Ys (Nj 999 2 31 wv)<|Ys (Po 999 J J pV)<|Zb<|Zg<|as_ J J<|as_ J J<|Zf<|Za<|Zb<|Zg<|mv J J<|tt (Zh (n:=2) (st_sqf _ _ hv h0 hf F hC1) J J J K1 cF161 (Zd 1 J J J Ze) J hw) J fun _ _=>mv J J<|dt (Yg J J J) J<|dt (Yg J J J) J<|as_ J J<|as_ J J<|Zf<|Za<|Zb<|Zb<|Zg<|mv J J<|dt (Ye (r':= .bool false) (Qd J J J) (congrArg Value.bool (by decide))) J<|Zf<|Za<|Yf J<|Zk<|Za<|Zb<|Zg<|mv J J<|tt (Zh (n:=3) (Eo _ _ hvq (fun i=>by by_cases hi:i<xs.length;exact hC2 i hi;rw [Qe (by omega)];simp [La])) J J J K1 Zxg (Zd 2 J J J Ze) J hw) J fun _ _=>mv J J<|dt (Yg J J J) J<|dt (Yg J J J) J<|as_ J J<|as_ J J<|Zf<|Za<|Zb<|Zb<|Zg<|mv J J<|dt (Ye (r':= .bool true) (Pi J J J) (congrArg Value.bool (by decide))) J<|Zf<|Za<|Nf J<|Zg<|mv J J<|tt (Zh (n:=80) (Mc _ _ hvqd) J J J K1 Zl2 (Zd 3 J J J Ze) J hw) J fun _ _=>mv J J<|dt (Yg J J J) J<|dt (Yg J J J) J<|as_ J J<|as_ J J<|Zf<|Za<|Zb<|Zb<|Zg<|mv J J<|dt (Ye (r':= .bool false) (Qd J J J) (congrArg Value.bool (by decide))) J<|Zf<|Za<|Yf J<|Zk<|Za<|Zb ?_
 refine e_ex (Oq 2 J Zi) (fun ss hss=>?_)
 subst hss
 refine Ys (Lg qZ 71)<|Ys (Oo (q:=qZ) (z:=(ss,sqf F xs)) 71 2 71 J J J J J)<|e_ex (Oq 80 J Zi) (fun sd0 hsd=>?_)
 subst hsd
 refine Zg<|mv J J<|tt (Pt (i:=70) (ivs:=[(0,_)]) (enc:=Zaz) [(ss,sqf F xs)] J J J K2 Zj7 Tryz.ti23 J J J J J J pS.cells J J hw) J fun v _=>as_ J J<|Zf<|Za<|Zb<|Zl<|Nt [] [(0,_),(1,_),(999,_),(2,_),(3,_)] (fun(q:List (SL×List Int)×SL×List Int×SL×List Int×Nat×Value)=>[(7,q.2.2.2.2.2.2),(6,svv q.2.2.2.1)]) (fun(q:List (SL×List Int)×SL×List Int×SL×List Int×Nat×Value)=>[(70,osl 1 23 Zaz q.2.2.2.2.2.2 (q.1 ++ [(q.2.1,q.2.2.1)])),(71,Zcw qZ (q.1 ++ [(q.2.1,q.2.2.1)])),(80,slp 2 wv (svv q.2.2.2.1) q.2.2.2.2.1)]) (fun(q:List (SL×List Int)×SL×List Int×SL×List Int×Nat×Value)=>(Vp q.2.2.1)∧(Vp q.2.2.2.2.1)∧(cok q.2.2.2.2.2.1 q.2.2.1 q.2.2.2.2.1)∧(q.1.map Prod.snd ++ Lb q.2.2.2.2.2.1 q.2.2.1 q.2.2.2.2.1=chn F xs)∧(q.1.length+q.2.2.2.2.1.length≤25)) (fun(q:List (SL×List Int)×SL×List Int×SL×List Int×Nat×Value)=>q.2.2.2.2.1.length) ([],ss,sqf F xs,sd0,Yx (Pj (sqf F xs)),F,_) ⟨hvq,Lt hvqd,hC3,J,by rw [Yi];simp;have:=hvqd.len;omega⟩ K2 K8 ?_
 rintro⟨ws,sx,x,sd,y,f,vo⟩ ⟨hvx,hvy,hck,hch,hwl⟩
 dsimp only at hvx hvy hck hch hwl
 simp only [List.cons_append,List.nil_append]
 refine Zb<|Zb<|Zg<|mv J J<|dt (Zy J J (i:=80) J Zi Qn) J<|dt (On J J J) J<|Zf<|Za<|Zq J (fun h114=>?_) (fun h114=>?_)
 ·have hy0:y≠[]:=fun e=>by rw [e]at h114;simp at h114
  obtain⟨f0,rfl,hd,hle,hck2,hsc2⟩:=Zh1 hck hy0
  refine Zk<|Za<|Zl<|Zb<|Zg<|mv J J<|mv J J<|tt (Pt (i:=4) (ivs:=[(0,_)]) (enc:=Zaz) [(sd,y)] J J J K2 Zj7 Tryz.ti23 J J J J J J pS.cells J J hw) J fun v_2 _=>tt (Kt (i:=70) (j:=4) (by_:=24) J J J J J J (by decide) J (Yn pS) Zj7 Tryz.ti23 J pS J J J (by simp;omega) (by decide) J hw) J fun v_3 _=>as_ J J<|Zf<|Za<|Zb ?_
  have hll:(ws ++ [(sx,x)] ++ [(sd,y)]).length=ws.length+2:=by simp
  refine Ys (Oo (q:=qZ) (z:=(sd,y)) 71 80 71 J J J J J)<|Ys (s_many (q:=qZ) 71 92 (sx,x) J J (by simp) J)<|Zg<|mv J J<|mv J J<|dt (Zy J J (i:=70) J (Yn pS) Zj7) J<|dt (Qg J J J ⟨by omega,by omega⟩) J<|dt (Yz (ii:=70) (i:=ws.length) J J J J (Yn pS) Zj7 zT23 (by omega) (by omega)) J<|dt (Ye (r':=svv sx) (Xs (ii:=70) Z0 J J J (Yn pS) pS (by omega)) (by simp [List.getD_eq_getElem?_getD])) J ?_
  refine mv J J<|tt (Zh (n:=80) (st_next _ _ _ _ hvx hvy hy0 hd hle) J J J K2 cF162 (Zd 92 J J J (Zd 80 J J J Ze)) J hw) J fun _ _=>l_ex (Oq 80 J Zi) (fun sn hsn=>?_)
  subst hsn
  exact mv J J<|dt (Yg J J J) J<|dt (Yg J J J) J<|as_ J J<|as_ J J<|Zf<|Za<|Zb<|Zg<|mv J J<|dt (Ye (r':= .bool false) (Qd J J J) (congrArg Value.bool (by decide))) J<|Zf<|Za<|Yf J<|Zk<|Ob<|Xq (ws ++ [(sx,x)],sd,y,sn,Lj x y,f0,_) ⟨hvy,Zmg hvx hd,hck2,by rw [←hch,hsc2];simp,by have h7:=Pb x hy0;have h8:=Dq (y:=y) hvx.tr;simp;omega⟩ (by have h7:=Pb x hy0;have h8:=Dq (y:=y) hvx.tr;dsimp only;omega) K2 K8
 ·refine Yu<|Zs<|Zs<|Ox<|Za<|Zb ?_
  obtain rfl:y=[]:=List.eq_nil_of_length_eq_zero (by omega)
  exact Ys (Po 70 J J pS)<|Ys (Lu 70 71 72 J J J J)<|Zg<|mv J J<|as_ J J<|as_ J J<|Zf<|Za<|Zu<|Zv (.inl J) hsc (_,ws ++ [(sx,x)]) _ (fun a w hs=>Ni hs Tryz.results118 J J) J (by rw [←hch,Fl];simp) J (Xb 72 J J J Zj)
end Go.Sky
namespace Go.Sky
theorem Zqh{c:Int} : c.sign<0↔c<0:=Qk c
end Go.Sky
namespace Go.Sky
abbrev RWL:=List (Bool×ByteArray)
def smallR(r:RWL):Bool:=decide (r.length≤8) && r.all fun c=>decide (c.2.size≤6)
end Go.Sky
namespace Go.Sky
noncomputable def dec (r:RWL):List Int:=if h:okP r=true then(okP_ex h).choose else []
theorem Zeh{r:RWL}(h:okP r=true):Vp (dec r)∧r=(dec r).map wr:=by
 unfold dec;rw [dif_pos h];exact(okP_ex h).choose_spec
noncomputable def bdE (r:RWL):Int:=if okP r=true then chk0 (dec r)else 2
noncomputable def bdZ (r:RWL):Int:=if bdE r=0 then sbound (dec r)else 0
theorem Zgq{r:RWL}(h:okP r=true)(v:Value)(w:World)(hh:(slp 2 Zf0 v r).holds w):(slp 2 wv v (dec r)).holds w:=
 Zqd v (dec r) w ((Zeh h).2▸hh)
end Go.Sky
namespace Go.Sky
end Go.Sky
namespace Go.Sky
end Go.Sky
namespace Go.Sky
abbrev qT (z:SL×List (Int×SL)):Pc:=pp (svv z.1) z.2
abbrev T0:SL×List (Int×SL):=((none,0,0),[])
abbrev intsT (zs:List (SL×List (Int×SL))):List (List Int):=zs.map fun z=>Zw z.2
end Go.Sky
namespace Go.Sky
def firstE(r:RWL)(x y x2 y2:Int):Int:=if okP r=true then(if r.length=0∨0<x*y2-x2*y then 3 else 0)else 2
theorem Zt6{n:Nat}(k:Nat)(h:(Xd n).size≤k):bl n≤8*k:=by
 have h1:=Ms n
 have h2:=Zab n
 omega
end Go.Sky
namespace Go.Sky
end Go.Sky
namespace Go.Sky
def chke:Nat→Nat→Nat→Nat→Nat→Bool
 | 0,la,_,A,_=>Nat.ble (A+la*64) 65500
 | f+1,la,lb,A,B=>Nat.ble (A+la*64) 65500 && (Nat.beq lb 0 || (List.range lb).all fun l=>chke f lb l B (bif Nat.ble l 1 then 2 else A+(la-lb+1)*B))
end Go.Sky
namespace Go.Sky
inductive SV:List Int→List Int→Prop
 | one (a:Int):SV [a] [a]
 | step (a:Int) (r t:List Int):SV r t→SV (a :: r) (a :: t)
 | skip (a u w:Int) (r t:List Int):(a=1∨a=-1)→(-1≤u∧u≤1)→(-1≤w∧w≤1)→SV (-a :: r) (-a :: t)→SV (a :: u :: -a :: r) (a :: w :: -a :: t)
theorem Zjw{s:Int×Int}{a u:Int}(ha:a=1∨a=-1)(hu:-1≤u∧u≤1):Hi (Hi (Hi s a) u) (-a)=Hi (Hi s a) (-a):=by
 obtain⟨n,l⟩:=s
 have h3:u=-1∨u=0∨u=1:=by omega
 rcases ha with rfl | rfl<;>rcases h3 with rfl | rfl | rfl<;>simp [Hi]
theorem SV.fold{a b:List Int}(h:SV a b):∀s,a.foldl Hi s=b.foldl Hi s:=by
 induction h with
 | one a=>intro s;rfl
 | step a r t _ ih=>intro s;exact ih (Hi s a)
 | skip a u w r t ha hu hw _ ih=>
  intro s
  show(r.foldl Hi (Hi (Hi (Hi s a) u) (-a)))=(t.foldl Hi (Hi (Hi (Hi s a) w) (-a)))
  rw [Zjw ha hu,Zjw ha hw]
  exact ih (Hi s a)
theorem SV.chg{a b:List Int}(h:SV a b):chg a=chg b:=congrArg Prod.fst (h.fold (0,0))
def rsg(x:Rat):Int:=if x<0 then -1 else if x=0 then 0 else 1
theorem rsg_r(x:Rat):-1≤rsg x∧rsg x≤1:=by unfold rsg;split;decide;split<;>decide
theorem Dj{x:Rat}(h:0<x):rsg x=1:=by unfold rsg;rw [if_neg (by grind),if_neg (by grind)]
theorem Dk{x:Rat}(h:x<0):rsg x=-1:=by unfold rsg;rw [if_pos h]
def Big(η x:Rat)(f:Rat→Rat):Prop:=η<f x∨f x < -η
def Tri(η x:Rat):(Rat→Rat)→List (Rat→Rat)→Prop
 | _,[]=>True
 | _,[g]=>Big η x g
 | f,g :: k :: r=>(Big η x g∧Tri η x g (k :: r))∨(Big η x k∧f x*k x<0∧Tri η x k r)
def Near(η x y:Rat)(f:Rat→Rat):Prop:=f x-f y≤η∧f y-f x≤η
theorem Zof{η x y:Rat}{f:Rat→Rat}(h0:0≤η)(h:Big η x f)(hn:Near η x y f):rsg (f x)=rsg (f y)∧(rsg (f x)=1∨rsg (f x)=-1):=by
 obtain⟨h1,h2⟩:=hn
 rcases h with h | h
 ·rw [Dj (by grind),Dj (by grind)];exact⟨rfl,.inl rfl⟩
 ·rw [Dk (by grind),Dk (by grind)];exact⟨rfl,.inr rfl⟩
theorem opp_sg{a b:Rat}(h:a*b<0):rsg b=- rsg a:=by
 rcases(show a<0∨a=0∨0<a by grind)with h1 | h1 | h1
 ·rw [Dk h1,Dj (by
   rcases(show b≤0∨0<b by grind)with h2 | h2
   ·have:=Rat.mul_nonneg (a:=-a) (b:=-b) (by grind) (by grind);grind
   ·exact h2)];rfl
 ·subst h1;grind
 ·rw [Dj h1,Dk (by
   rcases(show 0≤b∨b<0 by grind)with h2 | h2
   ·have:=Rat.mul_nonneg (a:=a) (b:=b) (by grind) h2;grind
   ·exact h2)]
end Go.Sky
namespace Go.Sky
theorem Zml{η x y:Rat}(h0:0≤η):∀(n:Nat) (f:Rat→Rat) (fs:List (Rat→Rat)),fs.length≤n→Big η x f→(∀g∈f :: fs,Near η x y g)→Tri η x f fs→
  SV ((f :: fs).map fun g=>rsg (g x)) ((f :: fs).map fun g=>rsg (g y))
 | _,f,[],_,hb,hn,_=>by
  have:=(Zof h0 hb (hn f (List.mem_cons_self ..))).1
  simp only [List.map_cons,List.map_nil,this]
  exact SV.one _
 | 0,f,g :: r,hl,_,_,_=>absurd hl (by simp)
 | n+1,f,[g],hl,hb,hn,ht=>by
  have h1:=(Zof h0 hb (hn f (List.mem_cons_self ..))).1
  have h2:=Zml h0 n g [] (by simp) ht (fun k hk=>hn k (List.mem_cons_of_mem _ hk)) trivial
  rw [List.map_cons,List.map_cons,h1]
  exact SV.step _ _ _ h2
 | n+1,f,g :: k :: r,hl,hb,hn,ht=>by
  have h1:=Zof h0 hb (hn f (List.mem_cons_self ..))
  rcases ht with⟨hg,ht⟩ | ⟨hk,ho,ht⟩
  ·have h2:=Zml h0 n g (k :: r) (by simp at hl ⊢;omega) hg (fun k hk=>hn k (List.mem_cons_of_mem _ hk)) ht
   rw [List.map_cons (l:=g :: k :: r),List.map_cons (l:=g :: k :: r),h1.1]
   exact SV.step _ _ _ h2
  ·have h2:=Zml h0 n k r (by simp at hl ⊢;omega) hk (fun j hj=>hn j (List.mem_cons_of_mem _ (List.mem_cons_of_mem _ hj))) ht
   have h3:=(Zof h0 hk (hn k (by simp))).1
   have h4:=opp_sg ho
   rw [List.map_cons (l:=r),List.map_cons (l:=r)]at h2
   simp only [List.map_cons]
   rw [←h3]at h2 ⊢
   rw [h4]at h2 ⊢
   rw [←h1.1]
   exact SV.skip _ _ _ _ _ h1.2 (rsg_r _) (rsg_r _) h2
structure Lnk (η x:Rat) (f g k:Rat→Rat):Prop where
 big:¬Big η x g→Big η x k
 opp:¬Big η x g→f x*k x<0
def Lnks(η x:Rat):(Rat→Rat)→List (Rat→Rat)→Prop
 | _,[]=>True
 | _,[g]=>Big η x g
 | f,g :: k :: r=>Lnk η x f g k∧Lnks η x g (k :: r)
theorem Zhr{η x:Rat} : ∀(n:Nat) (f:Rat→Rat) (fs:List (Rat→Rat)),fs.length≤n→Lnks η x f fs→Tri η x f fs
 | _,f,[],_,_=>trivial
 | 0,f,g :: r,hl,_=>absurd hl (by simp)
 | n+1,f,[g],_,h=>h
 | n+1,f,[g,k],hl,h=>by
  by_cases hg:Big η x g
  ·exact .inl ⟨hg,h.2⟩
  ·exact .inr ⟨h.1.big hg,h.1.opp hg,trivial⟩
 | n+1,f,g :: k :: j :: r,hl,h=>by
  by_cases hg:Big η x g
  ·exact .inl ⟨hg,Zhr n g (k :: j :: r) (by simp at hl ⊢;omega) h.2⟩
  ·exact .inr ⟨h.1.big hg,h.1.opp hg,Zhr n k (j :: r) (by simp at hl ⊢;omega) h.2.2⟩
end Go.Sky
namespace Go.Sky
def Rl3(s t:Rat)(f g k:Rat→Rat):Prop:=∃m n Q:Rat,0<m∧0<n∧0<Q∧∀x,s≤x→x≤t→∃q,-Q≤q∧q≤Q∧m*f x=q*g x-n*k x
def Rl2(s t:Rat)(f g:Rat→Rat):Prop:=∃m Q:Rat,0<m∧0<Q∧∀x,s≤x→x≤t→∃q,-Q≤q∧q≤Q∧m*f x=q*g x
def Rls(s t:Rat):(Rat→Rat)→List (Rat→Rat)→Prop
 | _,[]=>True
 | f,[g]=>Rl2 s t f g
 | f,g :: k :: r=>Rl3 s t f g k∧Rls s t g (k :: r)
theorem Zcb{q Q g e:Rat}(h1:-Q≤q)(h2:q≤Q)(h3:-e≤g)(h4:g≤e)(hQ:0≤Q):q*g≤Q*e∧-(Q*e)≤q*g:=by
 have a:=Rat.mul_nonneg (a:=Q-q) (b:=e+g) (by grind) (by grind)
 have b:=Rat.mul_nonneg (a:=Q+q) (b:=e-g) (by grind) (by grind)
 have c:=Rat.mul_nonneg (a:=Q-q) (b:=e-g) (by grind) (by grind)
 have d:=Rat.mul_nonneg (a:=Q+q) (b:=e+g) (by grind) (by grind)
 constructor<;>grind
theorem Zbi{η x:Rat}{g:Rat→Rat}(h:¬Big η x g):-η≤g x∧g x≤η:=by
 unfold Big at h;constructor<;>grind
theorem Zt8{η ε x:Rat}{g:Rat→Rat}(h:η≤ε)(hb:Big ε x g):Big η x g:=by
 unfold Big at *;grind
theorem Kx{ε a b:Rat}(h:0<ε)(ha:0<a)(hb:0<b):∃e:Rat,0<e∧e≤ε∧e*a≤b:=by
 have h1:0<b*a⁻¹:=Rat.mul_pos hb (Rat.inv_pos.2 ha)
 have h2:b*a⁻¹*a=b:=by grind
 rcases(show ε≤b*a⁻¹∨b*a⁻¹≤ε by grind)with h3 | h3
 ·exact⟨ε,h,by grind,by have:=Rat.mul_le_mul_of_nonneg_right h3 (show 0≤a by grind);grind⟩
 ·exact⟨b*a⁻¹,h1,h3,by grind⟩
theorem pair3{s t ε:Rat}{f g k:Rat→Rat}(h:Rl3 s t f g k)(he:0<ε)(hp:∀x,s≤x→x≤t→Big ε x f∨Big ε x g) :
  ∃e,0<e∧(∀x,s≤x→x≤t→Big e x g∨Big e x k)∧∀η,0<η→η≤e→∀x,s≤x→x≤t→Lnk η x f g k:=by
 obtain⟨m,n,Q,hm,hn,hQ,hr⟩:=h
 obtain⟨e,e1,e2,e3⟩:=Kx he (show 0<Q+n by grind) (Rat.mul_pos hm he)
 have key:∀η,0<η→η≤e→∀x,s≤x→x≤t→¬Big η x g→Big η x k∧f x*k x<0:=fun η h1 h2 x hs ht hg=>by
  obtain⟨q,q1,q2,q3⟩:=hr x hs ht
  obtain⟨g1,g2⟩:=Zbi hg
  obtain⟨p1,p2⟩:=Zcb q1 q2 g1 g2 (by grind)
  have hf:Big ε x f:=(hp x hs ht).resolve_right fun h=>hg (Zt8 (by grind) h)
  have c1:η*(Q+n)≤m*ε:=by
   have:=Rat.mul_le_mul_of_nonneg_right h2 (show 0≤Q+n by grind);grind
  have c2:0<η*n:=Rat.mul_pos h1 hn
  rcases hf with hf | hf
  ·have d1:m*ε<m*f x:=by have:=Rat.mul_pos hm (show 0<f x-ε by grind);grind
   have d2:n*k x < - (n*η):=by grind
   have d3:k x < -η:=by
    rcases(show k x < -η∨-η≤k x by grind)with h9 | h9
    ·exact h9
    ·have:=Rat.mul_nonneg (a:=n) (b:=k x+η) (by grind) (by grind);grind
   refine⟨.inr d3,?_⟩
   have:=Rat.mul_pos (a:=f x) (b:=- k x) (by grind) (by grind);grind
  ·have d1:m*f x < - (m*ε):=by have:=Rat.mul_pos hm (show 0 < -ε-f x by grind);grind
   have d2:n*η<n*k x:=by grind
   have d3:η<k x:=by
    rcases(show η<k x∨k x≤η by grind)with h9 | h9
    ·exact h9
    ·have:=Rat.mul_nonneg (a:=n) (b:=η-k x) (by grind) (by grind);grind
   refine⟨.inl d3,?_⟩
   have:=Rat.mul_pos (a:=- f x) (b:=k x) (by grind) (by grind);grind
 refine⟨e,e1,fun x hs ht=>?_,fun η h1 h2 x hs ht=>⟨fun hg=>(key η h1 h2 x hs ht hg).1,fun hg=>(key η h1 h2 x hs ht hg).2⟩⟩
 by_cases hg:Big e x g
 ·exact .inl hg
 ·exact .inr (key e e1 (by grind) x hs ht hg).1
theorem pair2{s t ε:Rat}{f g:Rat→Rat}(h:Rl2 s t f g)(he:0<ε)(hp:∀x,s≤x→x≤t→Big ε x f∨Big ε x g) :
  ∃e,0<e∧∀η,0<η→η≤e→∀x,s≤x→x≤t→Big η x g:=by
 obtain⟨m,Q,hm,hQ,hr⟩:=h
 obtain⟨e,e1,e2,e3⟩:=Kx he hQ (Rat.mul_pos hm he)
 refine⟨e,e1,fun η h1 h2 x hs ht=>?_⟩
 by_cases hg:Big η x g
 ·exact hg
 ·exfalso
  obtain⟨q,q1,q2,q3⟩:=hr x hs ht
  obtain⟨g1,g2⟩:=Zbi hg
  obtain⟨p1,p2⟩:=Zcb q1 q2 g1 g2 (by grind)
  have hf:Big ε x f:=(hp x hs ht).resolve_right fun h=>hg (Zt8 (by grind) h)
  have c1:η*Q≤m*ε:=by
   have:=Rat.mul_le_mul_of_nonneg_right h2 (show 0≤Q by grind);grind
  rcases hf with hf | hf
  ·have:=Rat.mul_pos hm (show 0<f x-ε by grind);grind
  ·have:=Rat.mul_pos hm (show 0 < -ε-f x by grind);grind
theorem Znj{s t:Rat} : ∀(n:Nat) (f:Rat→Rat) (fs:List (Rat→Rat)) (ε:Rat),fs.length≤n→Rls s t f fs→0<ε→(∀g r,fs=g :: r→∀x,s≤x→x≤t→Big ε x f∨Big ε x g)→
  ∃e,0<e∧∀η,0<η→η≤e→∀x,s≤x→x≤t→Lnks η x f fs
 | _,f,[],ε,_,_,he,_=>⟨ε,he,fun _ _ _ _ _ _=>trivial⟩
 | 0,f,g :: r,ε,hl,_,_,_=>absurd hl (by simp)
 | n+1,f,[g],ε,_,h,he,hp=>pair2 h he (hp g [] rfl)
 | n+1,f,g :: k :: r,ε,hl,h,he,hp=>by
  obtain⟨e,e1,e2,e3⟩:=pair3 h.1 he (hp g (k :: r) rfl)
  obtain⟨e',e1',e2'⟩:=Znj n g (k :: r) e (by simp at hl ⊢;omega) h.2 e1 (fun k' r' heq=>by
   injection heq with h1 h2;subst h1;exact e2)
  rcases(show e≤e'∨e'≤e by grind)with h9 | h9
  ·exact⟨e,e1,fun η h1 h2 x hs ht=>⟨e3 η h1 h2 x hs ht,e2' η h1 (by grind) x hs ht⟩⟩
  ·exact⟨e',e1',fun η h1 h2 x hs ht=>⟨e3 η h1 (by grind) x hs ht,e2' η h1 h2 x hs ht⟩⟩
def Lip(s t L:Rat)(f:Rat→Rat):Prop:=∀x y,s≤x→x≤y→y≤t→f x-f y≤L*(y-x)∧f y-f x≤L*(y-x)
def vat(fs:List (Rat→Rat))(x:Rat):Int:=chg (fs.map fun g=>rsg (g x))
theorem step_eq{s t L δ:Rat}{f:Rat→Rat}{fs:List (Rat→Rat)}(hL:0<L)(hl:∀g∈f :: fs,Lip s t L g)(hd:0<δ)(hb:∀x,s≤x→x≤t→Big δ x f)(hr:Rls s t f fs) :
  ∃h,0<h∧∀x y,s≤x→x≤y→y≤t→y-x≤h→vat (f :: fs) x=vat (f :: fs) y:=by
 obtain⟨e,e1,e2⟩:=Znj fs.length f fs δ (Nat.le_refl _) hr hd (fun g r _ x hs ht=> .inl (hb x hs ht))
 obtain⟨η,n1,n2,n3⟩:=Kx hd (show(0:Rat)<1 by decide) e1
 obtain⟨h,h1,h2,h3⟩:=Kx n1 hL n1
 refine⟨h,h1,fun x y hx hxy hy hh=>SV.chg ?_⟩
 refine Zml (by grind) fs.length f fs (Nat.le_refl _) (Zt8 (by grind) (hb x hx (by grind))) (fun g hg=>?_) (Zhr _ _ _ (Nat.le_refl _) (e2 η n1 (by grind) x hx (by grind)))
 obtain⟨a,b⟩:=hl g hg x y hx hxy hy
 have:=Rat.mul_le_mul_of_nonneg_right hh (show 0≤L by grind)
 exact⟨by grind,by grind⟩
end Go.Sky
namespace Go.Sky
theorem Zpx{s t L δ:Rat}{f:Rat→Rat}{fs:List (Rat→Rat)}(hL:0<L)(hl:∀g∈f :: fs,Lip s t L g)(hd:0<δ)(hb:∀x,s≤x→x≤t→Big δ x f)(hr:Rls s t f fs)(hst:s≤t) :
  vat (f :: fs) s=vat (f :: fs) t:=by
 obtain⟨h,h1,h2⟩:=step_eq hL hl hd hb hr
 have key:∀n:Nat,∀y,s≤y→y≤t→y-s≤(n:Rat)*h→vat (f :: fs) s=vat (f :: fs) y:=fun n=>by
  induction n with
  | zero=>
    intro y h3 h4 h5;have:y=s:=by simp at h5;grind
    rw [this]
  | succ n ih=>
   intro y h3 h4 h5
   have h6:((n+1:Nat):Rat)*h=(n:Rat)*h+h:=by push_cast;grind
   rcases(show y-s≤(n:Rat)*h∨(n:Rat)*h<y-s by grind)with h7 | h7
   ·exact ih y h3 h4 h7
   ·have h8:(0:Rat)≤(n:Rat)*h:=Rat.mul_nonneg (by exact_mod_cast Nat.zero_le n) (by grind)
    rcases(show s≤y-h∨y-h<s by grind)with h9 | h9
    ·rw [ih (y-h) h9 (by grind) (by grind)]
     exact h2 (y-h) y h9 (by grind) h4 (by grind)
    ·exact h2 s y (by grind) h3 h4 (by grind)
 have h3:∃n:Nat,t-s≤(n:Rat)*h:=by
  have h4:0<h⁻¹:=Rat.inv_pos.2 h1
  refine⟨((t-s)*h⁻¹).ceil.toNat,?_⟩
  have h5:=@Rat.le_ceil ((t-s)*h⁻¹)
  have h6:((((t-s)*h⁻¹).ceil:Int):Rat)≤((((t-s)*h⁻¹).ceil.toNat:Nat):Rat):=by
   have:((t-s)*h⁻¹).ceil≤((((t-s)*h⁻¹).ceil.toNat:Nat):Int):=Int.self_le_toNat _
   exact_mod_cast this
  have h7:=Rat.mul_le_mul_of_nonneg_right (Rat.le_trans h5 h6) (show 0≤h by grind)
  have h8:(t-s)*h⁻¹*h=t-s:=by grind
  grind
 obtain⟨n,hn⟩:=h3
 exact key n t hst (by grind) hn
end Go.Sky
namespace Go.Sky
def rev:List Int→Rat→Rat
 | [],_=>0
 | c :: p,x=>(c:Rat)+x*rev p x
theorem ex_K(s t:Rat):∃K:Rat,0<K∧∀x,s≤x→x≤t→-K≤x∧x≤K:=by
 rcases(show(0≤s∨s<0) by grind)with h | h<;>rcases(show(0≤t∨t<0) by grind)with h' | h'
 ·exact⟨t+1,by grind,fun x _ _=>by grind⟩
 ·exact⟨1,by grind,fun x _ _=>by grind⟩
 ·exact⟨t-s+1,by grind,fun x _ _=>by grind⟩
 ·exact⟨-s+1,by grind,fun x _ _=>by grind⟩
theorem Zq1(s t:Rat):∀p:List Int,∃B:Rat,0<B∧∀x,s≤x→x≤t→-B≤rev p x∧rev p x≤B
 | []=>⟨1,by decide,fun x _ _=>by unfold rev;grind⟩
 | c :: p=>by
  obtain⟨B,b1,b2⟩:=Zq1 s t p
  obtain⟨K,k1,k2⟩:=ex_K s t
  obtain⟨C,c1,c2⟩:=ex_K (c:Rat) (c:Rat)
  have hc:=c2 (c:Rat) (by grind) (by grind)
  refine⟨C+K*B,by have:=Rat.mul_pos k1 b1;grind,fun x hs ht=>?_⟩
  obtain⟨d1,d2⟩:=b2 x hs ht
  obtain⟨e1,e2⟩:=k2 x hs ht
  obtain⟨f1,f2⟩:=Zcb e1 e2 d1 d2 (by grind)
  unfold rev
  constructor<;>grind
theorem El(s t:Rat):∀p:List Int,∃L:Rat,0<L∧Lip s t L (rev p)
 | []=>⟨1,by decide,fun x y _ _ _=>by unfold rev;constructor<;>grind⟩
 | c :: p=>by
  obtain⟨L,l1,l2⟩:=El s t p
  obtain⟨B,b1,b2⟩:=Zq1 s t p
  obtain⟨K,k1,k2⟩:=ex_K s t
  refine⟨K*L+B,by have:=Rat.mul_pos k1 l1;grind,fun x y hs hxy ht=>?_⟩
  obtain⟨a1,a2⟩:=l2 x y hs hxy ht
  obtain⟨d1,d2⟩:=b2 y (by grind) ht
  obtain⟨e1,e2⟩:=k2 x hs (by grind)
  obtain⟨f1,f2⟩:=Zcb (q:=x) (g:=rev p x-rev p y) (e:=L*(y-x)) e1 e2 (by grind) (by grind) (by grind)
  have g1:=Rat.mul_nonneg (a:=B-rev p y) (b:=y-x) (by grind) (by grind)
  have g2:=Rat.mul_nonneg (a:=B+rev p y) (b:=y-x) (by grind) (by grind)
  unfold rev
  constructor<;>grind
end Go.Sky
namespace Go.Sky
theorem Zg8(x:Rat):∀q:List Int,(∀i,cf q i=0)→rev q x=0
 | [],_=>rfl
 | c :: q,h=>by
  have h0:c=0:=h 0
  have h1:=Zg8 x q fun i=>h (i+1)
  unfold rev;rw [h1,h0];grind
theorem Mm(x:Rat):∀p q:List Int,(∀i,cf p i=cf q i)→rev p x=rev q x
 | [],q,h=>by rw [Zg8 x q fun i=>(h i).symm.trans (Qe (Nat.zero_le _))];rfl
 | c :: p,[],h=>by rw [Zg8 x (c :: p) fun i=>(h i).trans (Qe (Nat.zero_le _))];rfl
 | c :: p,d :: q,h=>by
  have h0:c=d:=h 0
  have h1:=Mm x p q fun i=>h (i+1)
  unfold rev;rw [h1,h0]
def Ht:List Int→List Int→List Int
 | [],q=>q
 | p,[]=>p
 | a :: p,b :: q=>(a+b) :: Ht p q
theorem Znn(p:List Int):Ht p []=p:=by cases p<;>rfl
theorem Xz(x:Rat):∀p q:List Int,rev (Ht p q) x=rev p x+rev q x
 | [],q=>by unfold Ht;show rev q x=0+rev q x;grind
 | a :: p,[]=>by rw [Znn];show rev (a :: p) x=rev (a :: p) x+0;grind
 | a :: p,b :: q=>by
  have h:=Xz x p q
  unfold Ht rev;rw [h];push_cast;grind
theorem Kb:∀(p q:List Int) (i:Nat),cf (Ht p q) i=cf p i+cf q i
 | [],q,i=>by unfold Ht;rw [show cf [] i=0 from Qe (Nat.zero_le _)];omega
 | a :: p,[],i=>by rw [Znn,show cf [] i=0 from Qe (Nat.zero_le _)];omega
 | a :: p,b :: q,0=>rfl
 | a :: p,b :: q,i+1=>Kb p q i
theorem Yb(x:Rat)(c:Int):∀p:List Int,rev (p.map fun a=>c*a) x=(c:Rat)*rev p x
 | []=>by show(0:Rat)=c*0;grind
 | a :: p=>by
  have h:=Yb x c p
  simp only [List.map_cons];unfold rev;rw [h];push_cast;grind
theorem Pd(c:Int):∀(p:List Int) (i:Nat),cf (p.map fun a=>c*a) i=c*cf p i
 | [],i=>by simp [cf]
 | a :: p,0=>rfl
 | a :: p,i+1=>Pd c p i
def Mg:List Int→List Int→List Int
 | [],_=>[]
 | c :: p,q=>Ht (q.map fun a=>c*a) (0 :: Mg p q)
theorem Yq(x:Rat):∀p q:List Int,rev (Mg p q) x=rev p x*rev q x
 | [],q=>by show(0:Rat)=0*rev q x;grind
 | c :: p,q=>by
  have h:=Yq x p q
  unfold Mg;rw [Xz,Yb]
  show(c:Rat)*rev q x+(((0:Int):Rat)+x*rev (Mg p q) x)=((c:Rat)+x*rev p x)*rev q x
  rw [h];grind
end Go.Sky
namespace Go.Sky
theorem Gd:∀(p q:List Int) (i:Nat),cf (Mg p q) i=Qp (fun k=>cf p k*cf q (i-k)) (i+1)
 | [],q,i=>by
  rw [show cf (Mg [] q) i=0 from Qe (Nat.zero_le _)]
  exact(Gt fun k _=>by rw [show cf [] k=0 from Qe (Nat.zero_le _),Int.zero_mul]).symm
 | c :: p,q,0=>by
  unfold Mg;rw [Kb,Pd,Xv,Hq]
  show c*cf q 0+0=0+c*cf q 0
  omega
 | c :: p,q,i+1=>by
  have h:=Gd p q i
  unfold Mg;rw [Kb,Pd,Ig]
  show c*cf q (i+1)+cf (Mg p q) i=c*cf q (i+1)+_
  rw [h]
  congr 1
  refine Xf fun k hk=>?_
  show cf p k*cf q (i-k)=cf p k*cf q (i+1-(k+1))
  rw [show i+1-(k+1)=i-k by omega]
theorem Gv{a c:Int}{x s y z:List Int}(h:∀t,a*cf x t=(ps s*ps y).c t-c*cf z t)(q:Rat):(a:Rat)*rev x q=rev s q*rev y q-(c:Rat)*rev z q:=by
 have h1:∀t,cf (Ht (x.map fun b=>a*b) (z.map fun b=>c*b)) t=cf (Mg s y) t:=fun t=>by
  rw [Kb,Pd,Pd,Gd,h t,PS.mul_c]
  show Qp (fun k=>cf s k*cf y (t-k)) (t+1)-c*cf z t+c*cf z t=_
  omega
 have h2:=Mm q _ _ h1
 rw [Xz,Yb,Yb,Yq]at h2
 grind
end Go.Sky
namespace Go.Sky
theorem Zqz{s t:Rat}{x y:List Int}(hx:Tr x)(hy:Tr y)(h0:y≠[])(hl:y.length≤x.length):Rl3 s t (rev x) (rev y) (rev (Lj x y)):=by
 have l0:=List.length_pos_iff.2 h0
 obtain⟨r1,r2,k,u,hk⟩:=Zdx hy h0 x.length x hx (by omega)
 have hs:=Zdn (f:=x.length) hx hy h0 hl (by omega)
 have htn:Tr (Zkx (Zfg x.length x y)):=Qu _ _
 obtain⟨m,n,hm,hn,hp⟩:=Zbc htn
 rw [hs]at hp
 have hK:0<Zhb y^k:=Int.pow_pos (Zcp hy h0)
 obtain⟨B,b1,b2⟩:=Zq1 s t u
 have hm':(0:Rat)<(m:Rat):=by exact_mod_cast hm
 have hn':(0:Rat)<(n:Rat):=by exact_mod_cast hn
 have hK':(0:Rat)<((Zhb y^k:Int):Rat):=by exact_mod_cast hK
 refine⟨(n:Rat)*((Zhb y^k:Int):Rat),(m:Rat),(n:Rat)*B,Rat.mul_pos hn' hK',hm',Rat.mul_pos hn' b1,fun q hq1 hq2=>⟨(n:Rat)*rev u q,?_,?_,?_⟩⟩
 ·have:=Rat.mul_nonneg (a:=(n:Rat)) (b:=rev u q+B) (by grind) (by have:=b2 q hq1 hq2;grind);grind
 ·have:=Rat.mul_nonneg (a:=(n:Rat)) (b:=B-rev u q) (by grind) (by have:=b2 q hq1 hq2;grind);grind
 ·have e1:=Gv (a:=Zhb y^k) (c:=-1) (x:=x) (s:=u) (y:=y) (z:=Zfg x.length x y) (fun t=>by rw [hk t];omega) q
  have e2:rev ((Lj x y).map fun b=>m*b) q=rev ((Zfg x.length x y).map fun b=>(-n)*b) q:=Mm q _ _ fun i=>by
   rw [Pd,Pd,hp i,Fa,Int.mul_neg,Int.neg_mul]
  rw [Yb,Yb]at e2
  push_cast at e1 e2 ⊢
  grind
end Go.Sky
namespace Go.Sky
theorem rl2_of{s t:Rat}{f g:Rat→Rat}(h:Rl3 s t f g (rev [])):Rl2 s t f g:=by
 obtain⟨m,n,Q,hm,hn,hQ,hr⟩:=h
 refine⟨m,Q,hm,hQ,fun x h1 h2=>?_⟩
 obtain⟨q,q1,q2,q3⟩:=hr x h1 h2
 refine⟨q,q1,q2,?_⟩
 have:rev [] x=0:=rfl
 rw [this]at q3;grind
theorem Ziy{s t:Rat} : ∀(f:Nat) (a b:List Int),Tr a→Tr b→cok f a b→∃r,Lb f a b=a :: r∧Rls s t (rev a) (r.map rev)∧(b=[]→r=[])∧(b≠[]→∃r',r=b :: r'):=fun f=>by
 induction f with
 | zero=>
  intro a b ha hb h
  have h0:b=[]:=h
  subst h0
  exact⟨[],rfl,trivial,fun _=>rfl,fun h=>absurd rfl h⟩
 | succ f ih=>
  intro a b ha hb h
  by_cases h0:b=[]
  ·subst h0
   exact⟨[],Fl _ _,trivial,fun _=>rfl,fun h=>absurd rfl h⟩
  ·obtain⟨g,hg,hd,hle,hc,hs⟩:=Zh1 h h0
   obtain rfl:f=g:=by omega
   obtain⟨r,h1,h2,h3,h4⟩:=ih b (Lj a b) hb (Ae ha) hc
   have hR:=Zqz (s:=s) (t:=t) ha hb h0 hle
   refine⟨b :: r,by rw [hs,h1],?_,fun h=>absurd h h0,fun _=>⟨r,rfl⟩⟩
   by_cases hz:Lj a b=[]
   ·rw [h3 hz]
    rw [hz]at hR
    exact rl2_of hR
   ·obtain⟨r',rfl⟩:=h4 hz
    exact⟨hR,h2⟩
end Go.Sky
namespace Go.Sky
theorem Znk{s t L M:Rat}{f:Rat→Rat}(h:L≤M)(hf:Lip s t L f):Lip s t M f:=fun x y h1 h2 h3=>by
 obtain⟨a,b⟩:=hf x y h1 h2 h3
 have:=Rat.mul_le_mul_of_nonneg_right h (show 0≤y-x by grind)
 constructor<;>grind
theorem Zr8(s t:Rat):∀ls:List (List Int),∃L:Rat,0<L∧∀g∈ls.map rev,Lip s t L g
 | []=>⟨1,by decide,fun g hg=>by cases hg⟩
 | p :: ls=>by
  obtain⟨L,l1,l2⟩:=Zr8 s t ls
  obtain⟨M,m1,m2⟩:=El s t p
  refine⟨L+M,by grind,fun g hg=>?_⟩
  rw [List.map_cons]at hg
  rcases List.mem_cons.1 hg with rfl | hg
  ·exact Znk (by grind) m2
  ·exact Znk (by grind) (l2 g hg)
theorem Zbz{s t δ:Rat}{f:Nat}{a b:List Int}(ha:Tr a)(hb:Tr b)(hc:cok f a b)(hst:s≤t)(hd:0<δ)(hB:∀x,s≤x→x≤t→Big δ x (rev a)) :
  vat ((Lb f a b).map rev) s=vat ((Lb f a b).map rev) t:=by
 obtain⟨r,h1,h2,_,_⟩:=Ziy (s:=s) (t:=t) f a b ha hb hc
 obtain⟨L,l1,l2⟩:=Zr8 s t (Lb f a b)
 rw [h1]at l2 ⊢
 exact Zpx l1 l2 hd hB h2 hst
end Go.Sky
namespace Go.Sky
end Go.Sky
namespace Go.Sky
end Go.Sky
namespace Go.Sky
def alt:List Int→List Int
 | []=>[]
 | c :: p=>c :: (alt p).map fun a=>-1*a
end Go.Sky
namespace Go.Sky
end Go.Sky
namespace Go.Sky
theorem Zv0(c:Int)(p:List Int)(X Y:Int)(h:p≠[]):pev (c :: p) X Y=c*Y^p.length+X*pev p X Y:=by
 have hl:=List.length_pos_iff.2 h
 unfold pev
 rw [List.length_cons,Ig,←Oy]
 congr 1
 ·show c*(X^0*Y^(p.length+1-1-0))=_
  rw [Int.pow_zero,Int.one_mul,show p.length+1-1-0=p.length by omega]
 ·refine Xf fun i hi=>?_
  show cf p i*(X^(i+1)*Y^(p.length+1-1-(i+1)))=X*(cf p i*(X^i*Y^(p.length-1-i)))
  rw [show p.length+1-1-(i+1)=p.length-1-i by omega,Int.pow_succ]
  grind
theorem Zrh{X Y:Int}(hY:0<Y):∀p:List Int,((pev p X Y:Int):Rat)=rev p ((X:Rat)/(Y:Rat))*(Y:Rat)^(p.length-1)
 | []=>by show(0:Rat)=0*_;grind
 | [c]=>by
  have:pev [c] X Y=c:=by unfold pev;show 0+c*(X^0*Y^0)=c;rw [Int.pow_zero,Int.pow_zero];omega
  rw [this];show(c:Rat)=(c+X/Y*0)*(Y:Rat)^0;rw [Rat.pow_zero];grind
 | c :: d :: p=>by
  have h:=Zrh (X:=X) hY (d :: p)
  rw [Zv0 c (d :: p) X Y (by simp)]
  have hy:(Y:Rat)≠0:=by
    have:(0:Rat)<(Y:Rat):=by exact_mod_cast hY
    grind
  push_cast
  rw [h]
  show(c:Rat)*(Y:Rat)^(p.length+1)+X*(rev (d :: p) (X/Y)*(Y:Rat)^(p.length+1-1))=((c:Rat)+X/Y*rev (d :: p) (X/Y))*(Y:Rat)^(p.length+1+1-1)
  rw [show p.length+1-1=p.length by omega,show p.length+1+1-1=p.length+1 by omega,Rat.pow_succ]
  generalize rev (d :: p) (X/Y)=R
  generalize (Y:Rat)^p.length=P
  have:(X:Rat)/Y*Y=X:=by grind
  grind
theorem Zu6{z:Int}{r q:Rat}(hq:0<q)(h:(z:Rat)=r*q):z.sign=rsg r:=by
 rcases(show r<0∨r=0∨0<r by grind)with h1 | h1 | h1
 ·rw [Dk h1]
  have:=Rat.mul_pos (a:=-r) (b:=q) (by grind) hq
  have h2:(z:Rat)<0:=by grind
  have h3:z<0:=by exact_mod_cast h2
  exact Int.sign_eq_neg_one_of_neg h3
 ·subst h1
  have h2:(z:Rat)=0:=by grind
  have h3:z=0:=by exact_mod_cast h2
  subst h3;rfl
 ·rw [Dj h1]
  have:=Rat.mul_pos h1 hq
  have h2:(0:Rat)<z:=by grind
  have h3:0<z:=by exact_mod_cast h2
  exact Int.sign_eq_one_of_pos h3
theorem Zlk{X Y:Int}(hY:0<Y)(p:List Int):fat X Y p=rsg (rev p ((X:Rat)/(Y:Rat))):=by
 have:(0:Rat)<(Y:Rat):=by exact_mod_cast hY
 exact Zu6 (Rat.pow_pos this) (Zrh hY p)
end Go.Sky
namespace Go.Sky
end Go.Sky
namespace Go.Sky
theorem rev_sqf{xs:List Int}{F:Nat}(hx:Tr xs)(h0:xs≠[])(hok:eok F (gA (nrm xs) (Pj (nrm xs))) (gB (nrm xs) (Pj (nrm xs)))):∃g:List Int,∀x,rev xs x=rev (sqf F xs) x*rev g x:=by
 obtain⟨f1,f2,f3,f4,f5,f6⟩:=Oz (F:=F) hx h0 hok
 have hk:∃k:Int,∀i,cf xs i=k*cf (nrm xs) i:=by
  unfold nrm Kd
  split
  ·refine⟨-Qa xs,fun i=>?_⟩
   rw [Xp,←Hb xs i];grind
  ·refine⟨Qa xs,fun i=>?_⟩
   rw [←Hb xs i];grind
 obtain⟨k,hk⟩:=hk
 refine⟨(Ko F (nrm xs) (Pj (nrm xs))).map fun a=>k*a,fun x=>?_⟩
 have h1:rev (nrm xs) x=rev (sqf F xs) x*rev (Ko F (nrm xs) (Pj (nrm xs))) x:=by
  have:=Gv (a:=1) (c:=0) (x:=nrm xs) (s:=sqf F xs) (y:=Ko F (nrm xs) (Pj (nrm xs))) (z:=[]) (fun t=>by
   have h2:=Iu (sqf F xs) (Ko F (nrm xs) (Pj (nrm xs))) t
   rw [←f4]at h2
   rw [h2];omega) x
  push_cast at this
  grind
 have h2:rev xs x=rev ((nrm xs).map fun a=>k*a) x:=Mm x _ _ fun i=>by rw [Pd];exact hk i
 rw [h2,Yb,Yb,h1];grind
end Go.Sky
namespace Go.Sky
theorem vat_map{ls:List (List Int)}{x:Rat}{f:List Int→Int}(h:∀p∈ls,rsg (rev p x)=f p):vat (ls.map rev) x=chg (ls.map f):=by
 unfold vat
 rw [List.map_map]
 exact congrArg chg (List.map_congr_left fun p hp=>h p hp)
theorem cnt_vat{F:Nat}{xs:List Int}{X Y:Int}(hY:0<Y):cnt F xs X Y=vat ((chn F xs).map rev) ((X:Rat)/(Y:Rat)):=
 (vat_map fun p _=>(Zlk hY p).symm).symm
end Go.Sky
namespace Go.Sky
theorem Zsr(t:Int):∀p:List Int,rev p (t:Rat)=((ev1 p t:Int):Rat)
 | []=>rfl
 | c :: p=>by
  have h:=Zsr t p
  rw [show rev (c :: p) (t:Rat)=(c:Rat)+(t:Rat)*rev p (t:Rat)from rfl,show ev1 (c :: p) t=c+t*ev1 p t from rfl,h];push_cast;rfl
theorem Zq0{p:List Int}(h:∀x:Rat,rev p x=0)(i:Nat):cf p i=0:=by
 by_cases h0:cf p i=0
 ·exact h0
 ·exfalso
  have:=Zg7 p.length p ((List.range p.length).map fun n:Nat=>(n:Int)) rfl ⟨i,h0⟩ (by
   refine List.Pairwise.map _ (fun a b hab=>?_) List.nodup_range
   intro e;exact hab (by exact_mod_cast e)) (fun t ht=>by
   have h1:=Zsr t p
   rw [h]at h1
   exact_mod_cast h1.symm)
  simp at this
theorem Mb{p q:List Int}(h:∀x:Rat,rev p x=rev q x)(i:Nat):cf p i=cf q i:=by
 have h1:=Zq0 (p:=Ht p (q.map fun a=>(-1)*a)) (fun x=>by rw [Xz,Yb,h x];push_cast;grind) i
 rw [Kb,Pd]at h1;omega
theorem My(p:List Int)(x:Rat):rev (tzl p) x=rev p x:=Mm x _ _ fun i=>Lm p i
theorem Yw(p q:List Int)(x:Rat):rev (Nv p q) x=rev p x*rev q x:=by
 rw [←Yq];exact Mm x _ _ fun i=>by rw [Iu,Gd,PS.mul_c];rfl
theorem Oe(c:Int)(x:Rat):rev [c] x=(c:Rat):=by show(c:Rat)+x*0=c;grind
def ld:List Int→List Int
 | []=>[]
 | _ :: p=>Ht p (0 :: ld p)
theorem Zd1(c:Int)(p:List Int)(x:Rat):rev (ld (c :: p)) x=rev p x+x*rev (ld p) x:=by
 rw [show ld (c :: p)=Ht p (0 :: ld p)from rfl,Xz];show rev p x+(((0:Int):Rat)+x*rev (ld p) x)=_;push_cast;grind
theorem Zh5:∀(p:List Int) (i:Nat),cf (ld p) i=cf p (i+1)*((i:Int)+1)
 | [],i=>by rw [Zap,show ld []=[]from rfl,Zap,Int.zero_mul]
 | c :: p,0=>by
  rw [show ld (c :: p)=Ht p (0 :: ld p)from rfl,Kb];show cf p 0+0=cf p 0*_;simp
 | c :: p,i+1=>by
  have h:=Zh5 p i
  rw [show ld (c :: p)=Ht p (0 :: ld p)from rfl,Kb];show cf p (i+1)+cf (ld p) i=cf p (i+1)*_
  rw [h];push_cast;grind
theorem Ka(p:List Int)(x:Rat):rev (Pj p) x=rev (ld p) x:=Mm x _ _ fun i=>by rw [Zc3,Zh5]
theorem Gm{p q:List Int}(h:∀x,rev p x=rev q x)(x:Rat):rev (ld p) x=rev (ld q) x:=Mm x _ _ fun i=>by rw [Zh5,Zh5,Mb h]
theorem rd_ladd(p q:List Int)(x:Rat):rev (ld (Ht p q)) x=rev (ld p) x+rev (ld q) x:=by
 rw [←Xz];exact Mm x _ _ fun i=>by rw [Zh5,Kb,Kb,Zh5,Zh5];grind
theorem Dl(c:Int)(p:List Int)(x:Rat):rev (ld (p.map fun a=>c*a)) x=(c:Rat)*rev (ld p) x:=by
 rw [←Yb];exact Mm x _ _ fun i=>by rw [Zh5,Pd,Pd,Zh5];grind
theorem Em(x:Rat):∀p q:List Int,rev (ld (Mg p q)) x=rev (ld p) x*rev q x+rev p x*rev (ld q) x
 | [],q=>by show(0:Rat)=0*rev q x+0*rev (ld q) x;grind
 | c :: p,q=>by
  have h:=Em x p q
  rw [show Mg (c :: p) q=Ht (q.map fun a=>c*a) (0 :: Mg p q)from rfl,rd_ladd,Dl,Zd1,Zd1,h,Yq,show rev (c :: p) x=(c:Rat)+x*rev p x from rfl]
  grind
def Ed(g a:List Int):Prop:=∃(k:Int) (s:List Int),k≠0∧∀x:Rat,(k:Rat)*rev a x=rev s x*rev g x
theorem Ed.refl(a:List Int):Ed a a:=⟨1,[1],by decide,fun x=>by rw [Oe]⟩
theorem Ed.nil(g:List Int):Ed g []:=⟨1,[],by decide,fun x=>by show(((1:Int)):Rat)*0=0*rev g x;grind⟩
theorem Ed.trans{a b c:List Int} : Ed a b→Ed b c→Ed a c:=fun⟨k,s,hk,h⟩ ⟨m,u,hm,e⟩=>
 ⟨k*m,Mg u s,Int.mul_ne_zero hk hm,fun x=>by
  have h1:=h x
  have h2:=e x
  rw [Yq];push_cast
  have:(k:Rat)*m*rev c x=k*(m*rev c x):=by grind
  rw [this,h2];grind⟩
theorem Ed.congr{g a b:List Int}(h:Ed g a)(e:∀x,rev a x=rev b x):Ed g b:=by
 obtain⟨k,s,hk,h⟩:=h
 exact⟨k,s,hk,fun x=>by rw [←e x];exact h x⟩
theorem Ed.congr_l{g g' a:List Int}(h:Ed g a)(e:∀x,rev g x=rev g' x):Ed g' a:=by
 obtain⟨k,s,hk,h⟩:=h
 exact⟨k,s,hk,fun x=>by rw [←e x];exact h x⟩
theorem Ed.sim{g a b:List Int}(h:Ed g a)(e:Sim a b):Ed g b:=by
 obtain⟨k,s,hk,h⟩:=h
 obtain⟨m,n,hm,hn,e⟩:=e
 refine⟨k*n,s.map fun c=>m*c,Int.mul_ne_zero hk hn,fun x=>?_⟩
 have h1:rev (a.map fun c=>m*c) x=rev (b.map fun c=>n*c) x:=Mm x _ _ fun i=>by rw [Pd,Pd,e]
 rw [Yb,Yb]at h1
 rw [Yb]
 have:=h x
 push_cast
 have e2:(k:Rat)*n*rev b x=k*(n*rev b x):=by grind
 rw [e2,←h1];grind
theorem Ed.lin{g a b c:List Int}(ha:Ed g a)(hb:Ed g b)(s:List Int)(L:Int)(hL:L≠0)(h:∀x,(L:Rat)*rev c x=rev s x*rev a x+rev b x):Ed g c:=by
 obtain⟨k,u,hk,h1⟩:=ha
 obtain⟨m,v,hm,h2⟩:=hb
 refine⟨L*(k*m),Ht ((Mg s u).map fun c=>m*c) (v.map fun c=>k*c),Int.mul_ne_zero hL (Int.mul_ne_zero hk hm),fun x=>?_⟩
 have h1:=h1 x
 have h2:=h2 x
 have h:=h x
 rw [Xz,Yb,Yb,Yq]
 push_cast
 have e:(L:Rat)*(k*m)*rev c x=k*m*(L*rev c x):=by grind
 rw [e,h]
 have e2:(k:Rat)*m*(rev s x*rev a x+rev b x)=m*rev s x*(k*rev a x)+k*(m*rev b x):=by grind
 rw [e2,h1,h2];grind
theorem Zs0{g a s:List Int}{k:Int}(hk:k≠0)(hg:Tr g)(ha:Tr a)(h0:a≠[])(h:∀x:Rat,(k:Rat)*rev a x=rev s x*rev g x):g≠[]∧tzl s≠[]∧(tzl s).length+g.length≤a.length+1:=by
 have hc:∀i,k*cf a i=(ps (tzl s)*ps g).c i:=fun i=>by
  have h1:=Mb (p:=a.map fun c=>k*c) (q:=Mg (tzl s) g) (fun x=>by rw [Yb,Yq,My];exact h x) i
  rw [Pd,Gd]at h1
  rw [h1,PS.mul_c];rfl
 have hz:∀i,k*cf a i=0→cf a i=0:=fun i hi=>(Int.mul_eq_zero.1 hi).resolve_left hk
 have hla:=ha.mem h0
 have h1:tzl s≠[]:=fun e=>hla (hz _ (by rw [hc,e,Mp (fun t=>Qe (Nat.zero_le _))]))
 have h2:g≠[]:=fun e=>hla (hz _ (by rw [hc,e,PS.mul_comm',Mp (fun t=>Qe (Nat.zero_le _))]))
 refine⟨h2,h1,?_⟩
 have l1:=List.length_pos_iff.2 h1
 have l2:=List.length_pos_iff.2 h2
 have ht:=Ew (p:=tzl s) (q:=g) (a:=(tzl s).length-1) (b:=g.length-1) (fun i hi=>Qe (by omega)) (fun i hi=>Qe (by omega))
 rw [←hc]at ht
 have hne:=Int.mul_ne_zero ((Ol s).mem h1) (hg.mem h2)
 rcases Nat.lt_or_ge ((tzl s).length-1+(g.length-1)) a.length with h9 | h9
 ·omega
 ·rw [Qe h9,Int.mul_zero]at ht;exact absurd ht.symm hne
theorem Ed.len{g a:List Int}(h:Ed g a)(hg:Tr g)(ha:Tr a)(h0:a≠[]):g≠[]∧g.length≤a.length:=by
 obtain⟨k,s,hk,h⟩:=h
 obtain⟨a1,a2,a3⟩:=Zs0 hk hg ha h0 h
 have:=List.length_pos_iff.2 a2
 exact⟨a1,by omega⟩
theorem Ed.same{g a:List Int}(h:Ed g a)(hg:Tr g)(ha:Tr a)(h0:a≠[])(hl:g.length=a.length):Ed a g:=by
 obtain⟨k,s,hk,h⟩:=h
 obtain⟨a1,a2,a3⟩:=Zs0 hk hg ha h0 h
 have hl1:=List.length_pos_iff.2 a2
 match hs:tzl s,hl1,a3 with
 | [c],_,_=>
  have hc:c≠0:=by have:=(Ol s).mem a2;rw [hs]at this;exact this
  refine⟨c,[k],hc,fun x=>?_⟩
  have h1:=h x
  rw [←My s,hs,Oe]at h1
  rw [Oe];exact h1.symm
 | c :: d :: r,_,h9=>simp at h9;omega
theorem Zj4:∀(n:Nat) (a b:List Int),Tr a→Tr b→b.length≤n→∃g A B:List Int,Tr g∧Ed g a∧Ed g b∧∀x,rev g x=rev A x*rev a x+rev B x*rev b x
 | n,a,[],ha,hb,_=>⟨a,[1],[],ha,Ed.refl a,Ed.nil a,fun x=>by rw [Oe];show _=_+0*(0:Rat);push_cast;grind⟩
 | 0,a,c :: r,_,_,hl=>absurd hl (by simp)
 | n+1,a,c :: b',ha,hb,hl=>by
  have h0:(c :: b')≠[]:=by simp
  generalize c :: b'=b at *
  obtain⟨k,s,hs⟩:=Gn a h0
  have hL:=Nc (hb.mem h0) k
  generalize cf b (b.length-1)^k=L at hs hL
  have hlt:=Pb a h0
  obtain⟨g,A,B,g1,g2,g3,g4⟩:=Zj4 n b (Ph a b) hb (Ll ha) (by omega)
  have he:∀x,(L:Rat)*rev a x=rev s x*rev b x+rev (Ph a b) x:=fun x=>by
   have:=Gv (a:=L) (c:=-1) (x:=a) (s:=s) (y:=b) (z:=Ph a b) (fun t=>by rw [hs t];omega) x
   push_cast at this;grind
  refine⟨g,B.map fun c=>L*c,Ht A ((Mg B s).map fun c=>(-1)*c),g1,g2.lin g3 s L hL he,g2,fun x=>?_⟩
  rw [Yb,Xz,Yb,Yq,g4 x]
  have:=he x
  have e:rev (Ph a b) x=L*rev a x-rev s x*rev b x:=by grind
  rw [e];push_cast;grind
end Go.Sky
namespace Go.Sky
def Irr(q:List Int):Prop:=Tr q∧2≤q.length∧∀d,Tr d→Ed d q→d.length≤1∨d.length=q.length
theorem Aw{q:List Int}(h:2≤q.length):q≠[]:=fun e=>by rw [e]at h;simp at h
theorem irr_ex:∀(n:Nat) (q:List Int),q.length≤n→Tr q→2≤q.length→∃p,Irr p∧Ed p q
 | 0,q,hl,_,h2=>by omega
 | n+1,q,hl,ht,h2=>by
  by_cases h:Irr q
  ·exact⟨q,h,Ed.refl q⟩
  ·have:∃d,Tr d∧Ed d q∧¬(d.length≤1∨d.length=q.length):=by
    refine Classical.byContradiction fun h9=>h ⟨ht,h2,fun d hd he=>Classical.byContradiction fun h8=>h9 ⟨d,hd,he,h8⟩⟩
   obtain⟨d,hd,he,hn⟩:=this
   have hle:=(he.len hd ht (Aw h2)).2
   obtain⟨p,hp,hp2⟩:=irr_ex n d (by omega) hd (by omega)
   exact⟨p,hp,hp2.trans he⟩
theorem Dt{q f h m:List Int}{k:Int}(hq:Irr q)(hk:k≠0)(e:∀x:Rat,(k:Rat)*(rev f x*rev h x)=rev m x*rev q x):Ed q f∨Ed q h:=by
 obtain⟨hq1,hq2,hq3⟩:=hq
 obtain⟨g,A,B,g1,g2,g3,g4⟩:=Zj4 _ q (tzl f) hq1 (Ol f) (Nat.le_refl _)
 have hg:=(g2.len g1 hq1 (Aw hq2)).1
 rcases hq3 g g1 g2 with h1 | h1
 ·right
  match g,hg,h1,g1,g4 with
  | [c],_,_,g1,g4=>
   have hc:c≠0:=g1.mem (by simp)
   refine⟨c*k,Ht ((Mg A h).map fun c=>k*c) (Mg B m),Int.mul_ne_zero hc hk,fun x=>?_⟩
   have h4:=g4 x
   have h5:=e x
   rw [Oe,My]at h4
   rw [Xz,Yb,Yq,Yq]
   push_cast
   rw [h4]
   have:(rev A x*rev q x+rev B x*rev f x)*k*rev h x=k*rev A x*rev q x*rev h x+rev B x*(k*(rev f x*rev h x)):=by grind
   rw [this,h5];grind
  | c :: d :: r,_,h9,_,_=>simp at h9
 ·left
  have h2:=g2.same g1 hq1 (Aw hq2) h1
  exact(h2.trans g3).congr fun x=>My f x
def Bl(q:List Int):Nat→List Int
 | 0=>[1]
 | n+1=>Nv q (Bl q n)
theorem Cl{q:List Int}(hq:Tr q)(h2:2≤q.length):∀n,Tr (Bl q n)∧n+1≤(Bl q n).length
 | 0=>⟨.inr (show cf [1] 0≠0 by decide),Nat.le_refl _⟩
 | n+1=>by
  obtain⟨h1,h3⟩:=Cl hq h2 n
  refine⟨Pg _ _,?_⟩
  show n+1+1≤(Nv q (Bl q n)).length
  rw [Px hq h1 (Aw h2) (fun e=>by rw [e]at h3;simp at h3)]
  omega
theorem Hm(q:List Int)(n:Nat)(x:Rat):rev (Bl q (n+1)) x=rev q x*rev (Bl q n) x:=Yw _ _ _
theorem Zkq(q:List Int):∀(n:Nat) (x:Rat),rev (ld (Bl q (n+1))) x=((n:Rat)+1)*(rev (Bl q n) x*rev (ld q) x)
 | n,x=>by
  have h1:rev (ld (Bl q (n+1))) x=rev (ld (Mg q (Bl q n))) x:=Gm (fun y=>by rw [Hm,Yq]) x
  rw [h1,Em]
  match n with
  | 0=>
   rw [show rev (ld (Bl q 0)) x=0 from by rw [show Bl q 0=[1]from rfl,Zd1];show(0:Rat)+x*0=0;grind]
   simp;grind
  | n+1=>
   rw [Zkq q n x,Hm];push_cast;grind
theorem Zu3{p s g q u:List Int}{c:Int}{k:Nat}(hps:∀x:Rat,rev p x=rev s x*rev g x)(hgr:∀d,Tr d→Ed d p→Ed d (ld p)→Ed d g)(hq:Irr q)(h1:Ed q s)(h2:Ed q (ld s))(hk:Ed (Bl q k) g):Ed (Bl q (k+1)) g:=by
 obtain⟨hq1,hq2,hq3⟩:=hq
 obtain⟨c1,s1,k1,e1⟩:=h1
 obtain⟨c2,s2,k2,e2⟩:=h2
 have d1:∀x:Rat,(c1:Rat)*rev (ld s) x=rev (ld s1) x*rev q x+rev s1 x*rev (ld q) x:=fun x=>by
  have:=Gm (p:=s.map fun a=>c1*a) (q:=Mg s1 q) (fun y=>by rw [Yb,Yq];exact e1 y) x
  rwa [Dl,Em]at this
 have h3:Ed q s1:=by
  rcases Dt (f:=s1) (h:=ld q) (m:=Ht (s2.map fun a=>c1*a) ((ld s1).map fun a=>(-c2)*a)) ⟨hq1,hq2,hq3⟩ k2 (fun x=>by
   have a1:=d1 x
   have a2:=e2 x
   rw [Xz,Yb,Yb];push_cast
   have:(c2:Rat)*(rev s1 x*rev (ld q) x)=c1*(c2*rev (ld s) x)-c2*(rev (ld s1) x*rev q x):=by grind
   rw [this,a2];grind)with h9 | h9
  ·exact h9
  ·exfalso
   have h8:Ed q (Pj q):=h9.congr fun x=>(Ka q x).symm
   have hl:=Nh q
   have:=(h8.len hq1 (Ma hq1) (fun e=>by rw [e]at hl;simp at hl;omega)).2
   omega
 obtain⟨c3,s3,k3,e3⟩:=h3
 obtain⟨c,u,kc,eu⟩:=hk
 have hP:∀x:Rat,((c1*c3*c:Int):Rat)*rev p x=rev (Mg s3 u) x*rev (Bl q (k+1+1)) x:=fun x=>by
  rw [hps x,Yq,Hm,Hm];push_cast
  have a1:=e1 x
  have a3:=e3 x
  have a4:=eu x
  have:(c1:Rat)*c3*c*(rev s x*rev g x)=c3*(c1*rev s x)*(c*rev g x):=by grind
  rw [this,a1,a4]
  have:(c3:Rat)*(rev s1 x*rev q x)*(rev u x*rev (Bl q k) x)=(c3*rev s1 x)*rev q x*(rev u x*rev (Bl q k) x):=by grind
  rw [this,a3];grind
 have hC:c1*c3*c≠0:=Int.mul_ne_zero (Int.mul_ne_zero k1 k3) kc
 generalize c1*c3*c=C at hP hC
 have hD:∀x:Rat,(C:Rat)*rev (ld p) x=rev (ld (Mg s3 u)) x*rev (Bl q (k+1+1)) x+rev (Mg s3 u) x*((((k+1:Nat):Rat)+1)*(rev (Bl q (k+1)) x*rev (ld q) x)):=fun x=>by
  have:=Gm (p:=p.map fun a=>C*a) (q:=Mg (Mg s3 u) (Bl q (k+1+1))) (fun y=>by rw [Yb,Yq];exact hP y) x
  rwa [Dl,Em,Zkq]at this
 refine hgr _ (Cl hq1 hq2 _).1 ⟨C,Mg (Mg s3 u) q,hC,fun x=>?_⟩ ⟨C,Ht (Mg (ld (Mg s3 u)) q) ((Mg (Mg s3 u) (ld q)).map fun a=>((k+2:Nat):Int)*a),hC,fun x=>?_⟩
 ·rw [hP x,Yq _ (Mg s3 u),Hm q (k+1)];grind
 ·rw [hD x,Xz,Yb,Yq _ (ld (Mg s3 u)),Yq _ (Mg s3 u),Hm q (k+1)];push_cast;grind
theorem Zu5{p s g q:List Int}(hps:∀x:Rat,rev p x=rev s x*rev g x)(hg:Tr g)(g0:g≠[])(hgr:∀d,Tr d→Ed d p→Ed d (ld p)→Ed d g)(hq:Tr q)(h1:Ed q s)(h2:Ed q (ld s)):q.length≤1:=by
 refine Classical.byContradiction fun h=>?_
 obtain⟨r,hr,hr2⟩:=irr_ex _ q (Nat.le_refl _) hq (by omega)
 have key:∀k,Ed (Bl r k) g:=fun k=>by
  induction k with
  | zero=>exact⟨1,g,by decide,fun x=>by rw [show Bl r 0=[1]from rfl,Oe];push_cast;grind⟩
  | succ k ih=>exact Zu3 (u:=[]) (c:=0) hps hgr hr (hr2.trans h1) (hr2.trans h2) ih
 obtain⟨a1,a2⟩:=Cl hr.1 hr.2.1 g.length
 have:=((key g.length).len a1 hg g0).2
 omega
end Go.Sky
namespace Go.Sky
theorem ed_rest{d a b:List Int}(hb:Tr b)(h0:b≠[])(h1:Ed d a)(h2:Ed d b):Ed d (Ph a b):=by
  obtain⟨k,s,hs⟩:=Gn a h0
  have hL:=Nc (hb.mem h0) k
  generalize cf b (b.length-1)^k=L at hs hL
  have he:∀x,(L:Rat)*rev a x=rev s x*rev b x+rev (Ph a b) x:=fun x=>by
    have:=Gv (a:=L) (c:=-1) (x:=a) (s:=s) (y:=b) (z:=Ph a b) (fun t=>by rw [hs t];omega) x
    push_cast at this;grind
  have h3:Ed d (a.map fun c=>L*c):=by
    obtain⟨k,u,hk,e⟩:=h1
    exact⟨k,u.map fun c=>L*c,hk,fun x=>by rw [Yb,Yb];have:=e x;grind⟩
  exact h2.lin h3 (s.map fun c=>(-1)*c) 1 (by decide) fun x=>by
    rw [Yb,Yb];push_cast;have:=he x;grind
theorem Znw{d:List Int} : ∀(f:Nat) {a b:List Int},Tr a→Tr b→Ed d a→Ed d b→Ed d (eu f a b)
  | 0,a,b,_,_,h1,_=>h1
  | f+1,a,b,ha,hb,h1,h2=>by
    by_cases h0:b=[]
    · rw [h0,Fx];exact h1
    · rw [show eu (f + 1) a b = eu f b (Yx (Ph a b)) by
          conv=>lhs;unfold eu
          rw [if_neg h0]]
      have t1:=Ll (q:=b) ha
      exact Znw f hb (Xg t1) h2 ((ed_rest hb h0 h1 h2).sim (Qm t1).symm)
theorem Zfo{F:Nat}{d p q:List Int}(hp:Tr p)(hq:Tr q)(h1:Ed d p)(h2:Ed d q):Ed d (Ko F p q):=by
  have a1:=h1.sim (Qm hp).symm
  have a2:=h2.sim (Qm hq).symm
  unfold Ko
  refine Ed.sim ?_ (Kc _).symm
  refine Znw F (Zio hp hq) (Zin hp hq) ?_ ?_
  · unfold gA;split<;>assumption
  · unfold gB;split<;>assumption
theorem Zdm{xs:List Int}{F:Nat}(hx:Tr xs)(h0:xs≠[])(hok:eok F (gA (nrm xs) (Pj (nrm xs))) (gB (nrm xs) (Pj (nrm xs)))){q:List Int}(hq:Tr q)(h1:Ed q (sqf F xs))(h2:Ed q (Pj (sqf F xs))):q.length≤1:=by
  obtain⟨f1,f2,f3,f4,f5,f6⟩:=Oz (F:=F) hx h0 hok
  have hs:Tr (nrm xs):=Nb (Xg hx)
  have hd:Tr (Pj (nrm xs)):=Ma hs
  refine Zu5 (p:=nrm xs) (s:=sqf F xs) (g:=Ko F (nrm xs) (Pj (nrm xs))) (fun x=>?_) (Za2 hs hd) f5 (fun d _ a b=>?_) hq h1 (h2.congr fun x=>Ka _ x)
  · have:rev (nrm xs) x=rev (Nv (sqf F xs) (Ko F (nrm xs) (Pj (nrm xs)))) x:=by rw [←f4]
    rw [this,Yw]
  · exact Zfo hs hd a (b.congr fun x=>(Ka _ x).symm)
end Go.Sky
namespace Go.Sky
theorem Cc:∀(l:List Int) (n z:Int),(l.foldl Hi (n,z)).1=n+(l.foldl Hi (0,z)).1
 | [],n,z=>by simp
 | x :: l,n,z=>by
  simp only [List.foldl_cons]
  by_cases h:x=0
  ·have e:∀n,Hi (n,z) x=(n,z):=fun n=>by unfold Hi;rw [if_pos h]
   rw [e,e];exact Cc l n z
  ·by_cases h2:x=-z
   ·have e:∀n,Hi (n,z) x=(n+1,x):=fun n=>by unfold Hi;rw [if_neg h,if_pos (by dsimp only;exact h2)]
    rw [e,e,Cc l (n+1) x,Cc l (0+1) x];omega
   ·have e:∀n,Hi (n,z) x=(n,x):=fun n=>by unfold Hi;rw [if_neg h,if_neg (by dsimp only;exact h2)]
    rw [e,e];exact Cc l n x
theorem chg_two{x y:Int}(l:List Int)(hy:y≠0):chg (x :: y :: l)=chg (y :: l)+(if x=-y then 1 else 0):=by
 unfold chg
 simp only [List.foldl_cons]
 have h1:Hi (0,0) y=(0,y):=by unfold Hi;rw [if_neg hy,if_neg (by dsimp only;omega)]
 rw [h1]
 by_cases hx:x=0
 ·have h2:Hi (0,0) x=(0,0):=by unfold Hi;rw [if_pos hx]
  rw [h2,h1,if_neg (by omega)];omega
 ·have h2:Hi (0,0) x=(0,x):=by unfold Hi;rw [if_neg hx,if_neg (by dsimp only;omega)]
  rw [h2]
  have h3:Hi (0,x) y=(if x=-y then 1 else 0,y):=by
   unfold Hi;rw [if_neg hy]
   by_cases h:x=-y
   ·rw [if_pos (by dsimp only;omega),if_pos h];rfl
   ·rw [if_neg (by dsimp only;omega),if_neg h]
  rw [h3,Cc];omega
def crs(f:Rat→Rat)(u v:Rat):Int:=if f u≠0∧f u*f v≤0 then 1 else 0
theorem Zg9(s t:Rat):∀p:List Int,∃M:Rat,0<M∧∀x y,s≤x→x≤y→y≤t→
  -(M*(y-x)*(y-x))≤rev p y-rev p x-(y-x)*rev (ld p) x∧rev p y-rev p x-(y-x)*rev (ld p) x≤M*(y-x)*(y-x)
 | []=>⟨1,by decide,fun x y h1 h2 h3=>by
   have:=Rat.mul_nonneg (a:=y-x) (b:=y-x) (by grind) (by grind)
   show -(1*(y-x)*(y-x))≤(0:Rat)-0-(y-x)*0∧(0:Rat)-0-(y-x)*0≤1*(y-x)*(y-x)
   constructor<;>grind⟩
 | c :: p=>by
  obtain⟨M,m1,m2⟩:=Zg9 s t p
  obtain⟨L,l1,l2⟩:=El s t p
  obtain⟨K,k1,k2⟩:=ex_K s t
  refine⟨L+K*M,by have:=Rat.mul_pos k1 m1;grind,fun x y hs hxy ht=>?_⟩
  obtain⟨a1,a2⟩:=m2 x y hs hxy ht
  obtain⟨b1,b2⟩:=l2 x y hs hxy ht
  obtain⟨e1,e2⟩:=k2 x hs (by grind)
  have hd:0≤y-x:=by grind
  obtain⟨f1,f2⟩:=Zcb (q:=x) (Q:=K) (g:=rev p y-rev p x-(y-x)*rev (ld p) x) (e:=M*(y-x)*(y-x)) e1 e2 a1 a2 (by grind)
  have g1:=Rat.mul_nonneg (a:=y-x) (b:=L*(y-x)-(rev p y-rev p x)) hd (by grind)
  have g2:=Rat.mul_nonneg (a:=y-x) (b:=L*(y-x)+(rev p y-rev p x)) hd (by grind)
  rw [Zd1,show rev (c :: p) y=(c:Rat)+y*rev p y from rfl,show rev (c :: p) x=(c:Rat)+x*rev p x from rfl]
  constructor<;>grind
theorem Zth{a b:List Int}(ha:Tr a)(hb:Tr b)(h0:a≠[])(hc:∀q,Tr q→Ed q a→Ed q b→q.length≤1)(s t:Rat):∃ε:Rat,0<ε∧∀x,s≤x→x≤t→Big ε x (rev a)∨Big ε x (rev b):=by
 obtain⟨g,A,B,g1,g2,g3,g4⟩:=Zj4 _ a b ha hb (Nat.le_refl _)
 have hl:=hc g g1 g2 g3
 have hg:=(g2.len g1 ha h0).1
 match g,hg,hl,g1,g4 with
 | [c],_,_,g1,g4=>
  have hc0:c≠0:=g1.mem (by simp)
  obtain⟨P,p1,p2⟩:=Zq1 s t A
  obtain⟨Q,q1,q2⟩:=Zq1 s t B
  obtain⟨ε,e1,e2,e3⟩:=Kx (show(0:Rat)<1 by decide) (show 0<(P+Q)+(P+Q) by grind) (show(0:Rat)<1 by decide)
  refine⟨ε,e1,fun x hs ht=>?_⟩
  by_cases h1:Big ε x (rev a)
  ·exact .inl h1
  ·by_cases h2:Big ε x (rev b)
   ·exact .inr h2
   ·exfalso
    obtain⟨a1,a2⟩:=Zbi h1
    obtain⟨b1,b2⟩:=Zbi h2
    obtain⟨c1,c2⟩:=p2 x hs ht
    obtain⟨d1,d2⟩:=q2 x hs ht
    obtain⟨u1,u2⟩:=Zcb c1 c2 a1 a2 (by grind)
    obtain⟨v1,v2⟩:=Zcb d1 d2 b1 b2 (by grind)
    have h4:=g4 x
    rw [Oe]at h4
    have h5:(c:Rat)≤-1∨1≤(c:Rat):=by
     rcases Int.lt_or_gt_of_ne hc0 with h | h
     ·left;have:((c:Int):Rat)≤((-1:Int):Rat):=by exact_mod_cast (show c≤-1 by omega)
      rwa [show(((-1:Int)):Rat)=-1 from rfl]at this
     ·right;have:1≤c:=by omega
      exact_mod_cast this
    rcases h5 with h5 | h5<;>grind
 | c :: d :: r,_,h9,_,_=>simp at h9
theorem Big.near{ε x y:Rat}{f:Rat→Rat}(h:Big ε x f)(h1:f x-f y≤ε/2)(h2:f y-f x≤ε/2):Big (ε/2) y f:=by
 unfold Big at *;grind
end Go.Sky

