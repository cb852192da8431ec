/- rules, arithmetic and contracts: part 13
   Proved without conditions of its own: each theorem bears its own. -/
import Derived.Test.YtcmiiammekgooaaGreatSf11
import Derived.Test.YtcmiiammekgooaaGreatSf03
import Derived.Test.YtcmiiammekgooaaGreatSf02
import Derived.Test.YtcmiiammekgooaaGreatSf01
set_option linter.all false
namespace Go.Sky
theorem Zef{p:List Int}(h:Vp p)(hz:∀i,i<p.length→bl (cf p (i+1)*((i:Int)+1)).natAbs≤65536):Vp (Pk p):=by
 refine⟨fun i=>?_,Nz h.tr,by rw [Om];have:=h.len;omega⟩
 rw [Zd8]
 by_cases hi:i<p.length
 ·exact hz i hi
 ·rw [Qh (by omega)];simp [Lm]
theorem sf_t{xs:List Int}(h:xs.length=0):Value.bool (decide (Zcd xs))= .bool true:=congrArg Value.bool (decide_eq_true (.inl h))
theorem sf_i{xs:List Int}{n:Int}(h:xs.length≠0)(hn:n=(((xs.length+2)*(xs.length+2)*(msz xs+16):Nat):Int)):Value.bool (decide (Zcd xs))= .bool (decide (n≤65536)):=congrArg Value.bool (decide_eq_decide.2 (by
 subst hn
 show(xs.length=0∨(xs.length+2)*(xs.length+2)*(msz xs+16)≤65536)↔_
 constructor
 ·intro h1;rcases h1 with h1 | h1
  ·exact absurd h1 h
  ·exact Int.ofNat_le.2 h1
 ·intro h1;exact .inr (Int.ofNat_le.1 h1)))
theorem Zrj{x y:List Int}(h:(Ps x y).length=0):Ln x y=[]:=by
 have h1:Ps x y=[]:=List.eq_nil_of_length_eq_zero h
 unfold Ln;rw [h1];split<;>rfl
theorem snext_a{x y:List Int}(hl:y.length≤x.length)(h1:(cf y (y.length-1)).sign<0)(h2:((x.length:Int)-(y.length:Int)+1)%2=1):Ln x y=Xc (Ps x y):=by
 unfold Ln;rw [if_pos ⟨(Qe _).1 h1,by omega⟩]
theorem Zrl{x y:List Int}(h1:¬(cf y (y.length-1)).sign<0):Ln x y=Xo (Xc (Ps x y)) (-1):=by
 unfold Ln;rw [if_neg (fun h=>h1 ((Qe _).2 h.1))]
theorem Zrk{x y:List Int}(hl:y.length≤x.length)(h2:¬((x.length:Int)-(y.length:Int)+1)%2=1):Ln x y=Xo (Xc (Ps x y)) (-1):=by
 unfold Ln;rw [if_neg (fun h=>h2 (by omega))]
theorem Zjg{xs:List Int}{F:Nat}(hv:Vp xs)(h0:xs≠[])(h:sqOK F xs):Vp (sqf F xs):=by
 obtain⟨_,_,_,h4,h5⟩:=h
 have hn:=Zq6 hv
 unfold sqf Ku
 split
 ·exact⟨Sz.nil _,Tr.nil,by simp⟩
 ·rename_i h6
  rcases h5 with h5 | h5
  ·exact absurd h5 h6
  ·have h7:=(Zac h4).2 h5.1
   refine⟨?_,Oz _,?_⟩
   ·rw [←Zbo];exact(Zre h7 h5.2.1 _).tzl
   ·have h8:=Gm (Zkw (nrm xs) (Ib F (nrm xs) (Pk (nrm xs))) ((nrm xs).length-(Ib F (nrm xs) (Pk (nrm xs))).length+1))
    rw [Zbo,Dr]at h8
    have:=hn.len
    have:=(Zac h4).1
    omega
theorem Zgz{xs:List Int}{F:Nat}(hv:Vp xs)(h:sqOK F xs):(sqf F xs).length≤xs.length:=by
 obtain⟨_,_,_,h4,h5⟩:=h
 have hl:=Px hv.tr
 unfold sqf Ku
 split
 ·exact Nat.zero_le _
 ·rename_i h6
  rcases h5 with h5 | h5
  ·exact absurd h5 h6
  ·have h8:=Gm (Zkw (nrm xs) (Ib F (nrm xs) (Pk (nrm xs))) ((nrm xs).length-(Ib F (nrm xs) (Pk (nrm xs))).length+1))
   rw [Zbo,Dr]at h8
   have:=(Zac h4).1
   have:=h5.1
   omega
theorem Zyu{L:List Int}{i:Nat}{n l s:Int}(hi:i<L.length)(h:(n,l)=(L.take i).foldl Ie (0,0))(hs:L.getD i 0=s)(h0:s=0):(n,l)=(L.take (i+1)).foldl Ie (0,0):=by
 rw [Oo 0 L i hi,Bq,←h,hs];unfold Ie;rw [if_pos h0]
theorem Zyt{L:List Int}{i:Nat}{n l s:Int}(hi:i<L.length)(h:(n,l)=(L.take i).foldl Ie (0,0))(hs:L.getD i 0=s)(h0:s≠0)(h1:s=-l):(n+1,s)=(L.take (i+1)).foldl Ie (0,0):=by
 rw [Oo 0 L i hi,Bq,←h,hs];unfold Ie;rw [if_neg h0];dsimp only;rw [if_pos h1]
theorem Zys{L:List Int}{i:Nat}{n l s:Int}(hi:i<L.length)(h:(n,l)=(L.take i).foldl Ie (0,0))(hs:L.getD i 0=s)(h0:s≠0)(h1:¬s=-l):(n,s)=(L.take (i+1)).foldl Ie (0,0):=by
 rw [Oo 0 L i hi,Bq,←h,hs];unfold Ie;rw [if_neg h0];dsimp only;rw [if_neg h1]
theorem chg_end{L:List Int}{i:Nat}{n l:Int}(hi:L.length≤i)(h:(n,l)=(L.take i).foldl Ie (0,0)):n=chg L:=by
 rw [List.take_of_length_le hi]at h
 unfold chg;rw [←h]
theorem Zwq(z:Int):-1≤z.sign∧z.sign≤1:=by
 rcases Int.lt_trichotomy z 0 with h | h | h
 ·rw [Int.sign_eq_neg_one_of_neg h];omega
 ·subst h;simp
 ·rw [Int.sign_eq_one_of_pos h];omega
theorem Zx1{α:Type}(d:α)(f:α→Int)(ls:List α){i:Nat}(h:i<ls.length):(ls.map f).getD i 0=f (ls.getD i d):=by
 simp [List.getD_eq_getElem?_getD,h]
def sgx(ls:List (SL×List Int))(f:List Int→Int):List Int:=ls.map fun z=>f z.2
theorem Zns(ls:List (SL×List Int))(f:List Int→Int){i:Nat}(h:i<ls.length):(sgx ls f).getD i 0=f (ls.getD i ((none,0,0),[])).2:=Zx1 _ _ _ h
theorem Zg0(ls:List (SL×List Int))(f:List Int→Int):(sgx ls f).length=ls.length:=List.length_map ..
def fr(p:List Int):Int:=(cf p (p.length-1)).sign
def fl(p:List Int):Int:=if p.length%2=0 then-(cf p (p.length-1)).sign else(cf p (p.length-1)).sign
def fat(x y:Int)(p:List Int):Int:=(pev p x y).sign
theorem fat_r(x y:Int)(p:List Int):-1≤fat x y p∧fat x y p≤1:=Zwq _
theorem Zjh:∀(f:Nat) {x y:List Int},Vp x→Vp y→cok f x y→∀p∈Mn f x y,Vp p
 | 0,x,y,hx,_,_,p,hp=>by rw [List.mem_singleton.1 hp];exact hx
 | f+1,x,y,hx,hy,h,p,hp=>by
  unfold Mn at hp
  split at hp
  ·rw [List.mem_singleton.1 hp];exact hx
  ·rcases h with h | h
   ·contradiction
   ·rcases List.mem_cons.1 hp with rfl | hp
    ·exact hx
    ·exact Zjh f hy (Zhg hx h.1) h.2.2 p hp
theorem vp_chn{xs:List Int}{F:Nat}(hv:Vp xs)(h0:xs≠[])(hC:Zfv F xs):∀p∈chn F xs,Vp p:=by
 obtain⟨h1,h2,h3⟩:=hC
 have hq:=Zjg hv h0 h1
 exact Zjh F hq (Lx (Zef hq (fun i hi=>h2 i (by have:=Zgz hv h1;omega)))) h3
def cnt(F:Nat)(xs:List Int)(x y:Int):Int:=chg ((chn F xs).map (fat x y))
def sright(F:Nat)(xs:List Int):Int:=chg ((chn F xs).map fr)
def sleft(F:Nat)(xs:List Int):Int:=chg ((chn F xs).map fl)
theorem Zrr{ls:List (SL×List Int)}{C:List (List Int)}(h:ls.map Prod.snd=C)(f:List Int→Int):sgx ls f=C.map f:=by
 rw [←h,List.map_map];rfl
theorem Qb{ls:List (SL×List Int)}{C:List (List Int)}{p:List Int→Prop}(h:ls.map Prod.snd=C)(hp:∀q∈C,p q):∀z∈ls,p z.2:=fun z hz=>hp _ (h▸List.mem_map_of_mem hz)
theorem Cz(L:List Int):0≤chg L∧chg L≤L.length:=by
 unfold chg
 suffices h:∀(l:List Int) (s:Int×Int),s.1≤(l.foldl Ie s).1∧(l.foldl Ie s).1≤s.1+l.length by
  have:=h L (0,0);simpa using this
 intro l
 induction l with
 | nil=>intro s;simp
 | cons x l ih=>
  intro s
  have h1:=ih (Ie s x)
  have h2:=chg1_n s x
  simp only [List.foldl_cons,List.length_cons]
  omega
theorem Dq:∀(f:Nat) (x y:List Int),(Mn f x y).length≤f+1
 | 0,x,y=>Nat.le_refl _
 | f+1,x,y=>by
  unfold Mn;split
  ·simp
  ·have:=Dq f y (Ln x y);simp;omega
def sm(xs:List Int)(i:Nat):Nat:=(xs.take i).foldl (fun m c=>max m c.natAbs) 0
theorem Af{x y:Int}(h:¬Ha x y):Zds x y=x/Mz x y∧Zc5 x y=y/Mz x y∧rerr x y=0:=⟨if_neg h,if_neg h,if_neg h⟩
theorem nr_bl{x y:Int}(h:¬Ha x y):bl (Zds x y).natAbs≤65536∧bl (Zc5 x y).natAbs≤65536:=by
 obtain⟨h1,h2,_⟩:=Af h
 rw [h1,h2]
 unfold Ha at h
 omega
theorem Zoj{x y:Int}(h:¬Ha x y)(hy:0<y):0<Zc5 x y:=by
 rw [(Af h).2.1];exact Ztl hy
abbrev R2:=Int×Int
def Ny(a b:R2):R2:=(Zds (Zds (a.1*b.2+b.1*a.2) (a.2*b.2)*1) (Zc5 (a.1*b.2+b.1*a.2) (a.2*b.2)*2),Zc5 (Zds (a.1*b.2+b.1*a.2) (a.2*b.2)*1) (Zc5 (a.1*b.2+b.1*a.2) (a.2*b.2)*2))
def Zdi(a b:R2):Prop:=¬Ha (a.1*b.2+b.1*a.2) (a.2*b.2)∧¬Ha (Zds (a.1*b.2+b.1*a.2) (a.2*b.2)*1) (Zc5 (a.1*b.2+b.1*a.2) (a.2*b.2)*2)
instance (a b:R2):Decidable (Zdi a b):=by unfold Zdi;infer_instance
theorem Ztc{a b:R2}(h:Zdi a b):rerr (Zds (a.1*b.2+b.1*a.2) (a.2*b.2)*1) (Zc5 (a.1*b.2+b.1*a.2) (a.2*b.2)*2)=0:=(Af h.2).2.2
def isp(cv:R2→Int)(hv:Int):Nat→R2→R2→Int→Int→Nat→List (R2×R2)
 | 0,_,_,_,_,_=>[]
 | f+1,a,b,fr,to,d=>if fr=to then []else if fr-to=1∧hv≤(d:Int)then [(a,b)]else isp cv hv f a (Ny a b) fr (cv (Ny a b)) (d+1) ++ isp cv hv f (Ny a b) b (cv (Ny a b)) to (d+1)
def Zx7(cv:R2→Int)(ok:R2→Prop)(hv:Int):Nat→R2→R2→Int→Int→Nat→Prop
 | 0,_,_,_,_,_=>False
 | f+1,a,b,fr,to,d=>fr=to∨(fr-to=1∧hv≤(d:Int))∨(d<1000∧Zdi a b∧ok (Ny a b)∧Zx7 cv ok hv f a (Ny a b) fr (cv (Ny a b)) (d+1)∧Zx7 cv ok hv f (Ny a b) b (cv (Ny a b)) to (d+1))
instance ispDec (cv:R2→Int) (ok:R2→Prop) [DecidablePred ok] (hv:Int):∀f a b fr to d,Decidable (Zx7 cv ok hv f a b fr to d)
 | 0,_,_,_,_,_=>inferInstanceAs (Decidable False)
 | f+1,a,b,fr,to,d=>@instDecidableOr _ _ _ (@instDecidableOr _ _ _ (@instDecidableAnd _ _ _ (@instDecidableAnd _ _ _ (@instDecidableAnd _ _ _ (@instDecidableAnd _ _ (ispDec cv ok hv f a (Ny a b) fr (cv (Ny a b)) (d+1)) (ispDec cv ok hv f (Ny a b) b (cv (Ny a b)) to (d+1)))))))
def okQ(z:R2):Prop:=bl z.1.natAbs≤65536∧bl z.2.natAbs≤65536∧0<z.2
def evok(ls:List (SL×List Int))(m:R2):Prop:=∀z∈ls,¬Kq z.2 m.1 m.2
def cvx(ls:List (SL×List Int))(m:R2):Int:=chg (sgx ls (fat m.1 m.2))
def cvc(F:Nat)(xs:List Int)(m:R2):Int:=cnt F xs m.1 m.2
def evc(F:Nat)(xs:List Int)(m:R2):Prop:=∀p∈chn F xs,¬Kq p m.1 m.2
def slow(a:R2):R2:=(Zds a.1 a.2,Zc5 a.1 a.2)
def sisol(F:Nat)(xs:List Int)(f:Nat)(a b:R2)(hq:Int):List (R2×R2):=isp (cvc F xs) hq f (slow a) (slow b) (cvc F xs a) (cvc F xs b) 0
def isOK(F:Nat)(xs:List Int)(f:Nat)(a b:R2)(hq:Int):Prop:=Zfv F xs∧evc F xs a∧evc F xs b∧¬Ha a.1 a.2∧¬Ha b.1 b.2∧Zx7 (cvc F xs) (evc F xs) hq f (slow a) (slow b) (cvc F xs a) (cvc F xs b) 0∧(sisol F xs f a b hq).length≤1000000
open Go.Proofs.Tryz
open Go.Proofs
set_option maxRecDepth 20000
set_option maxHeartbeats 4000000
set_option linter.unusedSimpArgs false
theorem st_fits(v:Value)(xs:List Int)(hv:Vp xs):Mc prog 197 #[v] [slp 2 wv v xs] (.bool (decide (Zcd xs))):=by
 refine Yc func197 J ntmps197 J K1 ?_
 intro w0 sc hw hsc
 simp only [Zq,Zp]
 have hlen:=hv.len
 have hmz:=Ob hv.sz
 have q1:(xs.length+2)*(xs.length+2)≤27*27:=Nat.mul_le_mul (by omega) (by omega)
 have q2:(xs.length+2)*(xs.length+2)*(msz xs+16)≤27*27*65552:=Nat.mul_le_mul q1 (by omega)
 have q3:((xs.length:Int)-1+3)*((xs.length:Int)-1+3)=(((xs.length+2)*(xs.length+2):Nat):Int):=by rw [show(xs.length:Int)-1+3=((xs.length+2:Nat):Int) by omega];push_cast;rfl
 have q4:((xs.length:Int)-1+3)*((xs.length:Int)-1+3)*((msz xs:Int)+16)=(((xs.length+2)*(xs.length+2)*(msz xs+16):Nat):Int):=by rw [q3];push_cast;rfl
 refine Zd<|Zg<|as_ J<|Zf<|Za<|Zd<|Zd<|Zg<|mv J<|tt (Zh (n:=1) (Xy _ _ ‹_›) J J J K1 Zfq (Zc 1 J J J Ze) J hw) fun _ _=>dt (Xg J J)<|Zf<|Za<|Ye J<|Zj<|Za<|Zd<|Zg<|mv J<|tt (Zh (n:=1) (Ze3 _ _ hv) J J J K1 call105 (Zc 1 J J J Ze) J hw) fun _ _=>mv J<|dt (Yh J J J)<|dt (Yh J J J)<|as_ J<|as_ J<|Zf<|Za<|Zd<|Zg<|mv J<|tt (Zh (n:=1) (Zka _ _ hv) J J J K1 call106 (Zc 1 J J J Ze) J hw) fun _ _=>mv J<|dt (Yh J J J)<|dt (Yh J J J)<|as_ J<|as_ J<|Zf<|Za<|Zd<|Zg<|mv J<|dt (Yd J J (i:=1) J Zi Qx)<|dt (Pg J J J)<|mv J<|Qm (d:=23) J (fun s24=>?_) (fun s24=>?_)
 ·exact gsk J J J<|gsk J J J<|gsk J J J<|gsk J J J<|gsk J J J<|gsk J J J<|gsk J J J<|gsk J J J<|gsk J J J<|dt (Ys J J J)<|as_ J<|Zf<|Za<|Zu<|xU hsc results197 J J (by first | exact sf_t (by omega) | exact sf_i (by omega) q4)
 ·exact gdt (Yo J J) J J<|gdt (Yx J J J ⟨by omega,by omega⟩) J J<|gdt (Yo J J) J J<|gdt (Yx J J J ⟨by omega,by omega⟩) J J<|gdt (Dx J J J (by rw [q3];exact⟨by omega,by omega⟩)) J J<|gdt (Yo J J) J J<|gdt (Yx J J J ⟨by omega,by omega⟩) J J<|gdt (Dx J J J (by rw [q4];exact⟨by omega,by omega⟩)) J J<|gdt (Cf J J J) J J<|dt (Zz J J J)<|as_ J<|Zf<|Za<|Zu<|xU hsc results197 J J (by first | exact sf_t (by omega) | exact sf_i (by omega) q4)
theorem Zri(v:Value)(xs:List Int)(hv:Vp xs):Mc prog 183 #[v,.slice none 0 0] [slp 2 wv v xs] (.int .i64 (chk0 xs)):=by
 refine Yc func183 J ntmps183 J K1 ?_
 intro w0 sc hw hsc
 simp only [Zq,Zp]
 refine Yr (Na 999 2 31 wv)<|Yr (Pd 999 J J pV)<|Zd<|Zg<|as_ J<|Zf<|Za<|Zd<|Zg<|mv J<|tt (Zh (n:=1) (st_fits _ _ hv) J J J K1 call197 (Zc 1 J J J Ze) J hw) fun _ _=>dt (Zf6 J J)<|as_ J<|Zf<|Za<|Zd<|Zd<|Zg<|mv J<|dt (Yd J J (i:=999) J Zi Zqr)<|mv J<|Zf<|Za<|Zo<|Nt [(0,_),(1,_),(13,_),(14,_)] [(0,_),(1,_),(999,_)] (fun(_:Unit)=>[(15,.int .i64 0),(5,.bool (decide (¬Zcd xs)))]) (fun(_:Unit)=>[]) (fun(_:Unit)=>True) (fun(_:Unit)=>0) () trivial K6 K3 ?_
 rintro _ -
 simp only [CA,NA]
 refine Zd<|Zg<|dt (Ya (r':= .bool false) (Xr J J J) (congrArg Value.bool (by decide)))<|Zf<|Za<|Zd<|Ye J<|Yv<|Zv<|Zv<|Ox<|Za<|Zd<|Zd<|Zg<|mv J<|tt (Zh (n:=1) (Xy _ _ ‹_›) J J J K1 Zfq (Zc 1 J J J Ze) J hw) fun _ _=>dt (Xg J J)<|Zf<|Za<|Ye J<|Zj<|Za<|Zd<|Zd<|Zg<|mv J<|dt (Yd J J (i:=1) J Zi Qx)<|dt (Pg J J J)<|Zf<|Za<|Zs J (fun h39=>?_) (fun h39=>?_)
 ·exact Zd<|Zg<|as_ J<|Zf<|Za<|Zu<|Xa<|xU hsc results183 J J (by unfold chk0;rw [if_pos (by omega)])
 ·refine Zj<|Za<|Zd<|Zd<|Zg<|mv J<|dt (Yd J J (i:=999) J Zi Zqr)<|dt (Ya (r':= .bool false) (Pg J J J) (congrArg Value.bool (by decide)))<|Zf<|Za<|Ye J<|Zj<|Za<|Zd<|Zd<|Zg<|mv J<|Zf<|Za<|Mm J (fun h47=>?_) (fun h47=>?_)
  ·exact Zd<|Zg<|as_ J<|Zf<|Za<|Zu<|Xa<|xU hsc results183 J J (by unfold chk0;rw [if_neg (by omega),if_neg (by simpa using h47)])
  ·exact Zj<|Za<|Zd<|Zg<|as_ J<|Zf<|Za<|Zu<|xU hsc results183 J J (by unfold chk0;rw [if_neg (by omega),if_pos (by simpa using h47)])
theorem Zlm(v:Value)(xs:List Int)(hv:Vp xs)(h0:xs≠[]):Cal prog 184 #[v] [slp 2 wv v xs] true (G:=Value) (fun r=>True) (fun r=> .tuple #[r,.int .i64 0]) (fun r=>[slp 2 wv r (nrm xs)]):=by
 refine Yc func184 J ntmps184 J K1 ?_
 intro w0 sc hw hsc
 simp only [Zq,Zp]
 have hvp:=Lx hv
 have hl0:=List.length_pos_iff.2 h0
 have hlp:=Yl xs
 have hlen:=hv.len
 refine Zd<|Zg<|as_ J<|as_ J<|Zf<|Za<|Zd<|Zg<|mv J<|tt (Zh (n:=2) (Mk _ _ hv) J J J K1 call150 (Zc 1 J J J Ze) J hw) fun _ _=>mv J<|dt (Yh J J J)<|dt (Yh J J J)<|as_ J<|as_ J<|Zf<|Za<|Zd<|Zd<|Zg<|mv J<|dt (Ya (r':= .bool true) (Pg J J J) (congrArg Value.bool (by decide)))<|mv J<|gdt (Yo J J) J J<|gdt (Yo J J) J J<|gdt (Yd J J (i:=2) J Zi Qx) J J<|gdt (Qd J J J ⟨by omega,by omega⟩) J J<|gdt (Xb (ii:=2) (i:=((Xc xs).length-1)) J J J J Zi Qx Yq) J J<|gdt (Xv (ii:=2) 0 J J J Zi pV (by first | omega | (simp only [List.length_set];omega))) J J<|gtt (Zh (n:=2) (Ms _ (hvp.sz _)) J J J K1 call104 Ze J hw) J J J fun _ _=>gdt (Xr J J J) J J<|dt (Ys J J J)<|Zf<|Za<|Zs J (fun h56=>?_) (fun h56=>?_)
 ·exact Zd<|Zg<|mv J<|tt (Zh (n:=2) (Xf _ ⟨by decide,by decide⟩) J J J K1 Bt Ze J hw) fun _ _=>tt (Zh (n:=3) (Eo _ _ _ hvp (by decide +kernel) (fun i=>Zaf hvp.sz i)) J J J K2 call151 (Zc 2 J J J Ze) J hw) fun _ _=>dt (Yh J J J)<|dt (Yh J J J)<|as_ J<|as_ J<|Zf<|Za<|Zu<|Xa<|Ym (.inl J) hsc _ _ (fun a w hs=>Nl hs results184 J J) J trivial J (Yi 3 J J J (by rw [Zim (by omega) ((Qe _).1 ‹_›)]<;>rfl) Zk)
 ·exact Zj<|Za<|Zd<|Zg<|mv J<|mv J<|as_ J<|as_ J<|Zf<|Za<|Zu<|Ym (.inl J) hsc _ _ (fun a w hs=>Nl hs results184 J J) J trivial J (Yi 2 J J J (by rw [Zil (fun h=>by have h2:=(Qe _).2 h;exact absurd h2 ‹_›)]<;>rfl) Zk)
theorem st_sqf(v:Value)(xs:List Int)(hv:Vp xs)(h0:xs≠[])(hf:Zcd xs)(F:Nat)(hS:sqOK F xs):Cal prog 161 #[v] [slp 2 wv v xs] true (G:=Value) (fun r=>True) (fun r=> .tuple #[r,.int .i64 0]) (fun r=>[slp 2 wv r (sqf F xs)]):=by
 refine Yc func161 J ntmps161 J K1 ?_
 intro w0 sc hw hsc
 simp only [Zq,Zp]
 obtain⟨hS1,hS2,hS3,hS4,hS5⟩:=hS
 have hvn:=Zq6 hv
 have hln:=Px hv.tr
 have hvd:Vp (Pk (nrm xs)):=Zef hvn (fun i hi=>hS1 i (by omega))
 have hvg:=Zq4 hvn hvd hS3
 have hc0:=chk0_ok h0 hf
 refine Yr (Na 999 2 31 wv)<|Yr (Pd 999 J J pV)<|Zd<|Zg<|as_ J<|as_ J<|Zf<|Za<|Zd<|Zd<|Zg<|mv J<|tt (Zh (n:=1) (Zri _ _ hv) J J J K2 call183 (Zc 1 J J J Ze) J hw) fun _ _=>as_ J<|Zf<|Za<|Zd<|Zg<|mv J<|dt (Qc J J J)<|Zf<|Za<|Zs J (fun h64=>?_) (fun h64=>?_)
 ·exfalso;omega
 ·refine Zj<|Za<|Zd<|Zg<|mv J<|tt (Zh (n:=2) (Zlm _ _ hv h0) J J J K1 call184 (Zc 1 J J J Ze) J hw) fun _ _=>mv J<|dt (Yh J J J)<|dt (Yh J J J)<|as_ J<|as_ J<|Zf<|Za<|Zd<|Zd<|Zg<|mv J<|dt (Ya (r':= .bool false) (Qc J J J) (congrArg Value.bool (by decide)))<|Zf<|Za<|Ye J<|Zj<|Za<|Zd<|Zg<|mv J<|tt (Zh (n:=3) (Dm _ _ hvn (fun i=>by by_cases hi:i<xs.length;exact hS1 i hi;rw [Qh (by omega)];simp [Lm])) J J J K1 call109 (Zc 2 J J J Ze) J hw) fun _ _=>mv J<|dt (Yh J J J)<|dt (Yh J J J)<|as_ J<|as_ J<|Zf<|Za<|Zd<|Zd<|Zg<|mv J<|dt (Ya (r':= .bool false) (Qc J J J) (congrArg Value.bool (by decide)))<|Zf<|Za<|Ye J<|Zj<|Za<|Zd<|Zg<|mv J<|mv J<|tt (Zh (n:=4) (Zoc _ _ _ _ hvn hvd F hS2 hS3) J J J K2 call110 (Zc 2 J J J (Zc 3 J J J Ze)) J hw) fun _ _=>mv J<|dt (Yh J J J)<|dt (Yh J J J)<|as_ J<|as_ J<|Zf<|Za<|Zd<|Zd<|Zg<|mv J<|dt (Ya (r':= .bool false) (Qc J J J) (congrArg Value.bool (by decide)))<|Zf<|Za<|Ye J<|Zj<|Za<|Zd<|Zg<|mv J<|mv J ?_
  exact tt (Zh (n:=5) (Av _ _ _ _ hvn hvg hS4) J J J K2 call111 (Zc 2 J J J (Zc 4 J J J Ze)) J hw) fun _ _=>dt (Yh J J J)<|dt (Yh J J J)<|as_ J<|as_ J<|Zf<|Za<|Zu<|Ym (.inl J) hsc _ _ (fun a w hs=>Nl hs results161 J J) (by rw [if_pos hS5]<;>rfl) trivial J (Yi 5 J J J (by rw [if_pos hS5]<;>rfl) Zk)
theorem st_next(v u:Value)(xs ys:List Int)(hv:Vp xs)(hu:Vp ys)(h0:ys≠[])(hd:Zd5 xs ys=0)(hl:ys.length≤xs.length):Cal prog 162 #[v,u] [slp 2 wv v xs,slp 2 wv u ys] true (G:=Value) (fun r=>True) (fun r=> .tuple #[r,.int .i64 0]) (fun r=>[slp 2 wv r (Ln xs ys)]):=by
 refine Yc func162 J ntmps162 J K2 ?_
 intro w0 sc hw hsc
 simp only [Zq,Zp]
 have hvr:=Bd hv hd
 have hvp:=Lx hvr
 have hlen:=hv.len
 have hlen2:=hu.len
 have hl0:=List.length_pos_iff.2 h0
 refine Yr (Na 999 2 31 wv)<|Yr (Pd 999 J J pV)<|Zd<|Zg<|as_ J<|as_ J<|Zf<|Za<|Zd<|Zg<|mv J<|mv J<|tt (Zh (n:=3) (Zj7 _ _ _ _ hv hu hd) J J J K2 call155 (Zc 1 J J J (Zc 2 J J J Ze)) J hw) fun _ _=>mv J<|dt (Yh J J J)<|dt (Yh J J J)<|as_ J<|as_ J<|Zf<|Za<|Zd<|Zd<|Zg<|mv J<|dt (Ya (r':= .bool false) (Qc J J J) (congrArg Value.bool (by decide)))<|mv J<|gdt (Yo J J) J J<|gdt (Yd J J (i:=3) J Zi Qx) J J<|gdt (Pg J J J) J J<|dt (Zz J J J)<|Zf<|Za<|Zs J (fun h85=>?_) (fun h85=>?_)
 ·exact Zd<|Zg<|mv J<|as_ J<|as_ J<|Zf<|Za<|Zu<|Xa<|Ym (.inl J) hsc (.slice none 0 0) _ (fun a w hs=>Nl hs results162 J J) J trivial J (Lo (Zrj (by omega)) Zk)
 ·refine Zj<|Za<|Zd<|Zg<|mv J<|tt (Zh (n:=4) (Mk _ _ hvr) J J J K1 call150 (Zc 3 J J J Ze) J hw) fun _ _=>mv J<|dt (Yh J J J)<|dt (Yh J J J)<|as_ J<|as_ J<|Zf<|Za<|Zd<|Zd<|Zg<|mv J<|dt (Ya (r':= .bool false) (Qc J J J) (congrArg Value.bool (by decide)))<|Zf<|Za<|Ye J<|Zj<|Za<|Zd<|Zg<|mv J<|dt (Yd J J (i:=1) J Zi Qx)<|mv J<|dt (Yd J J (i:=2) J Zi Qx)<|dt (Qd J J J ⟨by omega,by omega⟩)<|dt (Yx J J J ⟨by omega,by omega⟩)<|as_ J<|Zf<|Za<|Zd<|Zd<|Zg<|mv J<|mv J<|dt (Yd J J (i:=2) J Zi Qx)<|dt (Qd J J J ⟨by omega,by omega⟩)<|dt (Xb (ii:=2) (i:=(ys.length-1)) J J J J Zi Qx Yq)<|dt (Xv (ii:=2) 0 J J J Zi pV (by first | omega | (simp only [List.length_set];omega)))<|tt (Zh (n:=4) (Ms _ (hu.sz _)) J J J K1 call104 Ze J hw) fun _ _=>dt (Xr J J J)<|mv J<|Qm (d:=45) J (fun s94=>?_) (fun s94=>?_)
  ·refine gdt (Yo J J) J J<|gdt (Zmy J J J) J J<|gdt (Pg J J J) J J<|dt (Ys J J J)<|Zf<|Za<|Zs J (fun h94=>?_) (fun h94=>?_)
   ·exact Zd<|Zg<|mv J<|as_ J<|as_ J<|Zf<|Za<|Zu<|Xa<|Ym (.inl J) hsc _ _ (fun a w hs=>Nl hs results162 J J) J trivial J (Yi 4 J J J (by rw [snext_a hl ‹_› ‹_›]<;>rfl) Zk)
   ·exact Zj<|Za<|Zd<|Zg<|mv J<|tt (Zh (n:=4) (Xf _ ⟨by decide,by decide⟩) J J J K1 Bt Ze J hw) fun _ _=>tt (Zh (n:=5) (Eo _ _ _ hvp (by decide +kernel) (fun i=>Zaf hvp.sz i)) J J J K2 call151 (Zc 4 J J J Ze) J hw) fun _ _=>dt (Yh J J J)<|dt (Yh J J J)<|as_ J<|as_ J<|Zf<|Za<|Zu<|Ym (.inl J) hsc _ _ (fun a w hs=>Nl hs results162 J J) J trivial J (Yi 5 J J J (by first | (rw [Zrl ‹_›]<;>rfl) | (rw [Zrk hl ‹_›]<;>rfl)) Zk)
  ·exact gsk J J J<|gsk J J J<|gsk J J J<|dt (Zz J J J)<|Zf<|Za<|Ye J<|Zj<|Za<|Zd<|Zg<|mv J<|tt (Zh (n:=5) (Xf _ ⟨by decide,by decide⟩) J J J K1 Bt Ze J hw) fun _ _=>tt (Zh (n:=6) (Eo _ _ _ hvp (by decide +kernel) (fun i=>Zaf hvp.sz i)) J J J K2 call151 (Zc 4 J J J Ze) J hw) fun _ _=>dt (Yh J J J)<|dt (Yh J J J)<|as_ J<|as_ J<|Zf<|Za<|Zu<|Ym (.inl J) hsc _ _ (fun a w hs=>Nl hs results162 J J) J trivial J (Yi 6 J J J (by first | (rw [Zrl ‹_›]<;>rfl) | (rw [Zrk hl ‹_›]<;>rfl)) Zk)
theorem Zwf(v:Value)(xs:List Int)(hv:Vp xs)(h0:xs≠[])(hf:Zcd xs)(F:Nat)(hC:Zfv F xs):Cal prog 118 #[v] [slp 2 wv v xs] true (G:=Value×List (SL×List Int)) (fun r=>r.2.map Prod.snd=chn F xs) (fun r=> .tuple #[r.1,.int .i64 0]) (fun r=>[Zad 1 Br qZ r.1 r.2]):=by
 refine Yc func118 J ntmps118 J K1 ?_
 intro w0 sc hw hsc
 simp only [Zq,Zp]
 obtain⟨hC1,hC2,hC3⟩:=hC
 have hvq:=Zjg hv h0 hC1
 have hlq:=Zgz hv hC1
 have hvqd:Vp (Pk (sqf F xs)):=Zef hvq (fun i hi=>hC2 i (by omega))
 refine Yr (Na 999 2 31 wv)<|Yr (Pd 999 J J pV)<|Zd<|Zg<|as_ J<|as_ J<|Zf<|Za<|Zd<|Zg<|mv J<|tt (Zh (n:=2) (st_sqf _ _ hv h0 hf F hC1) J J J K1 call161 (Zc 1 J J J Ze) J hw) fun _ _=>mv J<|dt (Yh J J J)<|dt (Yh J J J)<|as_ J<|as_ J<|Zf<|Za<|Zd<|Zd<|Zg<|mv J<|dt (Ya (r':= .bool false) (Qc J J J) (congrArg Value.bool (by decide)))<|Zf<|Za<|Ye J<|Zj<|Za<|Zd<|Zg<|mv J<|tt (Zh (n:=3) (Dm _ _ hvq (fun i=>by by_cases hi:i<xs.length;exact hC2 i hi;rw [Qh (by omega)];simp [Lm])) J J J K1 call109 (Zc 2 J J J Ze) J hw) fun _ _=>mv J<|dt (Yh J J J)<|dt (Yh J J J)<|as_ J<|as_ J<|Zf<|Za<|Zd<|Zd<|Zg<|mv J<|dt (Ya (r':= .bool true) (Pg J J J) (congrArg Value.bool (by decide)))<|Zf<|Za<|Pf J<|Zg<|mv J<|tt (Zh (n:=80) (Mk _ _ hvqd) J J J K1 call150 (Zc 3 J J J Ze) J hw) fun _ _=>mv J<|dt (Yh J J J)<|dt (Yh J J J)<|as_ J<|as_ J<|Zf<|Za<|Zd<|Zd<|Zg<|mv J<|dt (Ya (r':= .bool false) (Qc J J J) (congrArg Value.bool (by decide)))<|Zf<|Za<|Ye J<|Zj<|Za<|Zd<|e_ex (Ov 2 J Zi) (fun ss hss=>?_)
 subst hss
 refine Yr (Mt qZ 71)<|Yr (Pz (q:=qZ) (z:=(ss,sqf F xs)) 71 2 71 J J J J J)<|e_ex (Ov 80 J Zi) (fun sd0 hsd=>?_)
 subst hsd
 refine Zg<|mv J<|tt (Po (i:=70) (ivs:=[(0,_)]) (enc:=Br) [(ss,sqf F xs)] J J K2 Zlf ti23 J J J J J pS.cells J J hw) fun v _=>as_ J<|Zf<|Za<|Zd<|Zo<|Nt [] [(0,_),(1,_),(999,_),(2,_),(3,_)] (fun(q:List (SL×List Int)×SL×List Int×SL×List Int×Nat×Value)=>[(7,q.2.2.2.2.2.2),(6,svv q.2.2.2.1)]) (fun(q:List (SL×List Int)×SL×List Int×SL×List Int×Nat×Value)=>[(70,osl 1 23 Br q.2.2.2.2.2.2 (q.1 ++ [(q.2.1,q.2.2.1)])),(71,Zcn qZ (q.1 ++ [(q.2.1,q.2.2.1)])),(80,slp 2 wv (svv q.2.2.2.1) q.2.2.2.2.1)]) (fun(q:List (SL×List Int)×SL×List Int×SL×List Int×Nat×Value)=>(Vp q.2.2.1)∧(Vp q.2.2.2.2.1)∧(cok q.2.2.2.2.2.1 q.2.2.1 q.2.2.2.2.1)∧(q.1.map Prod.snd ++ Mn q.2.2.2.2.2.1 q.2.2.1 q.2.2.2.2.1=chn F xs)∧(q.1.length+q.2.2.2.2.1.length≤25)) (fun(q:List (SL×List Int)×SL×List Int×SL×List Int×Nat×Value)=>q.2.2.2.2.1.length) ([],ss,sqf F xs,sd0,Xc (Pk (sqf F xs)),F,_) ⟨hvq,Lx hvqd,hC3,J,by rw [Yl];simp;have:=hvqd.len;omega⟩ K2 K8 ?_
 rintro⟨ws,sx,x,sd,y,f,vo⟩ ⟨hvx,hvy,hck,hch,hwl⟩
 dsimp only at hvx hvy hck hch hwl
 simp only [CA,NA]
 refine Zd<|Zd<|Zg<|mv J<|dt (Yd J J (i:=80) J Zi Qx)<|dt (Pm J J J)<|Zf<|Za<|Zs J (fun h114=>?_) (fun h114=>?_)
 ·have hy0:y≠[]:=fun e=>by rw [e]at h114;simp at h114
  obtain⟨f0,rfl,hd,hle,hck2,hsc2⟩:=Zd6 hck hy0
  refine Zj<|Za<|Zo<|Zd<|Zg<|mv J<|mv J<|tt (Po (i:=4) (ivs:=[(0,_)]) (enc:=Br) [(sd,y)] J J K2 Zlf ti23 J J J J J pS.cells J J hw) fun v_2 _=>tt (Iu (i:=70) (j:=4) (by_:=24) J J J J J J (by decide) J (Yt pS) Zlf ti23 J pS J J J (by simp;omega) (by decide) J hw) fun v_3 _=>as_ J<|Zf<|Za<|Zd ?_
  have hll:(ws ++ [(sx,x)] ++ [(sd,y)]).length=ws.length+2:=by simp
  refine Yr (Pz (q:=qZ) (z:=(sd,y)) 71 80 71 J J J J J)<|Yr (s_many (q:=qZ) 71 92 (sx,x) J J (by simp) J)<|Zg<|mv J<|mv J<|dt (Yd J J (i:=70) J (Yt pS) Zlf)<|dt (Qd J J J ⟨by omega,by omega⟩)<|dt (Xb (ii:=70) (i:=ws.length) J J J J (Yt pS) Zlf sizeOf23)<|dt (Ya (r':=svv sx) (Xv (ii:=70) Z0 J J J (Yt pS) pS) (by simp [List.getD_eq_getElem?_getD])) ?_
  refine mv J<|tt (Zh (n:=80) (st_next _ _ _ _ hvx hvy hy0 hd hle) J J J K2 call162 (Zc 92 J J J (Zc 80 J J J Ze)) J hw) fun _ _=>l_ex (Ov 80 J Zi) (fun sn hsn=>?_)
  subst hsn
  exact mv J<|dt (Yh J J J)<|dt (Yh J J J)<|as_ J<|as_ J<|Zf<|Za<|Zd<|Zg<|mv J<|dt (Ya (r':= .bool false) (Qc J J J) (congrArg Value.bool (by decide)))<|Zf<|Za<|Ye J<|Zj<|Oe<|Xn (ws ++ [(sx,x)],sd,y,sn,Ln x y,f0,_) ⟨hvy,Zhg hvx hd,hck2,by rw [←hch,hsc2];simp,by have h7:=Pa x hy0;have h8:=Ff (y:=y) hvx.tr;simp;omega⟩ (by have h7:=Pa x hy0;have h8:=Ff (y:=y) hvx.tr;dsimp only;omega) K2 K8
 ·refine Yv<|Zv<|Zv<|Ox<|Za<|Zd ?_
  obtain rfl:y=[]:=List.eq_nil_of_length_eq_zero (by omega)
  exact Yr (Pd 70 J J pS)<|Yr (Mq 70 71 72 J J J J)<|Zg<|mv J<|as_ J<|as_ J<|Zf<|Za<|Zu<|Ym (.inl J) hsc (_,ws ++ [(sx,x)]) _ (fun a w hs=>Nl hs results118 J J) J (by rw [←hch,Gj];simp) J (Yy 72 J J J Zk)
theorem Zcc{c:Int} : c.sign<0↔c<0:=Qe c
abbrev RWL:=List (Bool×ByteArray)
def smallR(r:RWL):Bool:=decide (r.length≤8) && r.all fun c=>decide (c.2.size≤6)
noncomputable def dec (r:RWL):List Int:=if h:okP r=true then(okP_ex h).choose else []
theorem Zpc{r:RWL}(h:okP r=true):Vp (dec r)∧r=(dec r).map wr:=by
 unfold dec;rw [dif_pos h];exact(okP_ex h).choose_spec
noncomputable def bdE (r:RWL):Int:=if okP r=true then chk0 (dec r)else 2
noncomputable def bdZ (r:RWL):Int:=if bdE r=0 then sbound (dec r)else 0
theorem Zln{r:RWL}(h:okP r=true)(v:Value)(w:World)(hh:(slp 2 Zfg v r).holds w):(slp 2 wv v (dec r)).holds w:=
 Zrm v (dec r) w ((Zpc h).2▸hh)
theorem rabs_n{y:List Int}{c:Int}{n:Nat}(hn:y.length=n)(hc:c=cf y (n-1))(h:c.sign<0):Ar y=-c:=by
 subst hn;unfold Ar;rw [←hc,if_pos (Zcc.1 h)]
theorem rabs_p{y:List Int}{c:Int}{n:Nat}(hn:y.length=n)(hc:c=cf y (n-1))(h:¬c.sign<0):Ar y=c:=by
 subst hn;unfold Ar;rw [←hc,if_neg (fun h2=>h (Zcc.2 h2))]
theorem rb_n{x y:List Int}{c d:Int}{n m:Nat}(hn:y.length=n)(hm:x.length=m)(hc:c=cf y (n-1))(hd:d=cf x (m-1))(h:c.sign<0):rb x y=-d:=by
 subst hn hm;unfold rb;rw [←hc,if_pos (Zcc.1 h),hd]
theorem rb_p{x y:List Int}{c d:Int}{n m:Nat}(hn:y.length=n)(hm:x.length=m)(hc:c=cf y (n-1))(hd:d=cf x (m-1))(h:¬c.sign<0):rb x y=d:=by
 subst hn hm;unfold rb;rw [←hc,if_neg (fun h2=>h (Zcc.2 h2)),hd]
theorem Zvg(y:List Int):bl (Ar y).natAbs≤msz y:=by
 have:=Oh y (y.length-1)
 unfold Ar;split
 ·rwa [Int.natAbs_neg]
 ·exact this
theorem bl_rb(x y:List Int):bl (rb x y).natAbs≤msz x:=by
 have:=Oh x (x.length-1)
 unfold rb;split
 ·rwa [Int.natAbs_neg]
 ·exact this
theorem Bf{p:List Int}{c:Int}{n m:Nat}(hp:Sz n p)(hc:bl c.natAbs≤m):Sz (n+m) (Xo p c):=fun i=>by
 rw [Xt];have h1:=Xm (cf p i) c;have h2:=hp i;omega
theorem Zv9{p q:List Int}{n:Nat}(hp:Sz n p)(hq:Sz n q):Sz (n+1) (Zf2 p q):=fun i=>by
 rw [Kx];have h1:=Fx (cf p i) (cf q i);have h2:=hp i;have h3:=hq i;omega
theorem sz_shm'{x y:List Int}{s i:Nat} : Sz (msz x+msz y) (shm y (rb x y) s i):=Znr fun t=>by
 have h1:=Xm (rb x y) (cf y t);have h2:=bl_rb x y;have h3:=Oh y t;omega
theorem Zkf(x y:List Int):msz (Fq x y)≤msz x+msz y+1:=by
 refine Ob ?_
 unfold Fq
 exact Zv9 (Bf (Oh x) (Zvg y)) sz_shm'
theorem Zr2{x y:List Int}{f S:Nat}(hy0:0<y.length)(hle:y.length≤x.length)(hL:x.length<y.length+f)(hT:Tr x)(hS:msz x+f*(msz y+1)≤S) :
  ∃g,f=g+1∧Bw f x y=Bw g (Fq x y) y∧(Fq x y).length<y.length+g∧Tr (Fq x y)∧msz (Fq x y)+g*(msz y+1)≤S∧(Fq x y).length<x.length:=by
 obtain⟨g,rfl⟩:∃g,f=g+1:=⟨f-1,by omega⟩
 have h1:=Zc9 hT hy0 hle
 have h2:=Zkf x y
 refine⟨g,rfl,?_,by omega,Zb6 _ _,?_,h1⟩
 ·rw [Bw,if_neg (by omega)]
 ·rw [Nat.succ_mul]at hS;omega
theorem Zww{x y:List Int}{f:Nat}(h:x.length<y.length):Bw f x y=x:=by
 cases f with
 | zero=>rfl
 | succ f=>rw [Bw,if_pos h]
theorem Zol(y:List Int):∀(f:Nat) (x:List Int),msz (Bw f x y)≤msz x+f*(msz y+1)
 | 0,x=>by rw [Bw];omega
 | f+1,x=>by
  rw [Bw]
  split
  ·omega
  ·have h1:=Zol y f (Fq x y)
   have h2:=Zkf x y
   rw [Nat.succ_mul];omega
theorem Cal.toS {P:Program} {f:FuncId} {args:Array Value} {pre:List Pc} {al:Bool} {φ:Value×List (Int×SL)→Prop}
  (h:Cal P f args pre al (G:=Value×List (Int×SL)) φ (fun r=>r.1) (fun r=>[pp r.1 r.2])) :
  Cal P f args pre al (G:=SL×List (Int×SL)) (fun r=>φ (svv r.1,r.2)) (fun r=>svv r.1) (fun r=>[pp (svv r.1) r.2]):=fun w hw=>by
 refine(h w hw).mono fun e w' ⟨g,he,hφ,hb,hi⟩=>?_
 obtain⟨v,z⟩:=g
 have h0:=(hi _ (List.mem_cons_self ..)).1
 obtain⟨ad,c,h1,_⟩:=Yb w' h0
 have h2:v=svv (ad,z.length,c):=h1
 subst h2
 exact⟨((ad,z.length,c),z),he,hφ,hb,hi⟩
abbrev qT (z:SL×List (Int×SL)):Pc:=pp (svv z.1) z.2
abbrev T0:SL×List (Int×SL):=((none,0,0),[])
abbrev Bz (zs:List (SL×List (Int×SL))):List (List Int):=zs.map fun z=>Zt z.2
def firstE(r:RWL)(x y x2 y2:Int):Int:=if okP r=true then(if r.length=0∨0<x*y2-x2*y then 3 else 0)else 2
theorem Zts{z:List (SL×List (Int×SL))}{L:List (List Int)}(h:Bz z=L):z.length=L.length:=by rw [←h];simp
theorem Zk6{n:Nat}(k:Nat)(h:(Qo n).size≤k):bl n≤8*k:=by
 have h1:=Lc n
 have h2:=Zbd n
 omega
theorem Zpj{n l x:Int}(h1:-1≤l)(h2:l≤1)(h3:-1≤x)(h4:x≤1):Ie (n,l) x=(if x*l<0 then n+1 else n,if x≠0 then x else l):=by
 obtain rfl | rfl | rfl:l=-1∨l=0∨l=1:=by omega
 all_goals obtain rfl | rfl | rfl:x=-1∨x=0∨x=1:=by omega
 all_goals simp [Ie]
theorem Zw3{n l x:Int}(h1:-1≤l)(h2:l≤1)(h3:-1≤x)(h4:x≤1)(ha:x*l<0)(hb:x≠0):Ie (n,l) x=(n+1,x):=by rw [Zpj h1 h2 h3 h4,if_pos ha,if_pos hb]
theorem Zw2{n l x:Int}(h1:-1≤l)(h2:l≤1)(h3:-1≤x)(h4:x≤1)(ha:x*l<0)(hb:¬x≠0):Ie (n,l) x=(n+1,l):=by rw [Zpj h1 h2 h3 h4,if_pos ha,if_neg hb]
theorem Zw1{n l x:Int}(h1:-1≤l)(h2:l≤1)(h3:-1≤x)(h4:x≤1)(ha:¬x*l<0)(hb:x≠0):Ie (n,l) x=(n,x):=by rw [Zpj h1 h2 h3 h4,if_neg ha,if_pos hb]
theorem Zw0{n l x:Int}(h1:-1≤l)(h2:l≤1)(h3:-1≤x)(h4:x≤1)(ha:¬x*l<0)(hb:¬x≠0):Ie (n,l) x=(n,l):=by rw [Zpj h1 h2 h3 h4,if_neg ha,if_neg hb]
theorem Zaq{l:List Int}{i:Nat}{n m:Int}(hi:i<l.length)(h:(n,m)=(l.take i).foldl Ie (0,0)):(l.take (i+1)).foldl Ie (0,0)=Ie (n,m) (l.getD i 0):=by
 rw [Oo 0 l i hi,Bq,h]
theorem mul_r{x m:Int}(h3:-1≤x)(h4:x≤1)(h1:-1≤m)(h2:m≤1):-9223372036854775808≤x*m∧x*m≤9223372036854775807:=by
 obtain rfl | rfl | rfl:m=-1∨m=0∨m=1:=by omega
 all_goals obtain rfl | rfl | rfl:x=-1∨x=0∨x=1:=by omega
 all_goals decide
theorem ev_b{p:List Int}{x y:Int}(hs:Sz 1000000 p)(hl:p.length≤30)(hx:bl x.natAbs≤1000000)(hy:bl y.natAbs≤1000000):bl (pev p x y).natAbs≤100000010:=
 Zm6 (fun t _=>ev_tb hs (fun k=>Am hx k) (fun k=>Am hy k) hl t) (by omega)
theorem Ztr{z:List (SL×List (Int×SL))}{L:List (List Int)}(h:Bz z=L)(f:List Int→Int){i:Nat}(hi:i<z.length):(L.map f).getD i 0=f (Zt (z.getD i T0).2):=by
 subst h
 simp only [List.getD_eq_getElem?_getD,List.getElem?_map,List.getElem?_eq_getElem hi]
 rfl
def chke:Nat→Nat→Nat→Nat→Nat→Bool
 | 0,la,_,A,_=>Nat.ble (A+la*64) 65500
 | f+1,la,lb,A,B=>Nat.ble (A+la*64) 65500 && (Nat.beq lb 0 || (List.range lb).all fun l=>chke f lb l B (bif Nat.ble l 1 then 2 else A+(la-lb+1)*B))
inductive SV:List Int→List Int→Prop
 | one (a:Int):SV [a] [a]
 | step (a:Int) (r t:List Int):SV r t→SV (a :: r) (a :: t)
 | skip (a u w:Int) (r t:List Int):(a=1∨a=-1)→(-1≤u∧u≤1)→(-1≤w∧w≤1)→SV (-a :: r) (-a :: t)→SV (a :: u :: -a :: r) (a :: w :: -a :: t)
theorem Zk2{s:Int×Int}{a u:Int}(ha:a=1∨a=-1)(hu:-1≤u∧u≤1):Ie (Ie (Ie s a) u) (-a)=Ie (Ie s a) (-a):=by
 obtain⟨n,l⟩:=s
 have h3:u=-1∨u=0∨u=1:=by omega
 rcases ha with rfl | rfl<;>rcases h3 with rfl | rfl | rfl<;>simp [Ie]
theorem SV.fold{a b:List Int}(h:SV a b):∀s,a.foldl Ie s=b.foldl Ie s:=by
 induction h with
 | one a=>intro s;rfl
 | step a r t _ ih=>intro s;exact ih (Ie s a)
 | skip a u w r t ha hu hw _ ih=>
  intro s
  show(r.foldl Ie (Ie (Ie (Ie s a) u) (-a)))=(t.foldl Ie (Ie (Ie (Ie s a) w) (-a)))
  rw [Zk2 ha hu,Zk2 ha hw]
  exact ih (Ie s a)
theorem SV.chg{a b:List Int}(h:SV a b):chg a=chg b:=congrArg Prod.fst (h.fold (0,0))
def rsg(x:Rat):Int:=if x<0 then -1 else if x=0 then 0 else 1
theorem rsg_r(x:Rat):-1≤rsg x∧rsg x≤1:=by unfold rsg;split;decide;split<;>decide
theorem Ck{x:Rat}(h:0<x):rsg x=1:=by unfold rsg;rw [if_neg (by grind),if_neg (by grind)]
theorem Cl{x:Rat}(h:x<0):rsg x=-1:=by unfold rsg;rw [if_pos h]
def Big(η x:Rat)(f:Rat→Rat):Prop:=η<f x∨f x < -η
def Tri(η x:Rat):(Rat→Rat)→List (Rat→Rat)→Prop
 | _,[]=>True
 | _,[g]=>Big η x g
 | f,g :: k :: r=>(Big η x g∧Tri η x g (k :: r))∨(Big η x k∧f x*k x<0∧Tri η x k r)
def Near(η x y:Rat)(f:Rat→Rat):Prop:=f x-f y≤η∧f y-f x≤η
theorem Zpn{η x y:Rat}{f:Rat→Rat}(h0:0≤η)(h:Big η x f)(hn:Near η x y f):rsg (f x)=rsg (f y)∧(rsg (f x)=1∨rsg (f x)=-1):=by
 obtain⟨h1,h2⟩:=hn
 rcases h with h | h
 ·rw [Ck (by grind),Ck (by grind)];exact⟨rfl,.inl rfl⟩
 ·rw [Cl (by grind),Cl (by grind)];exact⟨rfl,.inr rfl⟩
theorem opp_sg{a b:Rat}(h:a*b<0):rsg b=- rsg a:=by
 rcases(show a<0∨a=0∨0<a by grind)with h1 | h1 | h1
 ·rw [Cl h1,Ck (by
   rcases(show b≤0∨0<b by grind)with h2 | h2
   ·have:=Rat.mul_nonneg (a:=-a) (b:=-b) (by grind) (by grind);grind
   ·exact h2)];rfl
 ·subst h1;grind
 ·rw [Ck h1,Cl (by
   rcases(show 0≤b∨b<0 by grind)with h2 | h2
   ·have:=Rat.mul_nonneg (a:=a) (b:=b) (by grind) h2;grind
   ·exact h2)]
theorem Znl{η x y:Rat}(h0:0≤η):∀(n:Nat) (f:Rat→Rat) (fs:List (Rat→Rat)),fs.length≤n→Big η x f→(∀g∈f :: fs,Near η x y g)→Tri η x f fs→
  SV ((f :: fs).map fun g=>rsg (g x)) ((f :: fs).map fun g=>rsg (g y))
 | _,f,[],_,hb,hn,_=>by
  have:=(Zpn h0 hb (hn f (List.mem_cons_self ..))).1
  simp only [List.map_cons,List.map_nil,this]
  exact SV.one _
 | 0,f,g :: r,hl,_,_,_=>absurd hl (by simp)
 | n+1,f,[g],hl,hb,hn,ht=>by
  have h1:=(Zpn h0 hb (hn f (List.mem_cons_self ..))).1
  have h2:=Znl h0 n g [] (by simp) ht (fun k hk=>hn k (List.mem_cons_of_mem _ hk)) trivial
  rw [List.map_cons,List.map_cons,h1]
  exact SV.step _ _ _ h2
 | n+1,f,g :: k :: r,hl,hb,hn,ht=>by
  have h1:=Zpn h0 hb (hn f (List.mem_cons_self ..))
  rcases ht with⟨hg,ht⟩ | ⟨hk,ho,ht⟩
  ·have h2:=Znl h0 n g (k :: r) (by simp at hl ⊢;omega) hg (fun k hk=>hn k (List.mem_cons_of_mem _ hk)) ht
   rw [List.map_cons (l:=g :: k :: r),List.map_cons (l:=g :: k :: r),h1.1]
   exact SV.step _ _ _ h2
  ·have h2:=Znl h0 n k r (by simp at hl ⊢;omega) hk (fun j hj=>hn j (List.mem_cons_of_mem _ (List.mem_cons_of_mem _ hj))) ht
   have h3:=(Zpn h0 hk (hn k (by simp))).1
   have h4:=opp_sg ho
   rw [List.map_cons (l:=r),List.map_cons (l:=r)]at h2
   simp only [List.map_cons]
   rw [←h3]at h2 ⊢
   rw [h4]at h2 ⊢
   rw [←h1.1]
   exact SV.skip _ _ _ _ _ h1.2 (rsg_r _) (rsg_r _) h2
structure Lnk (η x:Rat) (f g k:Rat→Rat):Prop where
 big:¬Big η x g→Big η x k
 opp:¬Big η x g→f x*k x<0
def Lnks(η x:Rat):(Rat→Rat)→List (Rat→Rat)→Prop
 | _,[]=>True
 | _,[g]=>Big η x g
 | f,g :: k :: r=>Lnk η x f g k∧Lnks η x g (k :: r)
theorem Zir{η x:Rat} : ∀(n:Nat) (f:Rat→Rat) (fs:List (Rat→Rat)),fs.length≤n→Lnks η x f fs→Tri η x f fs
 | _,f,[],_,_=>trivial
 | 0,f,g :: r,hl,_=>absurd hl (by simp)
 | n+1,f,[g],_,h=>h
 | n+1,f,[g,k],hl,h=>by
  by_cases hg:Big η x g
  ·exact .inl ⟨hg,h.2⟩
  ·exact .inr ⟨h.1.big hg,h.1.opp hg,trivial⟩
 | n+1,f,g :: k :: j :: r,hl,h=>by
  by_cases hg:Big η x g
  ·exact .inl ⟨hg,Zir n g (k :: j :: r) (by simp at hl ⊢;omega) h.2⟩
  ·exact .inr ⟨h.1.big hg,h.1.opp hg,Zir n k (j :: r) (by simp at hl ⊢;omega) h.2.2⟩
def Rl3(s t:Rat)(f g k:Rat→Rat):Prop:=∃m n Q:Rat,0<m∧0<n∧0<Q∧∀x,s≤x→x≤t→∃q,-Q≤q∧q≤Q∧m*f x=q*g x-n*k x
def Rl2(s t:Rat)(f g:Rat→Rat):Prop:=∃m Q:Rat,0<m∧0<Q∧∀x,s≤x→x≤t→∃q,-Q≤q∧q≤Q∧m*f x=q*g x
def Rls(s t:Rat):(Rat→Rat)→List (Rat→Rat)→Prop
 | _,[]=>True
 | f,[g]=>Rl2 s t f g
 | f,g :: k :: r=>Rl3 s t f g k∧Rls s t g (k :: r)
theorem Zdg{q Q g e:Rat}(h1:-Q≤q)(h2:q≤Q)(h3:-e≤g)(h4:g≤e)(hQ:0≤Q):q*g≤Q*e∧-(Q*e)≤q*g:=by
 have a:=Rat.mul_nonneg (a:=Q-q) (b:=e+g) (by grind) (by grind)
 have b:=Rat.mul_nonneg (a:=Q+q) (b:=e-g) (by grind) (by grind)
 have c:=Rat.mul_nonneg (a:=Q-q) (b:=e-g) (by grind) (by grind)
 have d:=Rat.mul_nonneg (a:=Q+q) (b:=e+g) (by grind) (by grind)
 constructor<;>grind
theorem Zcm{η x:Rat}{g:Rat→Rat}(h:¬Big η x g):-η≤g x∧g x≤η:=by
 unfold Big at h;constructor<;>grind
theorem Zvi{η ε x:Rat}{g:Rat→Rat}(h:η≤ε)(hb:Big ε x g):Big η x g:=by
 unfold Big at *;grind
theorem Ip{ε a b:Rat}(h:0<ε)(ha:0<a)(hb:0<b):∃e:Rat,0<e∧e≤ε∧e*a≤b:=by
 have h1:0<b*a⁻¹:=Rat.mul_pos hb (Rat.inv_pos.2 ha)
 have h2:b*a⁻¹*a=b:=by grind
 rcases(show ε≤b*a⁻¹∨b*a⁻¹≤ε by grind)with h3 | h3
 ·exact⟨ε,h,by grind,by have:=Rat.mul_le_mul_of_nonneg_right h3 (show 0≤a by grind);grind⟩
 ·exact⟨b*a⁻¹,h1,h3,by grind⟩
theorem pair3{s t ε:Rat}{f g k:Rat→Rat}(h:Rl3 s t f g k)(he:0<ε)(hp:∀x,s≤x→x≤t→Big ε x f∨Big ε x g) :
  ∃e,0<e∧(∀x,s≤x→x≤t→Big e x g∨Big e x k)∧∀η,0<η→η≤e→∀x,s≤x→x≤t→Lnk η x f g k:=by
 obtain⟨m,n,Q,hm,hn,hQ,hr⟩:=h
 obtain⟨e,e1,e2,e3⟩:=Ip he (show 0<Q+n by grind) (Rat.mul_pos hm he)
 have key:∀η,0<η→η≤e→∀x,s≤x→x≤t→¬Big η x g→Big η x k∧f x*k x<0:=fun η h1 h2 x hs ht hg=>by
  obtain⟨q,q1,q2,q3⟩:=hr x hs ht
  obtain⟨g1,g2⟩:=Zcm hg
  obtain⟨p1,p2⟩:=Zdg q1 q2 g1 g2 (by grind)
  have hf:Big ε x f:=(hp x hs ht).resolve_right fun h=>hg (Zvi (by grind) h)
  have c1:η*(Q+n)≤m*ε:=by
   have:=Rat.mul_le_mul_of_nonneg_right h2 (show 0≤Q+n by grind);grind
  have c2:0<η*n:=Rat.mul_pos h1 hn
  rcases hf with hf | hf
  ·have d1:m*ε<m*f x:=by have:=Rat.mul_pos hm (show 0<f x-ε by grind);grind
   have d2:n*k x < - (n*η):=by grind
   have d3:k x < -η:=by
    rcases(show k x < -η∨-η≤k x by grind)with h9 | h9
    ·exact h9
    ·have:=Rat.mul_nonneg (a:=n) (b:=k x+η) (by grind) (by grind);grind
   refine⟨.inr d3,?_⟩
   have:=Rat.mul_pos (a:=f x) (b:=- k x) (by grind) (by grind);grind
  ·have d1:m*f x < - (m*ε):=by have:=Rat.mul_pos hm (show 0 < -ε-f x by grind);grind
   have d2:n*η<n*k x:=by grind
   have d3:η<k x:=by
    rcases(show η<k x∨k x≤η by grind)with h9 | h9
    ·exact h9
    ·have:=Rat.mul_nonneg (a:=n) (b:=η-k x) (by grind) (by grind);grind
   refine⟨.inl d3,?_⟩
   have:=Rat.mul_pos (a:=- f x) (b:=k x) (by grind) (by grind);grind
 refine⟨e,e1,fun x hs ht=>?_,fun η h1 h2 x hs ht=>⟨fun hg=>(key η h1 h2 x hs ht hg).1,fun hg=>(key η h1 h2 x hs ht hg).2⟩⟩
 by_cases hg:Big e x g
 ·exact .inl hg
 ·exact .inr (key e e1 (by grind) x hs ht hg).1
theorem pair2{s t ε:Rat}{f g:Rat→Rat}(h:Rl2 s t f g)(he:0<ε)(hp:∀x,s≤x→x≤t→Big ε x f∨Big ε x g) :
  ∃e,0<e∧∀η,0<η→η≤e→∀x,s≤x→x≤t→Big η x g:=by
 obtain⟨m,Q,hm,hQ,hr⟩:=h
 obtain⟨e,e1,e2,e3⟩:=Ip he hQ (Rat.mul_pos hm he)
 refine⟨e,e1,fun η h1 h2 x hs ht=>?_⟩
 by_cases hg:Big η x g
 ·exact hg
 ·exfalso
  obtain⟨q,q1,q2,q3⟩:=hr x hs ht
  obtain⟨g1,g2⟩:=Zcm hg
  obtain⟨p1,p2⟩:=Zdg q1 q2 g1 g2 (by grind)
  have hf:Big ε x f:=(hp x hs ht).resolve_right fun h=>hg (Zvi (by grind) h)
  have c1:η*Q≤m*ε:=by
   have:=Rat.mul_le_mul_of_nonneg_right h2 (show 0≤Q by grind);grind
  rcases hf with hf | hf
  ·have:=Rat.mul_pos hm (show 0<f x-ε by grind);grind
  ·have:=Rat.mul_pos hm (show 0 < -ε-f x by grind);grind
theorem Zoo{s t:Rat} : ∀(n:Nat) (f:Rat→Rat) (fs:List (Rat→Rat)) (ε:Rat),fs.length≤n→Rls s t f fs→0<ε→(∀g r,fs=g :: r→∀x,s≤x→x≤t→Big ε x f∨Big ε x g)→
  ∃e,0<e∧∀η,0<η→η≤e→∀x,s≤x→x≤t→Lnks η x f fs
 | _,f,[],ε,_,_,he,_=>⟨ε,he,fun _ _ _ _ _ _=>trivial⟩
 | 0,f,g :: r,ε,hl,_,_,_=>absurd hl (by simp)
 | n+1,f,[g],ε,_,h,he,hp=>pair2 h he (hp g [] rfl)
 | n+1,f,g :: k :: r,ε,hl,h,he,hp=>by
  obtain⟨e,e1,e2,e3⟩:=pair3 h.1 he (hp g (k :: r) rfl)
  obtain⟨e',e1',e2'⟩:=Zoo n g (k :: r) e (by simp at hl ⊢;omega) h.2 e1 (fun k' r' heq=>by
   injection heq with h1 h2;subst h1;exact e2)
  rcases(show e≤e'∨e'≤e by grind)with h9 | h9
  ·exact⟨e,e1,fun η h1 h2 x hs ht=>⟨e3 η h1 h2 x hs ht,e2' η h1 (by grind) x hs ht⟩⟩
  ·exact⟨e',e1',fun η h1 h2 x hs ht=>⟨e3 η h1 (by grind) x hs ht,e2' η h1 h2 x hs ht⟩⟩
def Lip(s t L:Rat)(f:Rat→Rat):Prop:=∀x y,s≤x→x≤y→y≤t→f x-f y≤L*(y-x)∧f y-f x≤L*(y-x)
def vat(fs:List (Rat→Rat))(x:Rat):Int:=chg (fs.map fun g=>rsg (g x))
theorem step_eq{s t L δ:Rat}{f:Rat→Rat}{fs:List (Rat→Rat)}(hL:0<L)(hl:∀g∈f :: fs,Lip s t L g)(hd:0<δ)(hb:∀x,s≤x→x≤t→Big δ x f)(hr:Rls s t f fs) :
  ∃h,0<h∧∀x y,s≤x→x≤y→y≤t→y-x≤h→vat (f :: fs) x=vat (f :: fs) y:=by
 obtain⟨e,e1,e2⟩:=Zoo fs.length f fs δ (Nat.le_refl _) hr hd (fun g r _ x hs ht=> .inl (hb x hs ht))
 obtain⟨η,n1,n2,n3⟩:=Ip hd (show(0:Rat)<1 by decide) e1
 obtain⟨h,h1,h2,h3⟩:=Ip n1 hL n1
 refine⟨h,h1,fun x y hx hxy hy hh=>SV.chg ?_⟩
 refine Znl (by grind) fs.length f fs (Nat.le_refl _) (Zvi (by grind) (hb x hx (by grind))) (fun g hg=>?_) (Zir _ _ _ (Nat.le_refl _) (e2 η n1 (by grind) x hx (by grind)))
 obtain⟨a,b⟩:=hl g hg x y hx hxy hy
 have:=Rat.mul_le_mul_of_nonneg_right hh (show 0≤L by grind)
 exact⟨by grind,by grind⟩
theorem Zq8{s t L δ:Rat}{f:Rat→Rat}{fs:List (Rat→Rat)}(hL:0<L)(hl:∀g∈f :: fs,Lip s t L g)(hd:0<δ)(hb:∀x,s≤x→x≤t→Big δ x f)(hr:Rls s t f fs)(hst:s≤t) :
  vat (f :: fs) s=vat (f :: fs) t:=by
 obtain⟨h,h1,h2⟩:=step_eq hL hl hd hb hr
 have key:∀n:Nat,∀y,s≤y→y≤t→y-s≤(n:Rat)*h→vat (f :: fs) s=vat (f :: fs) y:=fun n=>by
  induction n with
  | zero=>
    intro y h3 h4 h5;have:y=s:=by simp at h5;grind
    rw [this]
  | succ n ih=>
   intro y h3 h4 h5
   have h6:((n+1:Nat):Rat)*h=(n:Rat)*h+h:=by push_cast;grind
   rcases(show y-s≤(n:Rat)*h∨(n:Rat)*h<y-s by grind)with h7 | h7
   ·exact ih y h3 h4 h7
   ·have h8:(0:Rat)≤(n:Rat)*h:=Rat.mul_nonneg (by exact_mod_cast Nat.zero_le n) (by grind)
    rcases(show s≤y-h∨y-h<s by grind)with h9 | h9
    ·rw [ih (y-h) h9 (by grind) (by grind)]
     exact h2 (y-h) y h9 (by grind) h4 (by grind)
    ·exact h2 s y (by grind) h3 h4 (by grind)
 have h3:∃n:Nat,t-s≤(n:Rat)*h:=by
  have h4:0<h⁻¹:=Rat.inv_pos.2 h1
  refine⟨((t-s)*h⁻¹).ceil.toNat,?_⟩
  have h5:=@Rat.le_ceil ((t-s)*h⁻¹)
  have h6:((((t-s)*h⁻¹).ceil:Int):Rat)≤((((t-s)*h⁻¹).ceil.toNat:Nat):Rat):=by
   have:((t-s)*h⁻¹).ceil≤((((t-s)*h⁻¹).ceil.toNat:Nat):Int):=Int.self_le_toNat _
   exact_mod_cast this
  have h7:=Rat.mul_le_mul_of_nonneg_right (Rat.le_trans h5 h6) (show 0≤h by grind)
  have h8:(t-s)*h⁻¹*h=t-s:=by grind
  grind
 obtain⟨n,hn⟩:=h3
 exact key n t hst (by grind) hn
def rev:List Int→Rat→Rat
 | [],_=>0
 | c :: p,x=>(c:Rat)+x*rev p x
theorem ex_K(s t:Rat):∃K:Rat,0<K∧∀x,s≤x→x≤t→-K≤x∧x≤K:=by
 rcases(show(0≤s∨s<0) by grind)with h | h<;>rcases(show(0≤t∨t<0) by grind)with h' | h'
 ·exact⟨t+1,by grind,fun x _ _=>by grind⟩
 ·exact⟨1,by grind,fun x _ _=>by grind⟩
 ·exact⟨t-s+1,by grind,fun x _ _=>by grind⟩
 ·exact⟨-s+1,by grind,fun x _ _=>by grind⟩
theorem Zr8(s t:Rat):∀p:List Int,∃B:Rat,0<B∧∀x,s≤x→x≤t→-B≤rev p x∧rev p x≤B
 | []=>⟨1,by decide,fun x _ _=>by unfold rev;grind⟩
 | c :: p=>by
  obtain⟨B,b1,b2⟩:=Zr8 s t p
  obtain⟨K,k1,k2⟩:=ex_K s t
  obtain⟨C,c1,c2⟩:=ex_K (c:Rat) (c:Rat)
  have hc:=c2 (c:Rat) (by grind) (by grind)
  refine⟨C+K*B,by have:=Rat.mul_pos k1 b1;grind,fun x hs ht=>?_⟩
  obtain⟨d1,d2⟩:=b2 x hs ht
  obtain⟨e1,e2⟩:=k2 x hs ht
  obtain⟨f1,f2⟩:=Zdg e1 e2 d1 d2 (by grind)
  unfold rev
  constructor<;>grind
theorem Dj(s t:Rat):∀p:List Int,∃L:Rat,0<L∧Lip s t L (rev p)
 | []=>⟨1,by decide,fun x y _ _ _=>by unfold rev;constructor<;>grind⟩
 | c :: p=>by
  obtain⟨L,l1,l2⟩:=Dj s t p
  obtain⟨B,b1,b2⟩:=Zr8 s t p
  obtain⟨K,k1,k2⟩:=ex_K s t
  refine⟨K*L+B,by have:=Rat.mul_pos k1 l1;grind,fun x y hs hxy ht=>?_⟩
  obtain⟨a1,a2⟩:=l2 x y hs hxy ht
  obtain⟨d1,d2⟩:=b2 y (by grind) ht
  obtain⟨e1,e2⟩:=k2 x hs (by grind)
  obtain⟨f1,f2⟩:=Zdg (q:=x) (g:=rev p x-rev p y) (e:=L*(y-x)) e1 e2 (by grind) (by grind) (by grind)
  have g1:=Rat.mul_nonneg (a:=B-rev p y) (b:=y-x) (by grind) (by grind)
  have g2:=Rat.mul_nonneg (a:=B+rev p y) (b:=y-x) (by grind) (by grind)
  unfold rev
  constructor<;>grind
theorem Zh8(x:Rat):∀q:List Int,(∀i,cf q i=0)→rev q x=0
 | [],_=>rfl
 | c :: q,h=>by
  have h0:c=0:=h 0
  have h1:=Zh8 x q fun i=>h (i+1)
  unfold rev;rw [h1,h0];grind
theorem Mv(x:Rat):∀p q:List Int,(∀i,cf p i=cf q i)→rev p x=rev q x
 | [],q,h=>by rw [Zh8 x q fun i=>(h i).symm.trans (Qh (Nat.zero_le _))];rfl
 | c :: p,[],h=>by rw [Zh8 x (c :: p) fun i=>(h i).trans (Qh (Nat.zero_le _))];rfl
 | c :: p,d :: q,h=>by
  have h0:c=d:=h 0
  have h1:=Mv x p q fun i=>h (i+1)
  unfold rev;rw [h1,h0]
def Gk:List Int→List Int→List Int
 | [],q=>q
 | p,[]=>p
 | a :: p,b :: q=>(a+b) :: Gk p q
theorem Zos(p:List Int):Gk p []=p:=by cases p<;>rfl
theorem Qg(x:Rat):∀p q:List Int,rev (Gk p q) x=rev p x+rev q x
 | [],q=>by unfold Gk;show rev q x=0+rev q x;grind
 | a :: p,[]=>by rw [Zos];show rev (a :: p) x=rev (a :: p) x+0;grind
 | a :: p,b :: q=>by
  have h:=Qg x p q
  unfold Gk rev;rw [h];push_cast;grind
theorem Kl:∀(p q:List Int) (i:Nat),cf (Gk p q) i=cf p i+cf q i
 | [],q,i=>by unfold Gk;rw [show cf [] i=0 from Qh (Nat.zero_le _)];omega
 | a :: p,[],i=>by rw [Zos,show cf [] i=0 from Qh (Nat.zero_le _)];omega
 | a :: p,b :: q,0=>rfl
 | a :: p,b :: q,i+1=>Kl p q i
theorem Yg(x:Rat)(c:Int):∀p:List Int,rev (p.map fun a=>c*a) x=(c:Rat)*rev p x
 | []=>by show(0:Rat)=c*0;grind
 | a :: p=>by
  have h:=Yg x c p
  simp only [List.map_cons];unfold rev;rw [h];push_cast;grind
theorem Pn(c:Int):∀(p:List Int) (i:Nat),cf (p.map fun a=>c*a) i=c*cf p i
 | [],i=>by simp [cf]
 | a :: p,0=>rfl
 | a :: p,i+1=>Pn c p i
def Mr:List Int→List Int→List Int
 | [],_=>[]
 | c :: p,q=>Gk (q.map fun a=>c*a) (0 :: Mr p q)
theorem Yw(x:Rat):∀p q:List Int,rev (Mr p q) x=rev p x*rev q x
 | [],q=>by show(0:Rat)=0*rev q x;grind
 | c :: p,q=>by
  have h:=Yw x p q
  unfold Mr;rw [Qg,Yg]
  show(c:Rat)*rev q x+(((0:Int):Rat)+x*rev (Mr p q) x)=((c:Rat)+x*rev p x)*rev q x
  rw [h];grind
theorem Gt:∀(p q:List Int) (i:Nat),cf (Mr p q) i=Qr (fun k=>cf p k*cf q (i-k)) (i+1)
 | [],q,i=>by
  rw [show cf (Mr [] q) i=0 from Qh (Nat.zero_le _)]
  exact(Fo fun k _=>by rw [show cf [] k=0 from Qh (Nat.zero_le _),Int.zero_mul]).symm
 | c :: p,q,0=>by
  unfold Mr;rw [Kl,Pn,Xx,Gg]
  show c*cf q 0+0=0+c*cf q 0
  omega
 | c :: p,q,i+1=>by
  have h:=Gt p q i
  unfold Mr;rw [Kl,Pn,Iz]
  show c*cf q (i+1)+cf (Mr p q) i=c*cf q (i+1)+_
  rw [h]
  congr 1
  refine Xi fun k hk=>?_
  show cf p k*cf q (i-k)=cf p k*cf q (i+1-(k+1))
  rw [show i+1-(k+1)=i-k by omega]
theorem Fr{a c:Int}{x s y z:List Int}(h:∀t,a*cf x t=(ps s*ps y).c t-c*cf z t)(q:Rat):(a:Rat)*rev x q=rev s q*rev y q-(c:Rat)*rev z q:=by
 have h1:∀t,cf (Gk (x.map fun b=>a*b) (z.map fun b=>c*b)) t=cf (Mr s y) t:=fun t=>by
  rw [Kl,Pn,Pn,Gt,h t,PS.mul_c]
  show Qr (fun k=>cf s k*cf y (t-k)) (t+1)-c*cf z t+c*cf z t=_
  omega
 have h2:=Mv q _ _ h1
 rw [Qg,Yg,Yg,Yw]at h2
 grind
theorem Zr6{s t:Rat}{x y:List Int}(hx:Tr x)(hy:Tr y)(h0:y≠[])(hl:y.length≤x.length):Rl3 s t (rev x) (rev y) (rev (Ln x y)):=by
 have l0:=List.length_pos_iff.2 h0
 obtain⟨r1,r2,k,u,hk⟩:=Aq hy h0 x.length x hx (by omega)
 have hs:=Zat (f:=x.length) hx hy h0 hl (by omega)
 have htn:Tr (Zl3 (Bw x.length x y)):=Qz _ _
 obtain⟨m,n,hm,hn,hp⟩:=Zci htn
 rw [hs]at hp
 have hK:0<Ar y^k:=Int.pow_pos (Zdu hy h0)
 obtain⟨B,b1,b2⟩:=Zr8 s t u
 have hm':(0:Rat)<(m:Rat):=by exact_mod_cast hm
 have hn':(0:Rat)<(n:Rat):=by exact_mod_cast hn
 have hK':(0:Rat)<((Ar y^k:Int):Rat):=by exact_mod_cast hK
 refine⟨(n:Rat)*((Ar y^k:Int):Rat),(m:Rat),(n:Rat)*B,Rat.mul_pos hn' hK',hm',Rat.mul_pos hn' b1,fun q hq1 hq2=>⟨(n:Rat)*rev u q,?_,?_,?_⟩⟩
 ·have:=Rat.mul_nonneg (a:=(n:Rat)) (b:=rev u q+B) (by grind) (by have:=b2 q hq1 hq2;grind);grind
 ·have:=Rat.mul_nonneg (a:=(n:Rat)) (b:=B-rev u q) (by grind) (by have:=b2 q hq1 hq2;grind);grind
 ·have e1:=Fr (a:=Ar y^k) (c:=-1) (x:=x) (s:=u) (y:=y) (z:=Bw x.length x y) (fun t=>by rw [hk t];omega) q
  have e2:rev ((Ln x y).map fun b=>m*b) q=rev ((Bw x.length x y).map fun b=>(-n)*b) q:=Mv q _ _ fun i=>by
   rw [Pn,Pn,hp i,Fv,Int.mul_neg,Int.neg_mul]
  rw [Yg,Yg]at e2
  push_cast at e1 e2 ⊢
  grind
theorem rl2_of{s t:Rat}{f g:Rat→Rat}(h:Rl3 s t f g (rev [])):Rl2 s t f g:=by
 obtain⟨m,n,Q,hm,hn,hQ,hr⟩:=h
 refine⟨m,Q,hm,hQ,fun x h1 h2=>?_⟩
 obtain⟨q,q1,q2,q3⟩:=hr x h1 h2
 refine⟨q,q1,q2,?_⟩
 have:rev [] x=0:=rfl
 rw [this]at q3;grind
theorem Zj0{s t:Rat} : ∀(f:Nat) (a b:List Int),Tr a→Tr b→cok f a b→∃r,Mn f a b=a :: r∧Rls s t (rev a) (r.map rev)∧(b=[]→r=[])∧(b≠[]→∃r',r=b :: r'):=fun f=>by
 induction f with
 | zero=>
  intro a b ha hb h
  have h0:b=[]:=h
  subst h0
  exact⟨[],rfl,trivial,fun _=>rfl,fun h=>absurd rfl h⟩
 | succ f ih=>
  intro a b ha hb h
  by_cases h0:b=[]
  ·subst h0
   exact⟨[],Gj _ _,trivial,fun _=>rfl,fun h=>absurd rfl h⟩
  ·obtain⟨g,hg,hd,hle,hc,hs⟩:=Zd6 h h0
   obtain rfl:f=g:=by omega
   obtain⟨r,h1,h2,h3,h4⟩:=ih b (Ln a b) hb (Zap ha) hc
   have hR:=Zr6 (s:=s) (t:=t) ha hb h0 hle
   refine⟨b :: r,by rw [hs,h1],?_,fun h=>absurd h h0,fun _=>⟨r,rfl⟩⟩
   by_cases hz:Ln a b=[]
   ·rw [h3 hz]
    rw [hz]at hR
    exact rl2_of hR
   ·obtain⟨r',rfl⟩:=h4 hz
    exact⟨hR,h2⟩
theorem Zop{s t L M:Rat}{f:Rat→Rat}(h:L≤M)(hf:Lip s t L f):Lip s t M f:=fun x y h1 h2 h3=>by
 obtain⟨a,b⟩:=hf x y h1 h2 h3
 have:=Rat.mul_le_mul_of_nonneg_right h (show 0≤y-x by grind)
 constructor<;>grind
theorem Zth(s t:Rat):∀ls:List (List Int),∃L:Rat,0<L∧∀g∈ls.map rev,Lip s t L g
 | []=>⟨1,by decide,fun g hg=>by cases hg⟩
 | p :: ls=>by
  obtain⟨L,l1,l2⟩:=Zth s t ls
  obtain⟨M,m1,m2⟩:=Dj s t p
  refine⟨L+M,by grind,fun g hg=>?_⟩
  rw [List.map_cons]at hg
  rcases List.mem_cons.1 hg with rfl | hg
  ·exact Zop (by grind) m2
  ·exact Zop (by grind) (l2 g hg)
theorem Zc4{s t δ:Rat}{f:Nat}{a b:List Int}(ha:Tr a)(hb:Tr b)(hc:cok f a b)(hst:s≤t)(hd:0<δ)(hB:∀x,s≤x→x≤t→Big δ x (rev a)) :
  vat ((Mn f a b).map rev) s=vat ((Mn f a b).map rev) t:=by
 obtain⟨r,h1,h2,_,_⟩:=Zj0 (s:=s) (t:=t) f a b ha hb hc
 obtain⟨L,l1,l2⟩:=Zth s t (Mn f a b)
 rw [h1]at l2 ⊢
 exact Zq8 l1 l2 hd hB h2 hst
def alt:List Int→List Int
 | []=>[]
 | c :: p=>c :: (alt p).map fun a=>-1*a
theorem Zxi(c:Int)(p:List Int)(X Y:Int)(h:p≠[]):pev (c :: p) X Y=c*Y^p.length+X*pev p X Y:=by
 have hl:=List.length_pos_iff.2 h
 unfold pev
 rw [List.length_cons,Iz,←Ng]
 congr 1
 ·show c*(X^0*Y^(p.length+1-1-0))=_
  rw [Int.pow_zero,Int.one_mul,show p.length+1-1-0=p.length by omega]
 ·refine Xi fun i hi=>?_
  show cf p i*(X^(i+1)*Y^(p.length+1-1-(i+1)))=X*(cf p i*(X^i*Y^(p.length-1-i)))
  rw [show p.length+1-1-(i+1)=p.length-1-i by omega,Int.pow_succ]
  grind
theorem Zsr{X Y:Int}(hY:0<Y):∀p:List Int,((pev p X Y:Int):Rat)=rev p ((X:Rat)/(Y:Rat))*(Y:Rat)^(p.length-1)
 | []=>by show(0:Rat)=0*_;grind
 | [c]=>by
  have:pev [c] X Y=c:=by unfold pev;show 0+c*(X^0*Y^0)=c;rw [Int.pow_zero,Int.pow_zero];omega
  rw [this];show(c:Rat)=(c+X/Y*0)*(Y:Rat)^0;rw [Rat.pow_zero];grind
 | c :: d :: p=>by
  have h:=Zsr (X:=X) hY (d :: p)
  rw [Zxi c (d :: p) X Y (by simp)]
  have hy:(Y:Rat)≠0:=by
    have:(0:Rat)<(Y:Rat):=by exact_mod_cast hY
    grind
  push_cast
  rw [h]
  show(c:Rat)*(Y:Rat)^(p.length+1)+X*(rev (d :: p) (X/Y)*(Y:Rat)^(p.length+1-1))=((c:Rat)+X/Y*rev (d :: p) (X/Y))*(Y:Rat)^(p.length+1+1-1)
  rw [show p.length+1-1=p.length by omega,show p.length+1+1-1=p.length+1 by omega,Rat.pow_succ]
  generalize rev (d :: p) (X/Y)=R
  generalize (Y:Rat)^p.length=P
  have:(X:Rat)/Y*Y=X:=by grind
  grind
theorem Zwj{z:Int}{r q:Rat}(hq:0<q)(h:(z:Rat)=r*q):z.sign=rsg r:=by
 rcases(show r<0∨r=0∨0<r by grind)with h1 | h1 | h1
 ·rw [Cl h1]
  have:=Rat.mul_pos (a:=-r) (b:=q) (by grind) hq
  have h2:(z:Rat)<0:=by grind
  have h3:z<0:=by exact_mod_cast h2
  exact Int.sign_eq_neg_one_of_neg h3
 ·subst h1
  have h2:(z:Rat)=0:=by grind
  have h3:z=0:=by exact_mod_cast h2
  subst h3;rfl
 ·rw [Ck h1]
  have:=Rat.mul_pos h1 hq
  have h2:(0:Rat)<z:=by grind
  have h3:0<z:=by exact_mod_cast h2
  exact Int.sign_eq_one_of_pos h3
theorem Zcq{X Y:Int}(hY:0<Y)(p:List Int):fat X Y p=rsg (rev p ((X:Rat)/(Y:Rat))):=by
 have:(0:Rat)<(Y:Rat):=by exact_mod_cast hY
 exact Zwj (Rat.pow_pos this) (Zsr hY p)
theorem rev_sqf{xs:List Int}{F:Nat}(hx:Tr xs)(h0:xs≠[])(hok:eok F (gA (nrm xs) (Pk (nrm xs))) (gB (nrm xs) (Pk (nrm xs)))):∃g:List Int,∀x,rev xs x=rev (sqf F xs) x*rev g x:=by
 obtain⟨f1,f2,f3,f4,f5,f6⟩:=Nh (F:=F) hx h0 hok
 have hk:∃k:Int,∀i,cf xs i=k*cf (nrm xs) i:=by
  unfold nrm Kp
  split
  ·refine⟨-Qf xs,fun i=>?_⟩
   rw [Xt,←Hq xs i];grind
  ·refine⟨Qf xs,fun i=>?_⟩
   rw [←Hq xs i];grind
 obtain⟨k,hk⟩:=hk
 refine⟨(Ib F (nrm xs) (Pk (nrm xs))).map fun a=>k*a,fun x=>?_⟩
 have h1:rev (nrm xs) x=rev (sqf F xs) x*rev (Ib F (nrm xs) (Pk (nrm xs))) x:=by
  have:=Fr (a:=1) (c:=0) (x:=nrm xs) (s:=sqf F xs) (y:=Ib F (nrm xs) (Pk (nrm xs))) (z:=[]) (fun t=>by
   have h2:=Hj (sqf F xs) (Ib F (nrm xs) (Pk (nrm xs))) t
   rw [←f4]at h2
   rw [h2];omega) x
  push_cast at this
  grind
 have h2:rev xs x=rev ((nrm xs).map fun a=>k*a) x:=Mv x _ _ fun i=>by rw [Pn];exact hk i
 rw [h2,Yg,Yg,h1];grind
theorem vat_map{ls:List (List Int)}{x:Rat}{f:List Int→Int}(h:∀p∈ls,rsg (rev p x)=f p):vat (ls.map rev) x=chg (ls.map f):=by
 unfold vat
 rw [List.map_map]
 exact congrArg chg (List.map_congr_left fun p hp=>h p hp)
theorem cnt_vat{F:Nat}{xs:List Int}{X Y:Int}(hY:0<Y):cnt F xs X Y=vat ((chn F xs).map rev) ((X:Rat)/(Y:Rat)):=
 (vat_map fun p _=>(Zcq hY p).symm).symm
theorem Zt4(t:Int):∀p:List Int,rev p (t:Rat)=((ev1 p t:Int):Rat)
 | []=>rfl
 | c :: p=>by
  have h:=Zt4 t p
  rw [show rev (c :: p) (t:Rat)=(c:Rat)+(t:Rat)*rev p (t:Rat)from rfl,show ev1 (c :: p) t=c+t*ev1 p t from rfl,h];push_cast;rfl
theorem Zr7{p:List Int}(h:∀x:Rat,rev p x=0)(i:Nat):cf p i=0:=by
 by_cases h0:cf p i=0
 ·exact h0
 ·exfalso
  have:=Zh7 p.length p ((List.range p.length).map fun n:Nat=>(n:Int)) rfl ⟨i,h0⟩ (by
   refine List.Pairwise.map _ (fun a b hab=>?_) List.nodup_range
   intro e;exact hab (by exact_mod_cast e)) (fun t ht=>by
   have h1:=Zt4 t p
   rw [h]at h1
   exact_mod_cast h1.symm)
  simp at this
theorem Mj{p q:List Int}(h:∀x:Rat,rev p x=rev q x)(i:Nat):cf p i=cf q i:=by
 have h1:=Zr7 (p:=Gk p (q.map fun a=>(-1)*a)) (fun x=>by rw [Qg,Yg,h x];push_cast;grind) i
 rw [Kl,Pn]at h1;omega
theorem Lj(p:List Int)(x:Rat):rev (tzl p) x=rev p x:=Mv x _ _ fun i=>Ka p i
theorem Xd(p q:List Int)(x:Rat):rev (Mg p q) x=rev p x*rev q x:=by
 rw [←Yw];exact Mv x _ _ fun i=>by rw [Hj,Gt,PS.mul_c];rfl
theorem Oq(c:Int)(x:Rat):rev [c] x=(c:Rat):=by show(c:Rat)+x*0=c;grind
def ld:List Int→List Int
 | []=>[]
 | _ :: p=>Gk p (0 :: ld p)
theorem Ze0(c:Int)(p:List Int)(x:Rat):rev (ld (c :: p)) x=rev p x+x*rev (ld p) x:=by
 rw [show ld (c :: p)=Gk p (0 :: ld p)from rfl,Qg];show rev p x+(((0:Int):Rat)+x*rev (ld p) x)=_;push_cast;grind
theorem Zi4:∀(p:List Int) (i:Nat),cf (ld p) i=cf p (i+1)*((i:Int)+1)
 | [],i=>by rw [Zbv,show ld []=[]from rfl,Zbv,Int.zero_mul]
 | c :: p,0=>by
  rw [show ld (c :: p)=Gk p (0 :: ld p)from rfl,Kl];show cf p 0+0=cf p 0*_;simp
 | c :: p,i+1=>by
  have h:=Zi4 p i
  rw [show ld (c :: p)=Gk p (0 :: ld p)from rfl,Kl];show cf p (i+1)+cf (ld p) i=cf p (i+1)*_
  rw [h];push_cast;grind
theorem Kk(p:List Int)(x:Rat):rev (Pk p) x=rev (ld p) x:=Mv x _ _ fun i=>by rw [Zd8,Zi4]
theorem Fc{p q:List Int}(h:∀x,rev p x=rev q x)(x:Rat):rev (ld p) x=rev (ld q) x:=Mv x _ _ fun i=>by rw [Zi4,Zi4,Mj h]
theorem rd_ladd(p q:List Int)(x:Rat):rev (ld (Gk p q)) x=rev (ld p) x+rev (ld q) x:=by
 rw [←Qg];exact Mv x _ _ fun i=>by rw [Zi4,Kl,Kl,Zi4,Zi4];grind
theorem Cm(c:Int)(p:List Int)(x:Rat):rev (ld (p.map fun a=>c*a)) x=(c:Rat)*rev (ld p) x:=by
 rw [←Yg];exact Mv x _ _ fun i=>by rw [Zi4,Pn,Pn,Zi4];grind
theorem Dk(x:Rat):∀p q:List Int,rev (ld (Mr p q)) x=rev (ld p) x*rev q x+rev p x*rev (ld q) x
 | [],q=>by show(0:Rat)=0*rev q x+0*rev (ld q) x;grind
 | c :: p,q=>by
  have h:=Dk x p q
  rw [show Mr (c :: p) q=Gk (q.map fun a=>c*a) (0 :: Mr p q)from rfl,rd_ladd,Cm,Ze0,Ze0,h,Yw,show rev (c :: p) x=(c:Rat)+x*rev p x from rfl]
  grind
def Ed(g a:List Int):Prop:=∃(k:Int) (s:List Int),k≠0∧∀x:Rat,(k:Rat)*rev a x=rev s x*rev g x
theorem Ed.refl(a:List Int):Ed a a:=⟨1,[1],by decide,fun x=>by rw [Oq]⟩
theorem Ed.nil(g:List Int):Ed g []:=⟨1,[],by decide,fun x=>by show(((1:Int)):Rat)*0=0*rev g x;grind⟩
theorem Ed.trans{a b c:List Int} : Ed a b→Ed b c→Ed a c:=fun⟨k,s,hk,h⟩ ⟨m,u,hm,e⟩=>
 ⟨k*m,Mr u s,Int.mul_ne_zero hk hm,fun x=>by
  have h1:=h x
  have h2:=e x
  rw [Yw];push_cast
  have:(k:Rat)*m*rev c x=k*(m*rev c x):=by grind
  rw [this,h2];grind⟩
theorem Ed.congr{g a b:List Int}(h:Ed g a)(e:∀x,rev a x=rev b x):Ed g b:=by
 obtain⟨k,s,hk,h⟩:=h
 exact⟨k,s,hk,fun x=>by rw [←e x];exact h x⟩
theorem Ed.congr_l{g g' a:List Int}(h:Ed g a)(e:∀x,rev g x=rev g' x):Ed g' a:=by
 obtain⟨k,s,hk,h⟩:=h
 exact⟨k,s,hk,fun x=>by rw [←e x];exact h x⟩
theorem Ed.sim{g a b:List Int}(h:Ed g a)(e:Sim a b):Ed g b:=by
 obtain⟨k,s,hk,h⟩:=h
 obtain⟨m,n,hm,hn,e⟩:=e
 refine⟨k*n,s.map fun c=>m*c,Int.mul_ne_zero hk hn,fun x=>?_⟩
 have h1:rev (a.map fun c=>m*c) x=rev (b.map fun c=>n*c) x:=Mv x _ _ fun i=>by rw [Pn,Pn,e]
 rw [Yg,Yg]at h1
 rw [Yg]
 have:=h x
 push_cast
 have e2:(k:Rat)*n*rev b x=k*(n*rev b x):=by grind
 rw [e2,←h1];grind
theorem Ed.lin{g a b c:List Int}(ha:Ed g a)(hb:Ed g b)(s:List Int)(L:Int)(hL:L≠0)(h:∀x,(L:Rat)*rev c x=rev s x*rev a x+rev b x):Ed g c:=by
 obtain⟨k,u,hk,h1⟩:=ha
 obtain⟨m,v,hm,h2⟩:=hb
 refine⟨L*(k*m),Gk ((Mr s u).map fun c=>m*c) (v.map fun c=>k*c),Int.mul_ne_zero hL (Int.mul_ne_zero hk hm),fun x=>?_⟩
 have h1:=h1 x
 have h2:=h2 x
 have h:=h x
 rw [Qg,Yg,Yg,Yw]
 push_cast
 have e:(L:Rat)*(k*m)*rev c x=k*m*(L*rev c x):=by grind
 rw [e,h]
 have e2:(k:Rat)*m*(rev s x*rev a x+rev b x)=m*rev s x*(k*rev a x)+k*(m*rev b x):=by grind
 rw [e2,h1,h2];grind
theorem Zud{g a s:List Int}{k:Int}(hk:k≠0)(hg:Tr g)(ha:Tr a)(h0:a≠[])(h:∀x:Rat,(k:Rat)*rev a x=rev s x*rev g x):g≠[]∧tzl s≠[]∧(tzl s).length+g.length≤a.length+1:=by
 have hc:∀i,k*cf a i=(ps (tzl s)*ps g).c i:=fun i=>by
  have h1:=Mj (p:=a.map fun c=>k*c) (q:=Mr (tzl s) g) (fun x=>by rw [Yg,Yw,Lj];exact h x) i
  rw [Pn,Gt]at h1
  rw [h1,PS.mul_c];rfl
 have hz:∀i,k*cf a i=0→cf a i=0:=fun i hi=>(Int.mul_eq_zero.1 hi).resolve_left hk
 have hla:=ha.mem h0
 have h1:tzl s≠[]:=fun e=>hla (hz _ (by rw [hc,e,My (fun t=>Qh (Nat.zero_le _))]))
 have h2:g≠[]:=fun e=>hla (hz _ (by rw [hc,e,PS.mul_comm',My (fun t=>Qh (Nat.zero_le _))]))
 refine⟨h2,h1,?_⟩
 have l1:=List.length_pos_iff.2 h1
 have l2:=List.length_pos_iff.2 h2
 have ht:=Dy (p:=tzl s) (q:=g) (a:=(tzl s).length-1) (b:=g.length-1) (fun i hi=>Qh (by omega)) (fun i hi=>Qh (by omega))
 rw [←hc]at ht
 have hne:=Int.mul_ne_zero ((Oz s).mem h1) (hg.mem h2)
 rcases Nat.lt_or_ge ((tzl s).length-1+(g.length-1)) a.length with h9 | h9
 ·omega
 ·rw [Qh h9,Int.mul_zero]at ht;exact absurd ht.symm hne
theorem Ed.len{g a:List Int}(h:Ed g a)(hg:Tr g)(ha:Tr a)(h0:a≠[]):g≠[]∧g.length≤a.length:=by
 obtain⟨k,s,hk,h⟩:=h
 obtain⟨a1,a2,a3⟩:=Zud hk hg ha h0 h
 have:=List.length_pos_iff.2 a2
 exact⟨a1,by omega⟩
theorem Ed.same{g a:List Int}(h:Ed g a)(hg:Tr g)(ha:Tr a)(h0:a≠[])(hl:g.length=a.length):Ed a g:=by
 obtain⟨k,s,hk,h⟩:=h
 obtain⟨a1,a2,a3⟩:=Zud hk hg ha h0 h
 have hl1:=List.length_pos_iff.2 a2
 match hs:tzl s,hl1,a3 with
 | [c],_,_=>
  have hc:c≠0:=by have:=(Oz s).mem a2;rw [hs]at this;exact this
  refine⟨c,[k],hc,fun x=>?_⟩
  have h1:=h x
  rw [←Lj s,hs,Oq]at h1
  rw [Oq];exact h1.symm
 | c :: d :: r,_,h9=>simp at h9;omega
theorem Zlb:∀(n:Nat) (a b:List Int),Tr a→Tr b→b.length≤n→∃g A B:List Int,Tr g∧Ed g a∧Ed g b∧∀x,rev g x=rev A x*rev a x+rev B x*rev b x
 | n,a,[],ha,hb,_=>⟨a,[1],[],ha,Ed.refl a,Ed.nil a,fun x=>by rw [Oq];show _=_+0*(0:Rat);push_cast;grind⟩
 | 0,a,c :: r,_,_,hl=>absurd hl (by simp)
 | n+1,a,c :: b',ha,hb,hl=>by
  have h0:(c :: b')≠[]:=by simp
  generalize c :: b'=b at *
  obtain⟨k,s,hs⟩:=Fe a h0
  have hL:=Np (hb.mem h0) k
  generalize cf b (b.length-1)^k=L at hs hL
  have hlt:=Pa a h0
  obtain⟨g,A,B,g1,g2,g3,g4⟩:=Zlb n b (Ps a b) hb (Ly ha) (by omega)
  have he:∀x,(L:Rat)*rev a x=rev s x*rev b x+rev (Ps a b) x:=fun x=>by
   have:=Fr (a:=L) (c:=-1) (x:=a) (s:=s) (y:=b) (z:=Ps a b) (fun t=>by rw [hs t];omega) x
   push_cast at this;grind
  refine⟨g,B.map fun c=>L*c,Gk A ((Mr B s).map fun c=>(-1)*c),g1,g2.lin g3 s L hL he,g2,fun x=>?_⟩
  rw [Yg,Qg,Yg,Yw,g4 x]
  have:=he x
  have e:rev (Ps a b) x=L*rev a x-rev s x*rev b x:=by grind
  rw [e];push_cast;grind
def Irr(q:List Int):Prop:=Tr q∧2≤q.length∧∀d,Tr d→Ed d q→d.length≤1∨d.length=q.length
theorem Zba{q:List Int}(h:2≤q.length):q≠[]:=fun e=>by rw [e]at h;simp at h
theorem irr_ex:∀(n:Nat) (q:List Int),q.length≤n→Tr q→2≤q.length→∃p,Irr p∧Ed p q
 | 0,q,hl,_,h2=>by omega
 | n+1,q,hl,ht,h2=>by
  by_cases h:Irr q
  ·exact⟨q,h,Ed.refl q⟩
  ·have:∃d,Tr d∧Ed d q∧¬(d.length≤1∨d.length=q.length):=by
    refine Classical.byContradiction fun h9=>h ⟨ht,h2,fun d hd he=>Classical.byContradiction fun h8=>h9 ⟨d,hd,he,h8⟩⟩
   obtain⟨d,hd,he,hn⟩:=this
   have hle:=(he.len hd ht (Zba h2)).2
   obtain⟨p,hp,hp2⟩:=irr_ex n d (by omega) hd (by omega)
   exact⟨p,hp,hp2.trans he⟩
theorem Cr{q f h m:List Int}{k:Int}(hq:Irr q)(hk:k≠0)(e:∀x:Rat,(k:Rat)*(rev f x*rev h x)=rev m x*rev q x):Ed q f∨Ed q h:=by
 obtain⟨hq1,hq2,hq3⟩:=hq
 obtain⟨g,A,B,g1,g2,g3,g4⟩:=Zlb _ q (tzl f) hq1 (Oz f) (Nat.le_refl _)
 have hg:=(g2.len g1 hq1 (Zba hq2)).1
 rcases hq3 g g1 g2 with h1 | h1
 ·right
  match g,hg,h1,g1,g4 with
  | [c],_,_,g1,g4=>
   have hc:c≠0:=g1.mem (by simp)
   refine⟨c*k,Gk ((Mr A h).map fun c=>k*c) (Mr B m),Int.mul_ne_zero hc hk,fun x=>?_⟩
   have h4:=g4 x
   have h5:=e x
   rw [Oq,Lj]at h4
   rw [Qg,Yg,Yw,Yw]
   push_cast
   rw [h4]
   have:(rev A x*rev q x+rev B x*rev f x)*k*rev h x=k*rev A x*rev q x*rev h x+rev B x*(k*(rev f x*rev h x)):=by grind
   rw [this,h5];grind
  | c :: d :: r,_,h9,_,_=>simp at h9
 ·left
  have h2:=g2.same g1 hq1 (Zba hq2) h1
  exact(h2.trans g3).congr fun x=>Lj f x
def Au(q:List Int):Nat→List Int
 | 0=>[1]
 | n+1=>Mg q (Au q n)
theorem Bk{q:List Int}(hq:Tr q)(h2:2≤q.length):∀n,Tr (Au q n)∧n+1≤(Au q n).length
 | 0=>⟨.inr (show cf [1] 0≠0 by decide),Nat.le_refl _⟩
 | n+1=>by
  obtain⟨h1,h3⟩:=Bk hq h2 n
  refine⟨Pr _ _,?_⟩
  show n+1+1≤(Mg q (Au q n)).length
  rw [Ok hq h1 (Zba h2) (fun e=>by rw [e]at h3;simp at h3)]
  omega
theorem Gc(q:List Int)(n:Nat)(x:Rat):rev (Au q (n+1)) x=rev q x*rev (Au q n) x:=Xd _ _ _
theorem Zlw(q:List Int):∀(n:Nat) (x:Rat),rev (ld (Au q (n+1))) x=((n:Rat)+1)*(rev (Au q n) x*rev (ld q) x)
 | n,x=>by
  have h1:rev (ld (Au q (n+1))) x=rev (ld (Mr q (Au q n))) x:=Fc (fun y=>by rw [Gc,Yw]) x
  rw [h1,Dk]
  match n with
  | 0=>
   rw [show rev (ld (Au q 0)) x=0 from by rw [show Au q 0=[1]from rfl,Ze0];show(0:Rat)+x*0=0;grind]
   simp;grind
  | n+1=>
   rw [Zlw q n x,Gc];push_cast;grind
theorem Zwg{p s g q u:List Int}{c:Int}{k:Nat}(hps:∀x:Rat,rev p x=rev s x*rev g x)(hgr:∀d,Tr d→Ed d p→Ed d (ld p)→Ed d g)(hq:Irr q)(h1:Ed q s)(h2:Ed q (ld s))(hk:Ed (Au q k) g):Ed (Au q (k+1)) g:=by
 obtain⟨hq1,hq2,hq3⟩:=hq
 obtain⟨c1,s1,k1,e1⟩:=h1
 obtain⟨c2,s2,k2,e2⟩:=h2
 have d1:∀x:Rat,(c1:Rat)*rev (ld s) x=rev (ld s1) x*rev q x+rev s1 x*rev (ld q) x:=fun x=>by
  have:=Fc (p:=s.map fun a=>c1*a) (q:=Mr s1 q) (fun y=>by rw [Yg,Yw];exact e1 y) x
  rwa [Cm,Dk]at this
 have h3:Ed q s1:=by
  rcases Cr (f:=s1) (h:=ld q) (m:=Gk (s2.map fun a=>c1*a) ((ld s1).map fun a=>(-c2)*a)) ⟨hq1,hq2,hq3⟩ k2 (fun x=>by
   have a1:=d1 x
   have a2:=e2 x
   rw [Qg,Yg,Yg];push_cast
   have:(c2:Rat)*(rev s1 x*rev (ld q) x)=c1*(c2*rev (ld s) x)-c2*(rev (ld s1) x*rev q x):=by grind
   rw [this,a2];grind)with h9 | h9
  ·exact h9
  ·exfalso
   have h8:Ed q (Pk q):=h9.congr fun x=>(Kk q x).symm
   have hl:=Om q
   have:=(h8.len hq1 (Nz hq1) (fun e=>by rw [e]at hl;simp at hl;omega)).2
   omega
 obtain⟨c3,s3,k3,e3⟩:=h3
 obtain⟨c,u,kc,eu⟩:=hk
 have hP:∀x:Rat,((c1*c3*c:Int):Rat)*rev p x=rev (Mr s3 u) x*rev (Au q (k+1+1)) x:=fun x=>by
  rw [hps x,Yw,Gc,Gc];push_cast
  have a1:=e1 x
  have a3:=e3 x
  have a4:=eu x
  have:(c1:Rat)*c3*c*(rev s x*rev g x)=c3*(c1*rev s x)*(c*rev g x):=by grind
  rw [this,a1,a4]
  have:(c3:Rat)*(rev s1 x*rev q x)*(rev u x*rev (Au q k) x)=(c3*rev s1 x)*rev q x*(rev u x*rev (Au q k) x):=by grind
  rw [this,a3];grind
 have hC:c1*c3*c≠0:=Int.mul_ne_zero (Int.mul_ne_zero k1 k3) kc
 generalize c1*c3*c=C at hP hC
 have hD:∀x:Rat,(C:Rat)*rev (ld p) x=rev (ld (Mr s3 u)) x*rev (Au q (k+1+1)) x+rev (Mr s3 u) x*((((k+1:Nat):Rat)+1)*(rev (Au q (k+1)) x*rev (ld q) x)):=fun x=>by
  have:=Fc (p:=p.map fun a=>C*a) (q:=Mr (Mr s3 u) (Au q (k+1+1))) (fun y=>by rw [Yg,Yw];exact hP y) x
  rwa [Cm,Dk,Zlw]at this
 refine hgr _ (Bk hq1 hq2 _).1 ⟨C,Mr (Mr s3 u) q,hC,fun x=>?_⟩ ⟨C,Gk (Mr (ld (Mr s3 u)) q) ((Mr (Mr s3 u) (ld q)).map fun a=>((k+2:Nat):Int)*a),hC,fun x=>?_⟩
 ·rw [hP x,Yw _ (Mr s3 u),Gc q (k+1)];grind
 ·rw [hD x,Qg,Yg,Yw _ (ld (Mr s3 u)),Yw _ (Mr s3 u),Gc q (k+1)];push_cast;grind
theorem Zwi{p s g q:List Int}(hps:∀x:Rat,rev p x=rev s x*rev g x)(hg:Tr g)(g0:g≠[])(hgr:∀d,Tr d→Ed d p→Ed d (ld p)→Ed d g)(hq:Tr q)(h1:Ed q s)(h2:Ed q (ld s)):q.length≤1:=by
 refine Classical.byContradiction fun h=>?_
 obtain⟨r,hr,hr2⟩:=irr_ex _ q (Nat.le_refl _) hq (by omega)
 have key:∀k,Ed (Au r k) g:=fun k=>by
  induction k with
  | zero=>exact⟨1,g,by decide,fun x=>by rw [show Au r 0=[1]from rfl,Oq];push_cast;grind⟩
  | succ k ih=>exact Zwg (u:=[]) (c:=0) hps hgr hr (hr2.trans h1) (hr2.trans h2) ih
 obtain⟨a1,a2⟩:=Bk hr.1 hr.2.1 g.length
 have:=((key g.length).len a1 hg g0).2
 omega
theorem ed_rest{d a b:List Int}(hb:Tr b)(h0:b≠[])(h1:Ed d a)(h2:Ed d b):Ed d (Ps a b):=by
  obtain⟨k,s,hs⟩:=Fe a h0
  have hL:=Np (hb.mem h0) k
  generalize cf b (b.length-1)^k=L at hs hL
  have he:∀x,(L:Rat)*rev a x=rev s x*rev b x+rev (Ps a b) x:=fun x=>by
    have:=Fr (a:=L) (c:=-1) (x:=a) (s:=s) (y:=b) (z:=Ps a b) (fun t=>by rw [hs t];omega) x
    push_cast at this;grind
  have h3:Ed d (a.map fun c=>L*c):=by
    obtain⟨k,u,hk,e⟩:=h1
    exact⟨k,u.map fun c=>L*c,hk,fun x=>by rw [Yg,Yg];have:=e x;grind⟩
  exact h2.lin h3 (s.map fun c=>(-1)*c) 1 (by decide) fun x=>by
    rw [Yg,Yg];push_cast;have:=he x;grind
theorem Zo0{d:List Int} : ∀(f:Nat) {a b:List Int},Tr a→Tr b→Ed d a→Ed d b→Ed d (eu f a b)
  | 0,a,b,_,_,h1,_=>h1
  | f+1,a,b,ha,hb,h1,h2=>by
    by_cases h0:b=[]
    · rw [h0,Ey];exact h1
    · rw [show eu (f + 1) a b = eu f b (Xc (Ps a b)) by
          conv=>lhs;unfold eu
          rw [if_neg h0]]
      have t1:=Ly (q:=b) ha
      exact Zo0 f hb (Xj t1) h2 ((ed_rest hb h0 h1 h2).sim (Qs t1).symm)
theorem Zgs{F:Nat}{d p q:List Int}(hp:Tr p)(hq:Tr q)(h1:Ed d p)(h2:Ed d q):Ed d (Ib F p q):=by
  have a1:=h1.sim (Qs hp).symm
  have a2:=h2.sim (Qs hq).symm
  unfold Ib
  refine Ed.sim ?_ (Kn _).symm
  refine Zo0 F (Zjm hp hq) (Zjl hp hq) ?_ ?_
  · unfold gA;split<;>assumption
  · unfold gB;split<;>assumption
theorem Zeq{xs:List Int}{F:Nat}(hx:Tr xs)(h0:xs≠[])(hok:eok F (gA (nrm xs) (Pk (nrm xs))) (gB (nrm xs) (Pk (nrm xs)))){q:List Int}(hq:Tr q)(h1:Ed q (sqf F xs))(h2:Ed q (Pk (sqf F xs))):q.length≤1:=by
  obtain⟨f1,f2,f3,f4,f5,f6⟩:=Nh (F:=F) hx h0 hok
  have hs:Tr (nrm xs):=No (Xj hx)
  have hd:Tr (Pk (nrm xs)):=Nz hs
  refine Zwi (p:=nrm xs) (s:=sqf F xs) (g:=Ib F (nrm xs) (Pk (nrm xs))) (fun x=>?_) (Zb7 hs hd) f5 (fun d _ a b=>?_) hq h1 (h2.congr fun x=>Kk _ x)
  · have:rev (nrm xs) x=rev (Mg (sqf F xs) (Ib F (nrm xs) (Pk (nrm xs)))) x:=by rw [←f4]
    rw [this,Xd]
  · exact Zgs hs hd a (b.congr fun x=>(Kk _ x).symm)
theorem Cy:∀(l:List Int) (n z:Int),(l.foldl Ie (n,z)).1=n+(l.foldl Ie (0,z)).1
 | [],n,z=>by simp
 | x :: l,n,z=>by
  simp only [List.foldl_cons]
  by_cases h:x=0
  ·have e:∀n,Ie (n,z) x=(n,z):=fun n=>by unfold Ie;rw [if_pos h]
   rw [e,e];exact Cy l n z
  ·by_cases h2:x=-z
   ·have e:∀n,Ie (n,z) x=(n+1,x):=fun n=>by unfold Ie;rw [if_neg h,if_pos (by dsimp only;exact h2)]
    rw [e,e,Cy l (n+1) x,Cy l (0+1) x];omega
   ·have e:∀n,Ie (n,z) x=(n,x):=fun n=>by unfold Ie;rw [if_neg h,if_neg (by dsimp only;exact h2)]
    rw [e,e];exact Cy l n x
theorem chg_two{x y:Int}(l:List Int)(hy:y≠0):chg (x :: y :: l)=chg (y :: l)+(if x=-y then 1 else 0):=by
 unfold chg
 simp only [List.foldl_cons]
 have h1:Ie (0,0) y=(0,y):=by unfold Ie;rw [if_neg hy,if_neg (by dsimp only;omega)]
 rw [h1]
 by_cases hx:x=0
 ·have h2:Ie (0,0) x=(0,0):=by unfold Ie;rw [if_pos hx]
  rw [h2,h1,if_neg (by omega)];omega
 ·have h2:Ie (0,0) x=(0,x):=by unfold Ie;rw [if_neg hx,if_neg (by dsimp only;omega)]
  rw [h2]
  have h3:Ie (0,x) y=(if x=-y then 1 else 0,y):=by
   unfold Ie;rw [if_neg hy]
   by_cases h:x=-y
   ·rw [if_pos (by dsimp only;omega),if_pos h];rfl
   ·rw [if_neg (by dsimp only;omega),if_neg h]
  rw [h3,Cy];omega
def crs(f:Rat→Rat)(u v:Rat):Int:=if f u≠0∧f u*f v≤0 then 1 else 0
theorem Zh9(s t:Rat):∀p:List Int,∃M:Rat,0<M∧∀x y,s≤x→x≤y→y≤t→
  -(M*(y-x)*(y-x))≤rev p y-rev p x-(y-x)*rev (ld p) x∧rev p y-rev p x-(y-x)*rev (ld p) x≤M*(y-x)*(y-x)
 | []=>⟨1,by decide,fun x y h1 h2 h3=>by
   have:=Rat.mul_nonneg (a:=y-x) (b:=y-x) (by grind) (by grind)
   show -(1*(y-x)*(y-x))≤(0:Rat)-0-(y-x)*0∧(0:Rat)-0-(y-x)*0≤1*(y-x)*(y-x)
   constructor<;>grind⟩
 | c :: p=>by
  obtain⟨M,m1,m2⟩:=Zh9 s t p
  obtain⟨L,l1,l2⟩:=Dj s t p
  obtain⟨K,k1,k2⟩:=ex_K s t
  refine⟨L+K*M,by have:=Rat.mul_pos k1 m1;grind,fun x y hs hxy ht=>?_⟩
  obtain⟨a1,a2⟩:=m2 x y hs hxy ht
  obtain⟨b1,b2⟩:=l2 x y hs hxy ht
  obtain⟨e1,e2⟩:=k2 x hs (by grind)
  have hd:0≤y-x:=by grind
  obtain⟨f1,f2⟩:=Zdg (q:=x) (Q:=K) (g:=rev p y-rev p x-(y-x)*rev (ld p) x) (e:=M*(y-x)*(y-x)) e1 e2 a1 a2 (by grind)
  have g1:=Rat.mul_nonneg (a:=y-x) (b:=L*(y-x)-(rev p y-rev p x)) hd (by grind)
  have g2:=Rat.mul_nonneg (a:=y-x) (b:=L*(y-x)+(rev p y-rev p x)) hd (by grind)
  rw [Ze0,show rev (c :: p) y=(c:Rat)+y*rev p y from rfl,show rev (c :: p) x=(c:Rat)+x*rev p x from rfl]
  constructor<;>grind
theorem Zuu{a b:List Int}(ha:Tr a)(hb:Tr b)(h0:a≠[])(hc:∀q,Tr q→Ed q a→Ed q b→q.length≤1)(s t:Rat):∃ε:Rat,0<ε∧∀x,s≤x→x≤t→Big ε x (rev a)∨Big ε x (rev b):=by
 obtain⟨g,A,B,g1,g2,g3,g4⟩:=Zlb _ a b ha hb (Nat.le_refl _)
 have hl:=hc g g1 g2 g3
 have hg:=(g2.len g1 ha h0).1
 match g,hg,hl,g1,g4 with
 | [c],_,_,g1,g4=>
  have hc0:c≠0:=g1.mem (by simp)
  obtain⟨P,p1,p2⟩:=Zr8 s t A
  obtain⟨Q,q1,q2⟩:=Zr8 s t B
  obtain⟨ε,e1,e2,e3⟩:=Ip (show(0:Rat)<1 by decide) (show 0<(P+Q)+(P+Q) by grind) (show(0:Rat)<1 by decide)
  refine⟨ε,e1,fun x hs ht=>?_⟩
  by_cases h1:Big ε x (rev a)
  ·exact .inl h1
  ·by_cases h2:Big ε x (rev b)
   ·exact .inr h2
   ·exfalso
    obtain⟨a1,a2⟩:=Zcm h1
    obtain⟨b1,b2⟩:=Zcm h2
    obtain⟨c1,c2⟩:=p2 x hs ht
    obtain⟨d1,d2⟩:=q2 x hs ht
    obtain⟨u1,u2⟩:=Zdg c1 c2 a1 a2 (by grind)
    obtain⟨v1,v2⟩:=Zdg d1 d2 b1 b2 (by grind)
    have h4:=g4 x
    rw [Oq]at h4
    have h5:(c:Rat)≤-1∨1≤(c:Rat):=by
     rcases Int.lt_or_gt_of_ne hc0 with h | h
     ·left;have:((c:Int):Rat)≤((-1:Int):Rat):=by exact_mod_cast (show c≤-1 by omega)
      rwa [show(((-1:Int)):Rat)=-1 from rfl]at this
     ·right;have:1≤c:=by omega
      exact_mod_cast this
    rcases h5 with h5 | h5<;>grind
 | c :: d :: r,_,h9,_,_=>simp at h9
theorem Big.near{ε x y:Rat}{f:Rat→Rat}(h:Big ε x f)(h1:f x-f y≤ε/2)(h2:f y-f x≤ε/2):Big (ε/2) y f:=by
 unfold Big at *;grind
end Go.Sky

