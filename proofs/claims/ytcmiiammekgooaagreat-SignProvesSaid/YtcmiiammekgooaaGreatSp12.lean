/- Rules, arithmetic and contracts: part 13. No conditions but those that each theorem names. -/
import Derived.Test.YtcmiiammekgooaaGreatSp11
set_option linter.all false
namespace Go.Sky
theorem Zfs{p:List Int}(h:Vp p)(hz:∀i,i<p.length→bl (cf p (i+1)*((i:Int)+1)).natAbs≤65536):Vp (Xy p):=by
 refine⟨fun i=>?_,Mv h.tr,by rw [Nq];have:=h.len;omega⟩
 rw [Zg9]
 by_cases hi:i<p.length
 ·exact hz i hi
 ·rw [Xt (by omega)];simp [Lu]
theorem sf_t{xs:List Int}(h:xs.length=0):Value.bool (decide (Za5 xs))= .bool true:=congrArg Value.bool (decide_eq_true (.inl h))
theorem sf_i{xs:List Int}{n:Int}(h:xs.length≠0)(hn:n=(((xs.length+2)*(xs.length+2)*(Pf xs+16):Nat):Int)):Value.bool (decide (Za5 xs))= .bool (decide (n≤65536)):=congrArg Value.bool (decide_eq_decide.2 (by
 subst hn
 show(xs.length=0∨(xs.length+2)*(xs.length+2)*(Pf xs+16)≤65536)↔_
 constructor
 ·intro h1;rcases h1 with h1 | h1
  ·exact absurd h1 h
  ·exact Int.ofNat_le.2 h1
 ·intro h1;exact .inr (Int.ofNat_le.1 h1)))
theorem Zxt{x y:List Int}(h:(Pn x y).length=0):Lb x y=[]:=by
 have h1:Pn x y=[]:=List.eq_nil_of_length_eq_zero h
 unfold Lb;rw [h1];split<;>rfl
theorem Yd9{x y:List Int}(hl:y.length≤x.length)(h1:(cf y (y.length-1)).sign<0)(h2:((x.length:Int)-(y.length:Int)+1)%2=1):Lb x y=Yx (Pn x y):=by
 unfold Lb;rw [if_pos ⟨(Qu _).1 h1,by omega⟩]
theorem Zuv{x y:List Int}(h1:¬(cf y (y.length-1)).sign<0):Lb x y=Xm (Yx (Pn x y)) (-1):=by
 unfold Lb;rw [if_neg (fun h=>h1 ((Qu _).2 h.1))]
theorem Zuu{x y:List Int}(hl:y.length≤x.length)(h2:¬((x.length:Int)-(y.length:Int)+1)%2=1):Lb x y=Xm (Yx (Pn x y)) (-1):=by
 unfold Lb;rw [if_neg (fun h=>h2 (by omega))]
theorem Zjt{xs:List Int}{F:Nat}(hv:Vp xs)(h0:xs≠[])(h:Yd8 F xs):Vp (sqf F xs):=by
 obtain⟨_,_,_,h4,h5⟩:=h
 have hn:=Zs0 hv
 unfold sqf Kt
 split
 ·exact⟨Sz.nil _,Tr.nil,by simp⟩
 ·rename_i h6
  rcases h5 with h5 | h5
  ·exact absurd h5 h6
  ·have h7:=(Zcg h4).2 h5.1
   refine⟨?_,Nk _,?_⟩
   ·rw [←Zdj];exact(Zut h7 h5.2.1 _).tzl
   ·have h8:=Hc (Zdk (Qa xs) (Mp F (Qa xs) (Xy (Qa xs))) ((Qa xs).length-(Mp F (Qa xs) (Xy (Qa xs))).length+1))
    rw [Zdj,Zah]at h8
    have:=hn.len
    have:=(Zcg h4).1
    omega
theorem Zk3{xs:List Int}{F:Nat}(hv:Vp xs)(h:Yd8 F xs):(sqf F xs).length≤xs.length:=by
 obtain⟨_,_,_,h4,h5⟩:=h
 have hl:=Nf hv.tr
 unfold sqf Kt
 split
 ·exact Nat.zero_le _
 ·rename_i h6
  rcases h5 with h5 | h5
  ·exact absurd h5 h6
  ·have h8:=Hc (Zdk (Qa xs) (Mp F (Qa xs) (Xy (Qa xs))) ((Qa xs).length-(Mp F (Qa xs) (Xy (Qa xs))).length+1))
   rw [Zdj,Zah]at h8
   have:=(Zcg h4).1
   have:=h5.1
   omega
theorem Zxa{L:List Int}{i:Nat}{n l s:Int}(hi:i<L.length)(h:(n,l)=(L.take i).foldl Mr (0,0))(hs:L.getD i 0=s)(h0:s=0):(n,l)=(L.take (i+1)).foldl Mr (0,0):=by
 rw [Nw 0 L i hi,Zce,←h,hs];unfold Mr;rw [if_pos h0]
theorem Zw9{L:List Int}{i:Nat}{n l s:Int}(hi:i<L.length)(h:(n,l)=(L.take i).foldl Mr (0,0))(hs:L.getD i 0=s)(h0:s≠0)(h1:s=-l):(n+1,s)=(L.take (i+1)).foldl Mr (0,0):=by
 rw [Nw 0 L i hi,Zce,←h,hs];unfold Mr;rw [if_neg h0];dsimp only;rw [if_pos h1]
theorem Zw8{L:List Int}{i:Nat}{n l s:Int}(hi:i<L.length)(h:(n,l)=(L.take i).foldl Mr (0,0))(hs:L.getD i 0=s)(h0:s≠0)(h1:¬s=-l):(n,s)=(L.take (i+1)).foldl Mr (0,0):=by
 rw [Nw 0 L i hi,Zce,←h,hs];unfold Mr;rw [if_neg h0];dsimp only;rw [if_neg h1]
theorem Ygj{L:List Int}{i:Nat}{n l:Int}(hi:L.length≤i)(h:(n,l)=(L.take i).foldl Mr (0,0)):n=chg L:=by
 rw [List.take_of_length_le hi]at h
 unfold chg;rw [←h]
theorem Zz5(z:Int):-1≤z.sign∧z.sign≤1:=by
 rcases Int.lt_trichotomy z 0 with h | h | h
 ·rw [Int.sign_eq_neg_one_of_neg h];omega
 ·subst h;simp
 ·rw [Int.sign_eq_one_of_pos h];omega
theorem Yb0{α:Type}(d:α)(f:α→Int)(ls:List α){i:Nat}(h:i<ls.length):(ls.map f).getD i 0=f (ls.getD i d):=by
 simp [List.getD_eq_getElem?_getD,h]
def sgx(ls:List (SL×List Int))(f:List Int→Int):List Int:=ls.map fun z=>f z.2
theorem Zqm(ls:List (SL×List Int))(f:List Int→Int){i:Nat}(h:i<ls.length):(sgx ls f).getD i 0=f (ls.getD i ((none,0,0),[])).2:=Yb0 _ _ _ h
theorem Zk4(ls:List (SL×List Int))(f:List Int→Int):(sgx ls f).length=ls.length:=List.length_map ..
def fr(p:List Int):Int:=(cf p (p.length-1)).sign
def fl(p:List Int):Int:=if p.length%2=0 then-(cf p (p.length-1)).sign else(cf p (p.length-1)).sign
def fat(x y:Int)(p:List Int):Int:=(pev p x y).sign
theorem fat_r(x y:Int)(p:List Int):-1≤fat x y p∧fat x y p≤1:=Zz5 _
theorem Zmg:∀(f:Nat) {x y:List Int},Vp x→Vp y→cok f x y→∀p∈Le f x y,Vp p
 | 0,x,y,hx,_,_,p,hp=>by rw [List.mem_singleton.1 hp];exact hx
 | f+1,x,y,hx,hy,h,p,hp=>by
  unfold Le at hp
  split at hp
  ·rw [List.mem_singleton.1 hp];exact hx
  ·rcases h with h | h
   ·contradiction
   ·rcases List.mem_cons.1 hp with rfl | hp
    ·exact hx
    ·exact Zmg f hy (Zju hx h.1) h.2.2 p hp
theorem Zze{xs:List Int}{F:Nat}(hv:Vp xs)(h0:xs≠[])(hC:Az F xs):∀p∈chn F xs,Vp p:=by
 obtain⟨h1,h2,h3⟩:=hC
 have hq:=Zjt hv h0 h1
 exact Zmg F hq (Ij (Zfs hq (fun i hi=>h2 i (by have:=Zk3 hv h1;omega)))) h3
def cnt(F:Nat)(xs:List Int)(x y:Int):Int:=chg ((chn F xs).map (fat x y))
def sright(F:Nat)(xs:List Int):Int:=chg ((chn F xs).map fr)
def sleft(F:Nat)(xs:List Int):Int:=chg ((chn F xs).map fl)
theorem Zuz{ls:List (SL×List Int)}{C:List (List Int)}(h:ls.map Prod.snd=C)(f:List Int→Int):sgx ls f=C.map f:=by
 rw [←h,List.map_map];rfl
theorem Qo{ls:List (SL×List Int)}{C:List (List Int)}{p:List Int→Prop}(h:ls.map Prod.snd=C)(hp:∀q∈C,p q):∀z∈ls,p z.2:=fun z hz=>hp _ (h▸List.mem_map_of_mem hz)
theorem Zbn(L:List Int):0≤chg L∧chg L≤L.length:=by
 unfold chg
 suffices h:∀(l:List Int) (s:Int×Int),s.1≤(l.foldl Mr s).1∧(l.foldl Mr s).1≤s.1+l.length by
  have:=h L (0,0);simpa using this
 intro l
 induction l with
 | nil=>intro s;simp
 | cons x l ih=>
  intro s
  have h1:=ih (Mr s x)
  have h2:=chg1_n s x
  simp only [List.foldl_cons,List.length_cons]
  omega
theorem Zav:∀(f:Nat) (x y:List Int),(Le f x y).length≤f+1
 | 0,x,y=>Nat.le_refl _
 | f+1,x,y=>by
  unfold Le;split
  ·simp
  ·have:=Zav f y (Lb x y);simp;omega
def sm(xs:List Int)(i:Nat):Nat:=(xs.take i).foldl (fun m c=>max m c.natAbs) 0
theorem Zfe{x y:Int}(h:¬Hd x y):Bp x y=x/Kw x y∧Cu x y=y/Kw x y∧Yal x y=0:=⟨if_neg h,if_neg h,if_neg h⟩
theorem nr_bl{x y:Int}(h:¬Hd x y):bl (Bp x y).natAbs≤65536∧bl (Cu x y).natAbs≤65536:=by
 obtain⟨h1,h2,_⟩:=Zfe h
 rw [h1,h2]
 unfold Hd at h
 omega
theorem Zkw{x y:Int}(h:¬Hd x y)(hy:0<y):0<Cu x y:=by
 rw [(Zfe h).2.1];exact Zyo hy
abbrev R2:=Int×Int
def Pe(a b:R2):R2:=(Bp (Bp (a.1*b.2+b.1*a.2) (a.2*b.2)*1) (Cu (a.1*b.2+b.1*a.2) (a.2*b.2)*2),Cu (Bp (a.1*b.2+b.1*a.2) (a.2*b.2)*1) (Cu (a.1*b.2+b.1*a.2) (a.2*b.2)*2))
def Zag(a b:R2):Prop:=¬Hd (a.1*b.2+b.1*a.2) (a.2*b.2)∧¬Hd (Bp (a.1*b.2+b.1*a.2) (a.2*b.2)*1) (Cu (a.1*b.2+b.1*a.2) (a.2*b.2)*2)
instance (a b:R2):Decidable (Zag a b):=by unfold Zag;infer_instance
theorem Zrn{a b:R2}(h:Zag a b):bl (Pe a b).1.natAbs≤65536∧bl (Pe a b).2.natAbs≤65536:=nr_bl h.2
theorem Zyj{a b:R2}(h:Zag a b)(ha:0<a.2)(hb:0<b.2):0<(Pe a b).2:=Zkw h.2 (Int.mul_pos (Zkw h.1 (Int.mul_pos ha hb)) (by decide))
theorem Zyk{a b:R2}(h:Zag a b):Yal (Bp (a.1*b.2+b.1*a.2) (a.2*b.2)*1) (Cu (a.1*b.2+b.1*a.2) (a.2*b.2)*2)=0:=(Zfe h.2).2.2
def isp(cv:R2→Int)(hv:Int):Nat→R2→R2→Int→Int→Nat→List (R2×R2)
 | 0,_,_,_,_,_=>[]
 | f+1,a,b,fr,to,d=>if fr=to then []else if fr-to=1∧hv≤(d:Int)then [(a,b)]else isp cv hv f a (Pe a b) fr (cv (Pe a b)) (d+1) ++ isp cv hv f (Pe a b) b (cv (Pe a b)) to (d+1)
def Zwc(cv:R2→Int)(ok:R2→Prop)(hv:Int):Nat→R2→R2→Int→Int→Nat→Prop
 | 0,_,_,_,_,_=>False
 | f+1,a,b,fr,to,d=>fr=to∨(fr-to=1∧hv≤(d:Int))∨(d<1000∧Zag a b∧ok (Pe a b)∧Zwc cv ok hv f a (Pe a b) fr (cv (Pe a b)) (d+1)∧Zwc cv ok hv f (Pe a b) b (cv (Pe a b)) to (d+1))
instance ispDec (cv:R2→Int) (ok:R2→Prop) [DecidablePred ok] (hv:Int):∀f a b fr to d,Decidable (Zwc cv ok hv f a b fr to d)
 | 0,_,_,_,_,_=>inferInstanceAs (Decidable False)
 | f+1,a,b,fr,to,d=>@instDecidableOr _ _ _ (@instDecidableOr _ _ _ (@instDecidableAnd _ _ _ (@instDecidableAnd _ _ _ (@instDecidableAnd _ _ _ (@instDecidableAnd _ _ (ispDec cv ok hv f a (Pe a b) fr (cv (Pe a b)) (d+1)) (ispDec cv ok hv f (Pe a b) b (cv (Pe a b)) to (d+1)))))))
def okQ(z:R2):Prop:=bl z.1.natAbs≤65536∧bl z.2.natAbs≤65536∧0<z.2
def evok(ls:List (SL×List Int))(m:R2):Prop:=∀z∈ls,¬Iv z.2 m.1 m.2
def cvx(ls:List (SL×List Int))(m:R2):Int:=chg (sgx ls (fat m.1 m.2))
def cvc(F:Nat)(xs:List Int)(m:R2):Int:=cnt F xs m.1 m.2
def evc(F:Nat)(xs:List Int)(m:R2):Prop:=∀p∈chn F xs,¬Iv p m.1 m.2
def slow(a:R2):R2:=(Bp a.1 a.2,Cu a.1 a.2)
def sisol(F:Nat)(xs:List Int)(f:Nat)(a b:R2)(hq:Int):List (R2×R2):=isp (cvc F xs) hq f (slow a) (slow b) (cvc F xs a) (cvc F xs b) 0
def isOK(F:Nat)(xs:List Int)(f:Nat)(a b:R2)(hq:Int):Prop:=Az F xs∧evc F xs a∧evc F xs b∧¬Hd a.1 a.2∧¬Hd b.1 b.2∧Zwc (cvc F xs) (evc F xs) hq f (slow a) (slow b) (cvc F xs a) (cvc F xs b) 0∧(sisol F xs f a b hq).length≤1000000
open Go.Proofs.Tryz
open Go.Proofs
set_option maxRecDepth 20000
set_option maxHeartbeats 4000000
set_option linter.unusedSimpArgs false
theorem Yd7(v:Value)(xs:List Int)(hv:Vp xs):Od prog 197 #[v] [Pw 2 wv v xs] (.bool (decide (Za5 xs))):=by
 refine Yg func197 J ntmps197 J K1 fun w0 sc hw hsc=>?_
 simp only [Zs,Zq]
 have hlen:=hv.len
 have hmz:=Oc hv.sz
 have q1:(xs.length+2)*(xs.length+2)≤27*27:=Nat.mul_le_mul (by omega) (by omega)
 have q2:(xs.length+2)*(xs.length+2)*(Pf xs+16)≤27*27*65552:=Nat.mul_le_mul q1 (by omega)
 have q3:((xs.length:Int)-1+3)*((xs.length:Int)-1+3)=(((xs.length+2)*(xs.length+2):Nat):Int):=by rw [show(xs.length:Int)-1+3=((xs.length+2:Nat):Int) by omega];push_cast;rfl
 have q4:((xs.length:Int)-1+3)*((xs.length:Int)-1+3)*((Pf xs:Int)+16)=(((xs.length+2)*(xs.length+2)*(Pf xs+16):Nat):Int):=by rw [q3];push_cast;rfl
 refine Zb<|Zf<|Zo J<|Zd<|Za<|Zb<|Zb<|Zf<|mv J<|tt (Zy (n:=1) (Qt _ _ ‹_›) K4 Av (Zi 1 K3 Ze) J hw) fun _ _=>dt (Xh J J)<|Zd<|Za<|Yk J<|Zl<|Za<|Zb<|Zf<|mv J<|tt (Zy (n:=1) (Zig _ _ hv) K4 call105 (Zi 1 K3 Ze) J hw) fun _ _=>mv J<|dt (Xa K3)<|dt (Xa K3)<|Zo J<|Zo J<|Zd<|Za<|Zb<|Zf<|mv J<|tt (Zy (n:=1) (Zm2 _ _ hv) K4 call106 (Zi 1 K3 Ze) J hw) fun _ _=>mv J<|dt (Xa K3)<|dt (Xa K3)<|Zo J<|Zo J<|Zd<|Za<|Zb<|Zf<|mv J<|dt (Yc J J (i:=1) J Zg Xn)<|dt (Hf K3)<|mv J<|Pb (d:=23) J (fun s24=>?_) (fun s24=>?_)
 ·exact Yj K3<|Yj K3<|Yj K3<|Yj K3<|Yj K3<|Yj K3<|Yj K3<|Yj K3<|Yj K3<|dt (Om K3)<|Zo J<|Zd<|Za<|Zp<|xU hsc results197 J J (by first | exact sf_t (by omega) | exact sf_i (by omega) q4)
 ·exact Zx (Ya K2) K2<|Zx (Ov K3) K2<|Zx (Ya K2) K2<|Zx (Ov K3) K2<|Zx (Eu J J J (by rw [q3];exact⟨by omega,by omega⟩)) K2<|Zx (Ya K2) K2<|Zx (Ov K3) K2<|Zx (Eu J J J (by rw [q4];exact⟨by omega,by omega⟩)) K2<|Zx (Ev J J J) K2<|dt (Ql K3)<|Zo J<|Zd<|Za<|Zp<|xU hsc results197 J J (by first | exact sf_t (by omega) | exact sf_i (by omega) q4)
theorem Zxs(v:Value)(xs:List Int)(hv:Vp xs):Od prog 183 #[v,.slice none 0 0] [Pw 2 wv v xs] (.int .i64 (Zt9 xs)):=by
 refine Yg func183 J ntmps183 J K1 fun w0 sc hw hsc=>?_
 simp only [Zs,Zq]
 refine Yl (Nc 999 2 31 wv)<|Yl (Qw 999 J J pV)<|Zb<|Zf<|Zo J<|Zd<|Za<|Zb<|Zf<|mv J<|tt (Zy (n:=1) (Yd7 _ _ hv) K4 call197 (Zi 1 K3 Ze) J hw) fun _ _=>dt (Zev J J)<|Zo J<|Zd<|Za<|Zb<|Zb<|Zf<|mv J<|dt (Yc J J (i:=999) J Zg Zlz)<|mv J<|Zd<|Za<|Zn<|Px [(0,_),(1,_),(13,_),(14,_)] [(0,_),(1,_),(999,_)] (fun(_:Unit)=>[(15,.int .i64 0),(5,.bool (decide (¬Za5 xs)))]) (fun(_:Unit)=>[]) (fun(_:Unit)=>True) (fun(_:Unit)=>0) () trivial K6 K3 ?_
 rintro _ -
 simp only [CA,NA]
 refine Zb<|Zf<|dt (dF (Pa K3) (vB (by decide)))<|Zd<|Za<|Zb<|Yk J<|Yt<|Zv<|Zv<|Pd<|Za<|Zb<|Zb<|Zf<|mv J<|tt (Zy (n:=1) (Qt _ _ ‹_›) K4 Av (Zi 1 K3 Ze) J hw) fun _ _=>dt (Xh J J)<|Zd<|Za<|Yk J<|Zl<|Za<|Zb<|Zb<|Zf<|mv J<|dt (Yc J J (i:=1) J Zg Xn)<|dt (Hf K3)<|Zd<|Za<|Zr J (fun h39=>?_) (fun h39=>?_)
 ·exact Zb<|Zf<|Zo J<|Zd<|Za<|Zp<|Yp<|xU hsc results183 J J (by unfold Zt9;rw [if_pos (by omega)])
 ·refine Zl<|Za<|Zb<|Zb<|Zf<|mv J<|dt (Yc J J (i:=999) J Zg Zlz)<|dt (dF (Hf K3) (vB (by decide)))<|Zd<|Za<|Yk J<|Zl<|Za<|Zb<|Zb<|Zf<|mv J<|Zd<|Za<|Mx J (fun h47=>?_) (fun h47=>?_)
  ·exact Zb<|Zf<|Zo J<|Zd<|Za<|Zp<|Yp<|xU hsc results183 J J (by unfold Zt9;rw [if_neg (by omega),if_neg (by simpa using h47)])
  ·exact Zl<|Za<|Zb<|Zf<|Zo J<|Zd<|Za<|Zp<|xU hsc results183 J J (by unfold Zt9;rw [if_neg (by omega),if_pos (by simpa using h47)])
theorem Zqj(v:Value)(xs:List Int)(hv:Vp xs)(h0:xs≠[]):Cal prog 184 #[v] [Pw 2 wv v xs] true (G:=Value) (fun r=>True) (fun r=> .tuple #[r,.int .i64 0]) (fun r=>[Pw 2 wv r (Qa xs)]):=by
 refine Yg func184 J ntmps184 J K1 fun w0 sc hw hsc=>?_
 simp only [Zs,Zq]
 have hvp:=Ij hv
 have hl0:=List.length_pos_iff.2 h0
 have hlp:=Yv xs
 have hlen:=hv.len
 refine Zb<|Zf<|Zo J<|Zo J<|Zd<|Za<|Zb<|Zf<|mv J<|tt (Zy (n:=2) (Ku _ _ hv) K4 call150 (Zi 1 K3 Ze) J hw) fun _ _=>mv J<|dt (Xa K3)<|dt (Xa K3)<|Zo J<|Zo J<|Zd<|Za<|Zb<|Zb<|Zf<|mv J<|dt (dT (Hf K3) (vB (by decide)))<|mv J<|Zx (Ya K2) K2<|Zx (Ya K2) K2<|Zx (Yc J J (i:=2) J Zg Xn) K2<|Zx (Pq K3) K2<|Zx (Nj (ii:=2) (i:=((Yx xs).length-1)) K4 Zg Xn Yb) K2<|Zx (Ms (ii:=2) 0 K3 Zg pV (by first | omega | (simp only [List.length_set];omega))) K2<|Pp (Zy (n:=2) (Km _ (hvp.sz _)) K4 call104 Ze J hw) K3 fun _ _=>Zx (Pa K3) K2<|dt (Om K3)<|Zd<|Za<|Zr J (fun h56=>?_) (fun h56=>?_)
 ·exact Zb<|Zf<|mv J<|tt (Zy (n:=2) (Xw _ ⟨by decide,by decide⟩) K4 Fb Ze J hw) fun _ _=>tt (Yf (n:=3) (Ak _ _ _ hvp (by decide +kernel) (fun i=>Zcj hvp.sz i)) K5 call151 (Zi 2 K3 Ze) J hw) fun _ _=>dt (Xa K3)<|dt (Xa K3)<|Zo J<|Zo J<|Zd<|Za<|Zp<|Yp<|Yr (.inl J) hsc _ _ (fun a w hs=>Pz hs results184 J J) J trivial J (Lg 3 K3 (by rw [Zje (by omega) ((Qu _).1 ‹_›)]<;>rfl) Zm)
 ·exact Zl<|Za<|Zb<|Zf<|mv J<|mv J<|Zo J<|Zo J<|Zd<|Za<|Zp<|Yr (.inl J) hsc _ _ (fun a w hs=>Pz hs results184 J J) J trivial J (Lg 2 K3 (by rw [Zjd (fun h=>by have h2:=(Qu _).2 h;exact absurd h2 ‹_›)]<;>rfl) Zm)
theorem st_sqf(v:Value)(xs:List Int)(hv:Vp xs)(h0:xs≠[])(hf:Za5 xs)(F:Nat)(hS:Yd8 F xs):Cal prog 161 #[v] [Pw 2 wv v xs] true (G:=Value) (fun r=>True) (fun r=> .tuple #[r,.int .i64 0]) (fun r=>[Pw 2 wv r (sqf F xs)]):=by
 refine Yg func161 J ntmps161 J K1 fun w0 sc hw hsc=>?_
 simp only [Zs,Zq]
 obtain⟨hS1,hS2,hS3,hS4,hS5⟩:=hS
 have hvn:=Zs0 hv
 have hln:=Nf hv.tr
 have hvd:Vp (Xy (Qa xs)):=Zfs hvn (fun i hi=>hS1 i (by omega))
 have hvg:=Zum hvn hvd hS3
 have hc0:=Ygh h0 hf
 refine Yl (Nc 999 2 31 wv)<|Yl (Qw 999 J J pV)<|Zb<|Zf<|Zo J<|Zo J<|Zd<|Za<|Zb<|Zb<|Zf<|mv J<|tt (Yf (n:=1) (Zxs _ _ hv) K5 call183 (Zi 1 K3 Ze) J hw) fun _ _=>Zo J<|Zd<|Za<|Zb<|Zf<|mv J<|dt (Pk K3)<|Zd<|Za<|Zr J (fun h64=>?_) (fun h64=>?_)
 ·exfalso;omega
 ·refine Zl<|Za<|Zb<|Zf<|mv J<|tt (Zy (n:=2) (Zqj _ _ hv h0) K4 call184 (Zi 1 K3 Ze) J hw) fun _ _=>mv J<|dt (Xa K3)<|dt (Xa K3)<|Zo J<|Zo J<|Zd<|Za<|Zb<|Zb<|Zf<|mv J<|dt (dF (Pk K3) (vB (by decide)))<|Zd<|Za<|Yk J<|Zl<|Za<|Zb<|Zf<|mv J<|tt (Zy (n:=3) (Zae _ _ hvn (fun i=>by by_cases hi:i<xs.length;exact hS1 i hi;rw [Xt (by omega)];simp [Lu])) K4 call109 (Zi 2 K3 Ze) J hw) fun _ _=>mv J<|dt (Xa K3)<|dt (Xa K3)<|Zo J<|Zo J<|Zd<|Za<|Zb<|Zb<|Zf<|mv J<|dt (dF (Pk K3) (vB (by decide)))<|Zd<|Za<|Yk J<|Zl<|Za<|Zb<|Zf<|mv J<|mv J<|tt (Yf (n:=4) (Zrb _ _ _ _ hvn hvd F hS2 hS3) K5 call110 (Zi 2 K3 (Zi 3 K3 Ze)) J hw) fun _ _=>mv J<|dt (Xa K3)<|dt (Xa K3)<|Zo J<|Zo J<|Zd<|Za<|Zb<|Zb<|Zf<|mv J<|dt (dF (Pk K3) (vB (by decide)))<|Zd<|Za<|Yk J<|Zl<|Za<|Zb<|Zf<|mv J<|mv J<|tt (Yf (n:=5) (Zc8 _ _ _ _ hvn hvg hS4) K5 call111 (Zi 2 K3 (Zi 4 K3 Ze)) J hw) fun _ _=>dt (Xa K3)<|dt (Xa K3)<|Zo J<|Zo J<|Zd ?_
  exact Za<|Zp<|Yr (.inl J) hsc _ _ (fun a w hs=>Pz hs results161 J J) (by rw [if_pos hS5]<;>rfl) trivial J (Lg 5 K3 (by rw [if_pos hS5]<;>rfl) Zm)
theorem Yd6(v u:Value)(xs ys:List Int)(hv:Vp xs)(hu:Vp ys)(h0:ys≠[])(hd:Bv xs ys=0)(hl:ys.length≤xs.length):Cal prog 162 #[v,u] [Pw 2 wv v xs,Pw 2 wv u ys] true (G:=Value) (fun r=>True) (fun r=> .tuple #[r,.int .i64 0]) (fun r=>[Pw 2 wv r (Lb xs ys)]):=by
 refine Yg func162 J ntmps162 J K2 fun w0 sc hw hsc=>?_
 simp only [Zs,Zq]
 have hvr:=Za2 hv hd
 have hvp:=Ij hvr
 have hlen:=hv.len
 have hlen2:=hu.len
 have hl0:=List.length_pos_iff.2 h0
 refine Yl (Nc 999 2 31 wv)<|Yl (Qw 999 J J pV)<|Zb<|Zf<|Zo J<|Zo J<|Zd<|Za<|Zb<|Zf<|mv J<|mv J<|tt (Yf (n:=3) (Zm1 _ _ _ _ hv hu hd) K5 call155 (Zi 1 K3 (Zi 2 K3 Ze)) J hw) fun _ _=>mv J<|dt (Xa K3)<|dt (Xa K3)<|Zo J<|Zo J<|Zd<|Za<|Zb<|Zb<|Zf<|mv J<|dt (dF (Pk K3) (vB (by decide)))<|mv J<|Zx (Ya K2) K2<|Zx (Yc J J (i:=3) J Zg Xn) K2<|Zx (Hf K3) K2<|dt (Ql K3)<|Zd<|Za<|Zr J (fun h85=>?_) (fun h85=>?_)
 ·exact Zb<|Zf<|mv J<|Zo J<|Zo J<|Zd<|Za<|Zp<|Yp<|Yr (.inl J) hsc (.slice none 0 0) _ (fun a w hs=>Pz hs results162 J J) J trivial J (Ii (Zxt (by omega)) Zm)
 ·refine Zl<|Za<|Zb<|Zf<|mv J<|tt (Zy (n:=4) (Ku _ _ hvr) K4 call150 (Zi 3 K3 Ze) J hw) fun _ _=>mv J<|dt (Xa K3)<|dt (Xa K3)<|Zo J<|Zo J<|Zd<|Za<|Zb<|Zb<|Zf<|mv J<|dt (dF (Pk K3) (vB (by decide)))<|Zd<|Za<|Yk J<|Zl<|Za<|Zb<|Zf<|mv J<|dt (Yc J J (i:=1) J Zg Xn)<|mv J<|dt (Yc J J (i:=2) J Zg Xn)<|dt (Pq K3)<|dt (Ov K3)<|Zo J<|Zd<|Za<|Zb<|Zb<|Zf<|mv J<|mv J<|dt (Yc J J (i:=2) J Zg Xn)<|dt (Pq K3)<|dt (Nj (ii:=2) (i:=(ys.length-1)) K4 Zg Xn Yb)<|dt (Ms (ii:=2) 0 K3 Zg pV (by first | omega | (simp only [List.length_set];omega)))<|tt (Zy (n:=4) (Km _ (hu.sz _)) K4 call104 Ze J hw) fun _ _=>dt (Pa K3)<|mv J<|Pb (d:=45) J (fun s94=>?_) (fun s94=>?_)
  ·refine Zx (Ya K2) K2<|Zx (Zli J J J) K2<|Zx (Hf K3) K2<|dt (Om K3)<|Zd<|Za<|Zr J (fun h94=>?_) (fun h94=>?_)
   ·exact Zb<|Zf<|mv J<|Zo J<|Zo J<|Zd<|Za<|Zp<|Yp<|Yr (.inl J) hsc _ _ (fun a w hs=>Pz hs results162 J J) J trivial J (Lg 4 K3 (by rw [Yd9 hl ‹_› ‹_›]<;>rfl) Zm)
   ·exact Zl<|Za<|Zb<|Zf<|mv J<|tt (Zy (n:=4) (Xw _ ⟨by decide,by decide⟩) K4 Fb Ze J hw) fun _ _=>tt (Yf (n:=5) (Ak _ _ _ hvp (by decide +kernel) (fun i=>Zcj hvp.sz i)) K5 call151 (Zi 4 K3 Ze) J hw) fun _ _=>dt (Xa K3)<|dt (Xa K3)<|Zo J<|Zo J<|Zd<|Za<|Zp<|Yr (.inl J) hsc _ _ (fun a w hs=>Pz hs results162 J J) J trivial J (Lg 5 K3 (by first | (rw [Zuv ‹_›]<;>rfl) | (rw [Zuu hl ‹_›]<;>rfl)) Zm)
  ·exact Yj K3<|Yj K3<|Yj K3<|dt (Ql K3)<|Zd<|Za<|Yk J<|Zl<|Za<|Zb<|Zf<|mv J<|tt (Zy (n:=5) (Xw _ ⟨by decide,by decide⟩) K4 Fb Ze J hw) fun _ _=>tt (Yf (n:=6) (Ak _ _ _ hvp (by decide +kernel) (fun i=>Zcj hvp.sz i)) K5 call151 (Zi 4 K3 Ze) J hw) fun _ _=>dt (Xa K3)<|dt (Xa K3)<|Zo J<|Zo J<|Zd<|Za<|Zp<|Yr (.inl J) hsc _ _ (fun a w hs=>Pz hs results162 J J) J trivial J (Lg 6 K3 (by first | (rw [Zuv ‹_›]<;>rfl) | (rw [Zuu hl ‹_›]<;>rfl)) Zm)
theorem Zzv(v:Value)(xs:List Int)(hv:Vp xs)(h0:xs≠[])(hf:Za5 xs)(F:Nat)(hC:Az F xs):Cal prog 118 #[v] [Pw 2 wv v xs] true (G:=Value×List (SL×List Int)) (fun r=>r.2.map Prod.snd=chn F xs) (fun r=> .tuple #[r.1,.int .i64 0]) (fun r=>[Ek 1 Gx qZ r.1 r.2]):=by
 refine Yg func118 J ntmps118 J K1 fun w0 sc hw hsc=>?_
 simp only [Zs,Zq]
 obtain⟨hC1,hC2,hC3⟩:=hC
 have hvq:=Zjt hv h0 hC1
 have hlq:=Zk3 hv hC1
 have hvqd:Vp (Xy (sqf F xs)):=Zfs hvq (fun i hi=>hC2 i (by omega))
 refine Yl (Nc 999 2 31 wv)<|Yl (Qw 999 J J pV)<|Zb<|Zf<|Zo J<|Zo J<|Zd<|Za<|Zb<|Zf<|mv J<|tt (Zy (n:=2) (st_sqf _ _ hv h0 hf F hC1) K4 call161 (Zi 1 K3 Ze) J hw) fun _ _=>mv J<|dt (Xa K3)<|dt (Xa K3)<|Zo J<|Zo J<|Zd<|Za<|Zb<|Zb<|Zf<|mv J<|dt (dF (Pk K3) (vB (by decide)))<|Zd<|Za<|Yk J<|Zl<|Za<|Zb<|Zf<|mv J<|tt (Zy (n:=3) (Zae _ _ hvq (fun i=>by by_cases hi:i<xs.length;exact hC2 i hi;rw [Xt (by omega)];simp [Lu])) K4 call109 (Zi 2 K3 Ze) J hw) fun _ _=>mv J<|dt (Xa K3)<|dt (Xa K3)<|Zo J<|Zo J<|Zd<|Za<|Zb<|Zb<|Zf<|mv J<|dt (dT (Hf K3) (vB (by decide)))<|Zd<|Za<|Of J<|Zf<|mv J<|tt (Zy (n:=80) (Ku _ _ hvqd) K4 call150 (Zi 3 K3 Ze) J hw) fun _ _=>mv J<|dt (Xa K3)<|dt (Xa K3)<|Zo J<|Zo J<|Zd<|Za<|Zb<|Zb<|Zf<|mv J<|dt (dF (Pk K3) (vB (by decide)))<|Zd<|Za<|Yk J<|Zl<|Za<|Zb<|Ziw (Na 2 J Zg) (fun ss hss=>?_)
 subst hss
 refine Yl (Ke qZ 71)<|Yl (Ot (q:=qZ) (z:=(ss,sqf F xs)) 71 2 71 J J J J J)<|Ziw (Na 80 J Zg) (fun sd0 hsd=>?_)
 subst hsd
 refine Zf<|mv J<|tt (Kp (i:=70) (ivs:=[(0,_)]) (enc:=Gx) [(ss,sqf F xs)] K4 Ze3 ti23 K5 pS.cells K2 hw) fun v _=>Zo J<|Zd<|Za<|Zb<|Zn<|Px [] [(0,_),(1,_),(999,_),(2,_),(3,_)] (fun(q:List (SL×List Int)×SL×List Int×SL×List Int×Nat×Value)=>[(7,q.2.2.2.2.2.2),(6,svv q.2.2.2.1)]) (fun(q:List (SL×List Int)×SL×List Int×SL×List Int×Nat×Value)=>[(70,Lf 1 23 Gx q.2.2.2.2.2.2 (q.1 ++ [(q.2.1,q.2.2.1)])),(71,Cd qZ (q.1 ++ [(q.2.1,q.2.2.1)])),(80,Pw 2 wv (svv q.2.2.2.1) q.2.2.2.2.1)]) (fun(q:List (SL×List Int)×SL×List Int×SL×List Int×Nat×Value)=>(Vp q.2.2.1)∧(Vp q.2.2.2.2.1)∧(cok q.2.2.2.2.2.1 q.2.2.1 q.2.2.2.2.1)∧(q.1.map Prod.snd ++ Le q.2.2.2.2.2.1 q.2.2.1 q.2.2.2.2.1=chn F xs)∧(q.1.length+q.2.2.2.2.1.length≤25)) (fun(q:List (SL×List Int)×SL×List Int×SL×List Int×Nat×Value)=>q.2.2.2.2.1.length) ([],ss,sqf F xs,sd0,Yx (Xy (sqf F xs)),F,_) ⟨hvq,Ij hvqd,hC3,J,by rw [Yv];simp;have:=hvqd.len;omega⟩ K2 K8 ?_
 rintro⟨ws,sx,x,sd,y,f,vo⟩ ⟨hvx,hvy,hck,hch,hwl⟩
 dsimp only at hvx hvy hck hch hwl
 simp only [CA,NA]
 refine Zb<|Zb<|Zf<|mv J<|dt (Yc J J (i:=80) J Zg Xn)<|dt (Fd K3)<|Zd<|Za<|Zr J (fun h114=>?_) (fun h114=>?_)
 ·have hy0:y≠[]:=fun e=>by rw [e]at h114;simp at h114
  obtain⟨f0,rfl,hd,hle,hck2,hsc2⟩:=Zg6 hck hy0
  refine Zl<|Za<|Zn<|Zb<|Zf<|mv J<|mv J<|tt (Kp (i:=4) (ivs:=[(0,_)]) (enc:=Gx) [(sd,y)] K4 Ze3 ti23 K5 pS.cells K2 hw) fun v_2 _=>tt (Ho (i:=70) (j:=4) (by_:=24) J J J J J J (by decide) J (Yu pS) Ze3 ti23 J pS J J J (by simp;omega) (by decide) J hw) fun v_3 _=>Zo J<|Zd<|Za<|Zb ?_
  have hll:(ws ++ [(sx,x)] ++ [(sd,y)]).length=ws.length+2:=by simp
  refine Yl (Ot (q:=qZ) (z:=(sd,y)) 71 80 71 J J J J J)<|Yl (s_many (q:=qZ) 71 92 (sx,x) J J (by simp) J)<|Zf<|mv J<|mv J<|dt (Yc J J (i:=70) J (Yu pS) Ze3)<|dt (Pq K3)<|dt (Nj (ii:=70) (i:=ws.length) K4 (Yu pS) Ze3 sizeOf23)<|dt (Ej (r':=svv sx) (Ms (ii:=70) Z0 K3 (Yu pS) pS) (by simp [List.getD_eq_getElem?_getD])) ?_
  refine mv J<|tt (Yf (n:=80) (Yd6 _ _ _ _ hvx hvy hy0 hd hle) K5 call162 (Zi 92 K3 (Zi 80 K3 Ze)) J hw) fun _ _=>Yca (Na 80 J Zg) (fun sn hsn=>?_)
  subst hsn
  exact mv J<|dt (Xa K3)<|dt (Xa K3)<|Zo J<|Zo J<|Zd<|Za<|Zb<|Zf<|mv J<|dt (dF (Pk K3) (vB (by decide)))<|Zd<|Za<|Yk J<|Zl<|Qh<|Xg (ws ++ [(sx,x)],sd,y,sn,Lb x y,f0,_) ⟨hvy,Zju hvx hd,hck2,by rw [←hch,hsc2];simp,by have h7:=Oq x hy0;have h8:=Bs (y:=y) hvx.tr;simp;omega⟩ (by have h7:=Oq x hy0;have h8:=Bs (y:=y) hvx.tr;dsimp only;omega) K2 K8
 ·refine Yt<|Zv<|Zv<|Pd<|Za<|Zb ?_
  obtain rfl:y=[]:=List.eq_nil_of_length_eq_zero (by omega)
  exact Yl (Qw 70 J J pS)<|Yl (Lx 70 71 72 J J J J)<|Zf<|mv J<|Zo J<|Zo J<|Zd<|Za<|Zp<|Yr (.inl J) hsc (_,ws ++ [(sx,x)]) _ (fun a w hs=>Pz hs results118 J J) J (by rw [←hch,Ca];simp) J (Kg 72 K3 Zm)
theorem Zdz{c:Int} : c.sign<0↔c<0:=Qu c
abbrev RWL:=List (Bool×ByteArray)
def smallR(r:RWL):Bool:=decide (r.length≤8) && r.all fun c=>decide (c.2.size≤6)
noncomputable def Bg (r:RWL):List Int:=if h:okP r=true then(Ybm h).choose else []
theorem Zpm{r:RWL}(h:okP r=true):Vp (Bg r)∧r=(Bg r).map wr:=by
 unfold Bg;rw [dif_pos h];exact(Ybm h).choose_spec
noncomputable def bdE (r:RWL):Int:=if okP r=true then Zt9 (Bg r)else 2
noncomputable def bdZ (r:RWL):Int:=if bdE r=0 then sbound (Bg r)else 0
theorem Zux{r:RWL}(h:okP r=true)(v:Value)(w:World)(hh:(Pw 2 Zax v r).holds w):(Pw 2 wv v (Bg r)).holds w:=
 Zuw v (Bg r) w ((Zpm h).2▸hh)
theorem Yan{y:List Int}{c:Int}{n:Nat}(hn:y.length=n)(hc:c=cf y (n-1))(h:c.sign<0):Ea y=-c:=by
 subst hn;unfold Ea;rw [←hc,if_pos (Zdz.1 h)]
theorem Yam{y:List Int}{c:Int}{n:Nat}(hn:y.length=n)(hc:c=cf y (n-1))(h:¬c.sign<0):Ea y=c:=by
 subst hn;unfold Ea;rw [←hc,if_neg (fun h2=>h (Zdz.2 h2))]
theorem rb_n{x y:List Int}{c d:Int}{n m:Nat}(hn:y.length=n)(hm:x.length=m)(hc:c=cf y (n-1))(hd:d=cf x (m-1))(h:c.sign<0):rb x y=-d:=by
 subst hn hm;unfold rb;rw [←hc,if_pos (Zdz.1 h),hd]
theorem rb_p{x y:List Int}{c d:Int}{n m:Nat}(hn:y.length=n)(hm:x.length=m)(hc:c=cf y (n-1))(hd:d=cf x (m-1))(h:¬c.sign<0):rb x y=d:=by
 subst hn hm;unfold rb;rw [←hc,if_neg (fun h2=>h (Zdz.2 h2)),hd]
theorem Zxg(y:List Int):bl (Ea y).natAbs≤Pf y:=by
 have:=On y (y.length-1)
 unfold Ea;split
 ·rwa [Int.natAbs_neg]
 ·exact this
theorem bl_rb(x y:List Int):bl (rb x y).natAbs≤Pf x:=by
 have:=On x (x.length-1)
 unfold rb;split
 ·rwa [Int.natAbs_neg]
 ·exact this
theorem Zbz{p:List Int}{c:Int}{n m:Nat}(hp:Sz n p)(hc:bl c.natAbs≤m):Sz (n+m) (Xm p c):=fun i=>by
 rw [Qd];have h1:=Qb (cf p i) c;have h2:=hp i;omega
theorem Zzn{p q:List Int}{n:Nat}(hp:Sz n p)(hq:Sz n q):Sz (n+1) (Zat p q):=fun i=>by
 rw [Hy];have h1:=Cp (cf p i) (cf q i);have h2:=hp i;have h3:=hq i;omega
theorem sz_shm'{x y:List Int}{s i:Nat} : Sz (Pf x+Pf y) (shm y (rb x y) s i):=Zn1 fun t=>by
 have h1:=Qb (rb x y) (cf y t);have h2:=bl_rb x y;have h3:=On y t;omega
theorem Zm8(x y:List Int):Pf (Fm x y)≤Pf x+Pf y+1:=by
 refine Oc ?_
 unfold Fm
 exact Zzn (Zbz (On x) (Zxg y)) sz_shm'
theorem Zxz{x y:List Int}{f S:Nat}(hy0:0<y.length)(hle:y.length≤x.length)(hL:x.length<y.length+f)(hT:Tr x)(hS:Pf x+f*(Pf y+1)≤S) :
  ∃g,f=g+1∧Ff f x y=Ff g (Fm x y) y∧(Fm x y).length<y.length+g∧Tr (Fm x y)∧Pf (Fm x y)+g*(Pf y+1)≤S∧(Fm x y).length<x.length:=by
 obtain⟨g,rfl⟩:∃g,f=g+1:=⟨f-1,by omega⟩
 have h1:=Zgv hT hy0 hle
 have h2:=Zm8 x y
 refine⟨g,rfl,?_,by omega,Zdu _ _,?_,h1⟩
 ·rw [Ff,if_neg (by omega)]
 ·rw [Nat.succ_mul]at hS;omega
theorem Yae{x y:List Int}{f:Nat}(h:x.length<y.length):Ff f x y=x:=by
 cases f with
 | zero=>rfl
 | succ f=>rw [Ff,if_pos h]
theorem Zrm(y:List Int):∀(f:Nat) (x:List Int),Pf (Ff f x y)≤Pf x+f*(Pf y+1)
 | 0,x=>by rw [Ff];omega
 | f+1,x=>by
  rw [Ff]
  split
  ·omega
  ·have h1:=Zrm y f (Fm x y)
   have h2:=Zm8 x y
   rw [Nat.succ_mul];omega
theorem Cal.toS {P:Program} {f:FuncId} {args:Array Value} {pre:List Pc} {al:Bool} {φ:Value×List (Int×SL)→Prop}
  (h:Cal P f args pre al (G:=Value×List (Int×SL)) φ (fun r=>r.1) (fun r=>[pp r.1 r.2])) :
  Cal P f args pre al (G:=SL×List (Int×SL)) (fun r=>φ (svv r.1,r.2)) (fun r=>svv r.1) (fun r=>[pp (svv r.1) r.2]):=fun w hw=>by
 refine(h w hw).mono fun e w' ⟨g,he,hφ,hb,hi⟩=>?_
 obtain⟨v,z⟩:=g
 have h0:=(hi _ (List.mem_cons_self ..)).1
 obtain⟨ad,c,h1,_⟩:=Ye w' h0
 have h2:v=svv (ad,z.length,c):=h1
 subst h2
 exact⟨((ad,z.length,c),z),he,hφ,hb,hi⟩
abbrev qT (z:SL×List (Int×SL)):Pc:=pp (svv z.1) z.2
abbrev T0:SL×List (Int×SL):=((none,0,0),[])
abbrev Bk (zs:List (SL×List (Int×SL))):List (List Int):=zs.map fun z=>Zk z.2
def firstE(r:RWL)(x y x2 y2:Int):Int:=if okP r=true then(if r.length=0∨0<x*y2-x2*y then 3 else 0)else 2
theorem Zyu{z:List (SL×List (Int×SL))}{L:List (List Int)}(h:Bk z=L):z.length=L.length:=by rw [←h];simp
theorem Znp{n:Nat}(k:Nat)(h:(Xk n).size≤k):bl n≤8*k:=by
 have h1:=Kr n
 have h2:=Zcd n
 omega
theorem Zpu{n l x:Int}(h1:-1≤l)(h2:l≤1)(h3:-1≤x)(h4:x≤1):Mr (n,l) x=(if x*l<0 then n+1 else n,if x≠0 then x else l):=by
 obtain rfl | rfl | rfl:l=-1∨l=0∨l=1:=by omega
 all_goals obtain rfl | rfl | rfl:x=-1∨x=0∨x=1:=by omega
 all_goals simp [Mr]
theorem Zvk{n l x:Int}(h1:-1≤l)(h2:l≤1)(h3:-1≤x)(h4:x≤1)(ha:x*l<0)(hb:x≠0):Mr (n,l) x=(n+1,x):=by rw [Zpu h1 h2 h3 h4,if_pos ha,if_pos hb]
theorem Zvj{n l x:Int}(h1:-1≤l)(h2:l≤1)(h3:-1≤x)(h4:x≤1)(ha:x*l<0)(hb:¬x≠0):Mr (n,l) x=(n+1,l):=by rw [Zpu h1 h2 h3 h4,if_pos ha,if_neg hb]
theorem Zvi{n l x:Int}(h1:-1≤l)(h2:l≤1)(h3:-1≤x)(h4:x≤1)(ha:¬x*l<0)(hb:x≠0):Mr (n,l) x=(n,x):=by rw [Zpu h1 h2 h3 h4,if_neg ha,if_pos hb]
theorem Zvh{n l x:Int}(h1:-1≤l)(h2:l≤1)(h3:-1≤x)(h4:x≤1)(ha:¬x*l<0)(hb:¬x≠0):Mr (n,l) x=(n,l):=by rw [Zpu h1 h2 h3 h4,if_neg ha,if_neg hb]
theorem Zdw{l:List Int}{i:Nat}{n m:Int}(hi:i<l.length)(h:(n,m)=(l.take i).foldl Mr (0,0)):(l.take (i+1)).foldl Mr (0,0)=Mr (n,m) (l.getD i 0):=by
 rw [Nw 0 l i hi,Zce,h]
theorem mul_r{x m:Int}(h3:-1≤x)(h4:x≤1)(h1:-1≤m)(h2:m≤1):-9223372036854775808≤x*m∧x*m≤9223372036854775807:=by
 obtain rfl | rfl | rfl:m=-1∨m=0∨m=1:=by omega
 all_goals obtain rfl | rfl | rfl:x=-1∨x=0∨x=1:=by omega
 all_goals decide
theorem ev_b{p:List Int}{x y:Int}(hs:Sz 1000000 p)(hl:p.length≤30)(hx:bl x.natAbs≤1000000)(hy:bl y.natAbs≤1000000):bl (pev p x y).natAbs≤100000010:=
 Zpz (fun t _=>ev_tb hs (fun k=>Zb0 hx k) (fun k=>Zb0 hy k) hl t) (by omega)
theorem Zyt{z:List (SL×List (Int×SL))}{L:List (List Int)}(h:Bk z=L)(f:List Int→Int){i:Nat}(hi:i<z.length):(L.map f).getD i 0=f (Zk (z.getD i T0).2):=by
 subst h
 simp only [List.getD_eq_getElem?_getD,List.getElem?_map,List.getElem?_eq_getElem hi]
 rfl
def chke:Nat→Nat→Nat→Nat→Nat→Bool
 | 0,la,_,A,_=>Nat.ble (A+la*64) 65500
 | f+1,la,lb,A,B=>Nat.ble (A+la*64) 65500 && (Nat.beq lb 0 || (List.range lb).all fun l=>chke f lb l B (bif Nat.ble l 1 then 2 else A+(la-lb+1)*B))
inductive SV:List Int→List Int→Prop
 | one (a:Int):SV [a] [a]
 | step (a:Int) (r t:List Int):SV r t→SV (a :: r) (a :: t)
 | skip (a u w:Int) (r t:List Int):(a=1∨a=-1)→(-1≤u∧u≤1)→(-1≤w∧w≤1)→SV (-a :: r) (-a :: t)→SV (a :: u :: -a :: r) (a :: w :: -a :: t)
theorem Zno{s:Int×Int}{a u:Int}(ha:a=1∨a=-1)(hu:-1≤u∧u≤1):Mr (Mr (Mr s a) u) (-a)=Mr (Mr s a) (-a):=by
 obtain⟨n,l⟩:=s
 have h3:u=-1∨u=0∨u=1:=by omega
 rcases ha with rfl | rfl<;>rcases h3 with rfl | rfl | rfl<;>simp [Mr]
theorem SV.fold{a b:List Int}(h:SV a b):∀s,a.foldl Mr s=b.foldl Mr s:=by
 induction h with
 | one a=>intro s;rfl
 | step a r t _ ih=>intro s;exact ih (Mr s a)
 | skip a u w r t ha hu hw _ ih=>
  intro s
  show(r.foldl Mr (Mr (Mr (Mr s a) u) (-a)))=(t.foldl Mr (Mr (Mr (Mr s a) w) (-a)))
  rw [Zno ha hu,Zno ha hw]
  exact ih (Mr s a)
theorem SV.chg{a b:List Int}(h:SV a b):chg a=chg b:=congrArg Prod.fst (h.fold (0,0))
def Dd(x:Rat):Int:=if x<0 then -1 else if x=0 then 0 else 1
theorem Yac(x:Rat):-1≤Dd x∧Dd x≤1:=by unfold Dd;split;decide;split<;>decide
theorem Zaa{x:Rat}(h:0<x):Dd x=1:=by unfold Dd;rw [if_neg (by grind),if_neg (by grind)]
theorem Zab{x:Rat}(h:x<0):Dd x=-1:=by unfold Dd;rw [if_pos h]
def Big(η x:Rat)(f:Rat→Rat):Prop:=η<f x∨f x < -η
def Tri(η x:Rat):(Rat→Rat)→List (Rat→Rat)→Prop
 | _,[]=>True
 | _,[g]=>Big η x g
 | f,g :: k :: r=>(Big η x g∧Tri η x g (k :: r))∨(Big η x k∧f x*k x<0∧Tri η x k r)
def Near(η x y:Rat)(f:Rat→Rat):Prop:=f x-f y≤η∧f y-f x≤η
theorem Zp5{η x y:Rat}{f:Rat→Rat}(h0:0≤η)(h:Big η x f)(hn:Near η x y f):Dd (f x)=Dd (f y)∧(Dd (f x)=1∨Dd (f x)=-1):=by
 obtain⟨h1,h2⟩:=hn
 rcases h with h | h
 ·rw [Zaa (by grind),Zaa (by grind)];exact⟨rfl,.inl rfl⟩
 ·rw [Zab (by grind),Zab (by grind)];exact⟨rfl,.inr rfl⟩
theorem opp_sg{a b:Rat}(h:a*b<0):Dd b=- Dd a:=by
 rcases(show a<0∨a=0∨0<a by grind)with h1 | h1 | h1
 ·rw [Zab h1,Zaa (by
   rcases(show b≤0∨0<b by grind)with h2 | h2
   ·have:=Rat.mul_nonneg (a:=-a) (b:=-b) (by grind) (by grind);grind
   ·exact h2)];rfl
 ·subst h1;grind
 ·rw [Zaa h1,Zab (by
   rcases(show 0≤b∨b<0 by grind)with h2 | h2
   ·have:=Rat.mul_nonneg (a:=a) (b:=b) (by grind) h2;grind
   ·exact h2)]
theorem Zny{η x y:Rat}(h0:0≤η):∀(n:Nat) (f:Rat→Rat) (fs:List (Rat→Rat)),fs.length≤n→Big η x f→(∀g∈f :: fs,Near η x y g)→Tri η x f fs→
  SV ((f :: fs).map fun g=>Dd (g x)) ((f :: fs).map fun g=>Dd (g y))
 | _,f,[],_,hb,hn,_=>by
  have:=(Zp5 h0 hb (hn f (List.mem_cons_self ..))).1
  simp only [List.map_cons,List.map_nil,this]
  exact SV.one _
 | 0,f,g :: r,hl,_,_,_=>absurd hl (by simp)
 | n+1,f,[g],hl,hb,hn,ht=>by
  have h1:=(Zp5 h0 hb (hn f (List.mem_cons_self ..))).1
  have h2:=Zny h0 n g [] (by simp) ht (fun k hk=>hn k (List.mem_cons_of_mem _ hk)) trivial
  rw [List.map_cons,List.map_cons,h1]
  exact SV.step _ _ _ h2
 | n+1,f,g :: k :: r,hl,hb,hn,ht=>by
  have h1:=Zp5 h0 hb (hn f (List.mem_cons_self ..))
  rcases ht with⟨hg,ht⟩ | ⟨hk,ho,ht⟩
  ·have h2:=Zny h0 n g (k :: r) (by simp at hl ⊢;omega) hg (fun k hk=>hn k (List.mem_cons_of_mem _ hk)) ht
   rw [List.map_cons (l:=g :: k :: r),List.map_cons (l:=g :: k :: r),h1.1]
   exact SV.step _ _ _ h2
  ·have h2:=Zny h0 n k r (by simp at hl ⊢;omega) hk (fun j hj=>hn j (List.mem_cons_of_mem _ (List.mem_cons_of_mem _ hj))) ht
   have h3:=(Zp5 h0 hk (hn k (by simp))).1
   have h4:=opp_sg ho
   rw [List.map_cons (l:=r),List.map_cons (l:=r)]at h2
   simp only [List.map_cons]
   rw [←h3]at h2 ⊢
   rw [h4]at h2 ⊢
   rw [←h1.1]
   exact SV.skip _ _ _ _ _ h1.2 (Yac _) (Yac _) h2
structure Lnk (η x:Rat) (f g k:Rat→Rat):Prop where
 big:¬Big η x g→Big η x k
 opp:¬Big η x g→f x*k x<0
def Lnks(η x:Rat):(Rat→Rat)→List (Rat→Rat)→Prop
 | _,[]=>True
 | _,[g]=>Big η x g
 | f,g :: k :: r=>Lnk η x f g k∧Lnks η x g (k :: r)
theorem Zk1{η x:Rat} : ∀(n:Nat) (f:Rat→Rat) (fs:List (Rat→Rat)),fs.length≤n→Lnks η x f fs→Tri η x f fs
 | _,f,[],_,_=>trivial
 | 0,f,g :: r,hl,_=>absurd hl (by simp)
 | n+1,f,[g],_,h=>h
 | n+1,f,[g,k],hl,h=>by
  by_cases hg:Big η x g
  ·exact .inl ⟨hg,h.2⟩
  ·exact .inr ⟨h.1.big hg,h.1.opp hg,trivial⟩
 | n+1,f,g :: k :: j :: r,hl,h=>by
  by_cases hg:Big η x g
  ·exact .inl ⟨hg,Zk1 n g (k :: j :: r) (by simp at hl ⊢;omega) h.2⟩
  ·exact .inr ⟨h.1.big hg,h.1.opp hg,Zk1 n k (j :: r) (by simp at hl ⊢;omega) h.2.2⟩
def Rl3(s t:Rat)(f g k:Rat→Rat):Prop:=∃m n Q:Rat,0<m∧0<n∧0<Q∧∀x,s≤x→x≤t→∃q,-Q≤q∧q≤Q∧m*f x=q*g x-n*k x
def Rl2(s t:Rat)(f g:Rat→Rat):Prop:=∃m Q:Rat,0<m∧0<Q∧∀x,s≤x→x≤t→∃q,-Q≤q∧q≤Q∧m*f x=q*g x
def Rls(s t:Rat):(Rat→Rat)→List (Rat→Rat)→Prop
 | _,[]=>True
 | f,[g]=>Rl2 s t f g
 | f,g :: k :: r=>Rl3 s t f g k∧Rls s t g (k :: r)
theorem Zcq{q Q g e:Rat}(h1:-Q≤q)(h2:q≤Q)(h3:-e≤g)(h4:g≤e)(hQ:0≤Q):q*g≤Q*e∧-(Q*e)≤q*g:=by
 have a:=Rat.mul_nonneg (a:=Q-q) (b:=e+g) (by grind) (by grind)
 have b:=Rat.mul_nonneg (a:=Q+q) (b:=e-g) (by grind) (by grind)
 have c:=Rat.mul_nonneg (a:=Q-q) (b:=e-g) (by grind) (by grind)
 have d:=Rat.mul_nonneg (a:=Q+q) (b:=e+g) (by grind) (by grind)
 constructor<;>grind
theorem Zea{η x:Rat}{g:Rat→Rat}(h:¬Big η x g):-η≤g x∧g x≤η:=by
 unfold Big at h;constructor<;>grind
theorem Zuf{η ε x:Rat}{g:Rat→Rat}(h:η≤ε)(hb:Big ε x g):Big η x g:=by
 unfold Big at *;grind
theorem Gs{ε a b:Rat}(h:0<ε)(ha:0<a)(hb:0<b):∃e:Rat,0<e∧e≤ε∧e*a≤b:=by
 have h1:0<b*a⁻¹:=Rat.mul_pos hb (Rat.inv_pos.2 ha)
 have h2:b*a⁻¹*a=b:=by grind
 rcases(show ε≤b*a⁻¹∨b*a⁻¹≤ε by grind)with h3 | h3
 ·exact⟨ε,h,by grind,by have:=Rat.mul_le_mul_of_nonneg_right h3 (show 0≤a by grind);grind⟩
 ·exact⟨b*a⁻¹,h1,h3,by grind⟩
theorem pair3{s t ε:Rat}{f g k:Rat→Rat}(h:Rl3 s t f g k)(he:0<ε)(hp:∀x,s≤x→x≤t→Big ε x f∨Big ε x g) :
  ∃e,0<e∧(∀x,s≤x→x≤t→Big e x g∨Big e x k)∧∀η,0<η→η≤e→∀x,s≤x→x≤t→Lnk η x f g k:=by
 obtain⟨m,n,Q,hm,hn,hQ,hr⟩:=h
 obtain⟨e,e1,e2,e3⟩:=Gs he (show 0<Q+n by grind) (Rat.mul_pos hm he)
 have key:∀η,0<η→η≤e→∀x,s≤x→x≤t→¬Big η x g→Big η x k∧f x*k x<0:=fun η h1 h2 x hs ht hg=>by
  obtain⟨q,q1,q2,q3⟩:=hr x hs ht
  obtain⟨g1,g2⟩:=Zea hg
  obtain⟨p1,p2⟩:=Zcq q1 q2 g1 g2 (by grind)
  have hf:Big ε x f:=(hp x hs ht).resolve_right fun h=>hg (Zuf (by grind) h)
  have c1:η*(Q+n)≤m*ε:=by
   have:=Rat.mul_le_mul_of_nonneg_right h2 (show 0≤Q+n by grind);grind
  have c2:0<η*n:=Rat.mul_pos h1 hn
  rcases hf with hf | hf
  ·have d1:m*ε<m*f x:=by have:=Rat.mul_pos hm (show 0<f x-ε by grind);grind
   have d2:n*k x < - (n*η):=by grind
   have d3:k x < -η:=by
    rcases(show k x < -η∨-η≤k x by grind)with h9 | h9
    ·exact h9
    ·have:=Rat.mul_nonneg (a:=n) (b:=k x+η) (by grind) (by grind);grind
   refine⟨.inr d3,?_⟩
   have:=Rat.mul_pos (a:=f x) (b:=- k x) (by grind) (by grind);grind
  ·have d1:m*f x < - (m*ε):=by have:=Rat.mul_pos hm (show 0 < -ε-f x by grind);grind
   have d2:n*η<n*k x:=by grind
   have d3:η<k x:=by
    rcases(show η<k x∨k x≤η by grind)with h9 | h9
    ·exact h9
    ·have:=Rat.mul_nonneg (a:=n) (b:=η-k x) (by grind) (by grind);grind
   refine⟨.inl d3,?_⟩
   have:=Rat.mul_pos (a:=- f x) (b:=k x) (by grind) (by grind);grind
 refine⟨e,e1,fun x hs ht=>?_,fun η h1 h2 x hs ht=>⟨fun hg=>(key η h1 h2 x hs ht hg).1,fun hg=>(key η h1 h2 x hs ht hg).2⟩⟩
 by_cases hg:Big e x g
 ·exact .inl hg
 ·exact .inr (key e e1 (by grind) x hs ht hg).1
theorem pair2{s t ε:Rat}{f g:Rat→Rat}(h:Rl2 s t f g)(he:0<ε)(hp:∀x,s≤x→x≤t→Big ε x f∨Big ε x g) :
  ∃e,0<e∧∀η,0<η→η≤e→∀x,s≤x→x≤t→Big η x g:=by
 obtain⟨m,Q,hm,hQ,hr⟩:=h
 obtain⟨e,e1,e2,e3⟩:=Gs he hQ (Rat.mul_pos hm he)
 refine⟨e,e1,fun η h1 h2 x hs ht=>?_⟩
 by_cases hg:Big η x g
 ·exact hg
 ·exfalso
  obtain⟨q,q1,q2,q3⟩:=hr x hs ht
  obtain⟨g1,g2⟩:=Zea hg
  obtain⟨p1,p2⟩:=Zcq q1 q2 g1 g2 (by grind)
  have hf:Big ε x f:=(hp x hs ht).resolve_right fun h=>hg (Zuf (by grind) h)
  have c1:η*Q≤m*ε:=by
   have:=Rat.mul_le_mul_of_nonneg_right h2 (show 0≤Q by grind);grind
  rcases hf with hf | hf
  ·have:=Rat.mul_pos hm (show 0<f x-ε by grind);grind
  ·have:=Rat.mul_pos hm (show 0 < -ε-f x by grind);grind
theorem Zrp{s t:Rat} : ∀(n:Nat) (f:Rat→Rat) (fs:List (Rat→Rat)) (ε:Rat),fs.length≤n→Rls s t f fs→0<ε→(∀g r,fs=g :: r→∀x,s≤x→x≤t→Big ε x f∨Big ε x g)→
  ∃e,0<e∧∀η,0<η→η≤e→∀x,s≤x→x≤t→Lnks η x f fs
 | _,f,[],ε,_,_,he,_=>⟨ε,he,fun _ _ _ _ _ _=>trivial⟩
 | 0,f,g :: r,ε,hl,_,_,_=>absurd hl (by simp)
 | n+1,f,[g],ε,_,h,he,hp=>pair2 h he (hp g [] rfl)
 | n+1,f,g :: k :: r,ε,hl,h,he,hp=>by
  obtain⟨e,e1,e2,e3⟩:=pair3 h.1 he (hp g (k :: r) rfl)
  obtain⟨e',e1',e2'⟩:=Zrp n g (k :: r) e (by simp at hl ⊢;omega) h.2 e1 (fun k' r' heq=>by
   injection heq with h1 h2;subst h1;exact e2)
  rcases(show e≤e'∨e'≤e by grind)with h9 | h9
  ·exact⟨e,e1,fun η h1 h2 x hs ht=>⟨e3 η h1 h2 x hs ht,e2' η h1 (by grind) x hs ht⟩⟩
  ·exact⟨e',e1',fun η h1 h2 x hs ht=>⟨e3 η h1 (by grind) x hs ht,e2' η h1 h2 x hs ht⟩⟩
def Lip(s t L:Rat)(f:Rat→Rat):Prop:=∀x y,s≤x→x≤y→y≤t→f x-f y≤L*(y-x)∧f y-f x≤L*(y-x)
def vat(fs:List (Rat→Rat))(x:Rat):Int:=chg (fs.map fun g=>Dd (g x))
theorem Yd5{s t L δ:Rat}{f:Rat→Rat}{fs:List (Rat→Rat)}(hL:0<L)(hl:∀g∈f :: fs,Lip s t L g)(hd:0<δ)(hb:∀x,s≤x→x≤t→Big δ x f)(hr:Rls s t f fs) :
  ∃h,0<h∧∀x y,s≤x→x≤y→y≤t→y-x≤h→vat (f :: fs) x=vat (f :: fs) y:=by
 obtain⟨e,e1,e2⟩:=Zrp fs.length f fs δ (Nat.le_refl _) hr hd (fun g r _ x hs ht=> .inl (hb x hs ht))
 obtain⟨η,n1,n2,n3⟩:=Gs hd (show(0:Rat)<1 by decide) e1
 obtain⟨h,h1,h2,h3⟩:=Gs n1 hL n1
 refine⟨h,h1,fun x y hx hxy hy hh=>SV.chg ?_⟩
 refine Zny (by grind) fs.length f fs (Nat.le_refl _) (Zuf (by grind) (hb x hx (by grind))) (fun g hg=>?_) (Zk1 _ _ _ (Nat.le_refl _) (e2 η n1 (by grind) x hx (by grind)))
 obtain⟨a,b⟩:=hl g hg x y hx hxy hy
 have:=Rat.mul_le_mul_of_nonneg_right hh (show 0≤L by grind)
 exact⟨by grind,by grind⟩
theorem Zxo{s t L δ:Rat}{f:Rat→Rat}{fs:List (Rat→Rat)}(hL:0<L)(hl:∀g∈f :: fs,Lip s t L g)(hd:0<δ)(hb:∀x,s≤x→x≤t→Big δ x f)(hr:Rls s t f fs)(hst:s≤t) :
  vat (f :: fs) s=vat (f :: fs) t:=by
 obtain⟨h,h1,h2⟩:=Yd5 hL hl hd hb hr
 have key:∀n:Nat,∀y,s≤y→y≤t→y-s≤(n:Rat)*h→vat (f :: fs) s=vat (f :: fs) y:=fun n=>by
  induction n with
  | zero=>
    intro y h3 h4 h5;have:y=s:=by simp at h5;grind
    rw [this]
  | succ n ih=>
   intro y h3 h4 h5
   have h6:((n+1:Nat):Rat)*h=(n:Rat)*h+h:=by push_cast;grind
   rcases(show y-s≤(n:Rat)*h∨(n:Rat)*h<y-s by grind)with h7 | h7
   ·exact ih y h3 h4 h7
   ·have h8:(0:Rat)≤(n:Rat)*h:=Rat.mul_nonneg (by exact_mod_cast Nat.zero_le n) (by grind)
    rcases(show s≤y-h∨y-h<s by grind)with h9 | h9
    ·rw [ih (y-h) h9 (by grind) (by grind)]
     exact h2 (y-h) y h9 (by grind) h4 (by grind)
    ·exact h2 s y (by grind) h3 h4 (by grind)
 have h3:∃n:Nat,t-s≤(n:Rat)*h:=by
  have h4:0<h⁻¹:=Rat.inv_pos.2 h1
  refine⟨((t-s)*h⁻¹).ceil.toNat,?_⟩
  have h5:=@Rat.le_ceil ((t-s)*h⁻¹)
  have h6:((((t-s)*h⁻¹).ceil:Int):Rat)≤((((t-s)*h⁻¹).ceil.toNat:Nat):Rat):=by
   have:((t-s)*h⁻¹).ceil≤((((t-s)*h⁻¹).ceil.toNat:Nat):Int):=Int.self_le_toNat _
   exact_mod_cast this
  have h7:=Rat.mul_le_mul_of_nonneg_right (Rat.le_trans h5 h6) (show 0≤h by grind)
  have h8:(t-s)*h⁻¹*h=t-s:=by grind
  grind
 obtain⟨n,hn⟩:=h3
 exact key n t hst (by grind) hn
def Zu:List Int→Rat→Rat
 | [],_=>0
 | c :: p,x=>(c:Rat)+x*Zu p x
theorem Yfm(s t:Rat):∃K:Rat,0<K∧∀x,s≤x→x≤t→-K≤x∧x≤K:=by
 rcases(show(0≤s∨s<0) by grind)with h | h<;>rcases(show(0≤t∨t<0) by grind)with h' | h'
 ·exact⟨t+1,by grind,fun x _ _=>by grind⟩
 ·exact⟨1,by grind,fun x _ _=>by grind⟩
 ·exact⟨t-s+1,by grind,fun x _ _=>by grind⟩
 ·exact⟨-s+1,by grind,fun x _ _=>by grind⟩
theorem Zqz(s t:Rat):∀p:List Int,∃B:Rat,0<B∧∀x,s≤x→x≤t→-B≤Zu p x∧Zu p x≤B
 | []=>⟨1,by decide,fun x _ _=>by unfold Zu;grind⟩
 | c :: p=>by
  obtain⟨B,b1,b2⟩:=Zqz s t p
  obtain⟨K,k1,k2⟩:=Yfm s t
  obtain⟨C,c1,c2⟩:=Yfm (c:Rat) (c:Rat)
  have hc:=c2 (c:Rat) (by grind) (by grind)
  refine⟨C+K*B,by have:=Rat.mul_pos k1 b1;grind,fun x hs ht=>?_⟩
  obtain⟨d1,d2⟩:=b2 x hs ht
  obtain⟨e1,e2⟩:=k2 x hs ht
  obtain⟨f1,f2⟩:=Zcq e1 e2 d1 d2 (by grind)
  unfold Zu
  constructor<;>grind
theorem Bq(s t:Rat):∀p:List Int,∃L:Rat,0<L∧Lip s t L (Zu p)
 | []=>⟨1,by decide,fun x y _ _ _=>by unfold Zu;constructor<;>grind⟩
 | c :: p=>by
  obtain⟨L,l1,l2⟩:=Bq s t p
  obtain⟨B,b1,b2⟩:=Zqz s t p
  obtain⟨K,k1,k2⟩:=Yfm s t
  refine⟨K*L+B,by have:=Rat.mul_pos k1 l1;grind,fun x y hs hxy ht=>?_⟩
  obtain⟨a1,a2⟩:=l2 x y hs hxy ht
  obtain⟨d1,d2⟩:=b2 y (by grind) ht
  obtain⟨e1,e2⟩:=k2 x hs (by grind)
  obtain⟨f1,f2⟩:=Zcq (q:=x) (g:=Zu p x-Zu p y) (e:=L*(y-x)) e1 e2 (by grind) (by grind) (by grind)
  have g1:=Rat.mul_nonneg (a:=B-Zu p y) (b:=y-x) (by grind) (by grind)
  have g2:=Rat.mul_nonneg (a:=B+Zu p y) (b:=y-x) (by grind) (by grind)
  unfold Zu
  constructor<;>grind
theorem Zke(x:Rat):∀q:List Int,(∀i,cf q i=0)→Zu q x=0
 | [],_=>rfl
 | c :: q,h=>by
  have h0:c=0:=h 0
  have h1:=Zke x q fun i=>h (i+1)
  unfold Zu;rw [h1,h0];grind
theorem Kd(x:Rat):∀p q:List Int,(∀i,cf p i=cf q i)→Zu p x=Zu q x
 | [],q,h=>by rw [Zke x q fun i=>(h i).symm.trans (Xt (Nat.zero_le _))];rfl
 | c :: p,[],h=>by rw [Zke x (c :: p) fun i=>(h i).trans (Xt (Nat.zero_le _))];rfl
 | c :: p,d :: q,h=>by
  have h0:c=d:=h 0
  have h1:=Kd x p q fun i=>h (i+1)
  unfold Zu;rw [h1,h0]
def Ko:List Int→List Int→List Int
 | [],q=>q
 | p,[]=>p
 | a :: p,b :: q=>(a+b) :: Ko p q
theorem Zry(p:List Int):Ko p []=p:=by cases p<;>rfl
theorem Qz(x:Rat):∀p q:List Int,Zu (Ko p q) x=Zu p x+Zu q x
 | [],q=>by unfold Ko;show Zu q x=0+Zu q x;grind
 | a :: p,[]=>by rw [Zry];show Zu (a :: p) x=Zu (a :: p) x+0;grind
 | a :: p,b :: q=>by
  have h:=Qz x p q
  unfold Ko Zu;rw [h];push_cast;grind
theorem Hb:∀(p q:List Int) (i:Nat),cf (Ko p q) i=cf p i+cf q i
 | [],q,i=>by unfold Ko;rw [show cf [] i=0 from Xt (Nat.zero_le _)];omega
 | a :: p,[],i=>by rw [Zry,show cf [] i=0 from Xt (Nat.zero_le _)];omega
 | a :: p,b :: q,0=>rfl
 | a :: p,b :: q,i+1=>Hb p q i
theorem Yn(x:Rat)(c:Int):∀p:List Int,Zu (p.map fun a=>c*a) x=(c:Rat)*Zu p x
 | []=>by show(0:Rat)=c*0;grind
 | a :: p=>by
  have h:=Yn x c p
  simp only [List.map_cons];unfold Zu;rw [h];push_cast;grind
theorem Og(c:Int):∀(p:List Int) (i:Nat),cf (p.map fun a=>c*a) i=c*cf p i
 | [],i=>by simp [cf]
 | a :: p,0=>rfl
 | a :: p,i+1=>Og c p i
def Nb:List Int→List Int→List Int
 | [],_=>[]
 | c :: p,q=>Ko (q.map fun a=>c*a) (0 :: Nb p q)
theorem Xe(x:Rat):∀p q:List Int,Zu (Nb p q) x=Zu p x*Zu q x
 | [],q=>by show(0:Rat)=0*Zu q x;grind
 | c :: p,q=>by
  have h:=Xe x p q
  unfold Nb;rw [Qz,Yn]
  show(c:Rat)*Zu q x+(((0:Int):Rat)+x*Zu (Nb p q) x)=((c:Rat)+x*Zu p x)*Zu q x
  rw [h];grind
theorem Dn:∀(p q:List Int) (i:Nat),cf (Nb p q) i=Qi (fun k=>cf p k*cf q (i-k)) (i+1)
 | [],q,i=>by
  rw [show cf (Nb [] q) i=0 from Xt (Nat.zero_le _)]
  exact(Fv fun k _=>by rw [show cf [] k=0 from Xt (Nat.zero_le _),Int.zero_mul]).symm
 | c :: p,q,0=>by
  unfold Nb;rw [Hb,Og,Qf,Dx]
  show c*cf q 0+0=0+c*cf q 0
  omega
 | c :: p,q,i+1=>by
  have h:=Dn p q i
  unfold Nb;rw [Hb,Og,Gp]
  show c*cf q (i+1)+cf (Nb p q) i=c*cf q (i+1)+_
  rw [h]
  congr 1
  refine Xx fun k hk=>?_
  show cf p k*cf q (i-k)=cf p k*cf q (i+1-(k+1))
  rw [show i+1-(k+1)=i-k by omega]
theorem Ck{a c:Int}{x s y z:List Int}(h:∀t,a*cf x t=(ps s*ps y).c t-c*cf z t)(q:Rat):(a:Rat)*Zu x q=Zu s q*Zu y q-(c:Rat)*Zu z q:=by
 have h1:∀t,cf (Ko (x.map fun b=>a*b) (z.map fun b=>c*b)) t=cf (Nb s y) t:=fun t=>by
  rw [Hb,Og,Og,Dn,h t,PS.mul_c]
  show Qi (fun k=>cf s k*cf y (t-k)) (t+1)-c*cf z t+c*cf z t=_
  omega
 have h2:=Kd q _ _ h1
 rw [Qz,Yn,Yn,Xe]at h2
 grind
theorem Zx1{s t:Rat}{x y:List Int}(hx:Tr x)(hy:Tr y)(h0:y≠[])(hl:y.length≤x.length):Rl3 s t (Zu x) (Zu y) (Zu (Lb x y)):=by
 have l0:=List.length_pos_iff.2 h0
 obtain⟨r1,r2,k,u,hk⟩:=Zb3 hy h0 x.length x hx (by omega)
 have hs:=Zdy (f:=x.length) hx hy h0 hl (by omega)
 have htn:Tr (Zfa (Ff x.length x y)):=Ob _ _
 obtain⟨m,n,hm,hn,hp⟩:=Ze9 htn
 rw [hs]at hp
 have hK:0<Ea y^k:=Int.pow_pos (Zgf hy h0)
 obtain⟨B,b1,b2⟩:=Zqz s t u
 have hm':(0:Rat)<(m:Rat):=by exact_mod_cast hm
 have hn':(0:Rat)<(n:Rat):=by exact_mod_cast hn
 have hK':(0:Rat)<((Ea y^k:Int):Rat):=by exact_mod_cast hK
 refine⟨(n:Rat)*((Ea y^k:Int):Rat),(m:Rat),(n:Rat)*B,Rat.mul_pos hn' hK',hm',Rat.mul_pos hn' b1,fun q hq1 hq2=>⟨(n:Rat)*Zu u q,?_,?_,?_⟩⟩
 ·have:=Rat.mul_nonneg (a:=(n:Rat)) (b:=Zu u q+B) (by grind) (by have:=b2 q hq1 hq2;grind);grind
 ·have:=Rat.mul_nonneg (a:=(n:Rat)) (b:=B-Zu u q) (by grind) (by have:=b2 q hq1 hq2;grind);grind
 ·have e1:=Ck (a:=Ea y^k) (c:=-1) (x:=x) (s:=u) (y:=y) (z:=Ff x.length x y) (fun t=>by rw [hk t];omega) q
  have e2:Zu ((Lb x y).map fun b=>m*b) q=Zu ((Ff x.length x y).map fun b=>(-n)*b) q:=Kd q _ _ fun i=>by
   rw [Og,Og,hp i,Cn,Int.mul_neg,Int.neg_mul]
  rw [Yn,Yn]at e2
  push_cast at e1 e2 ⊢
  grind
theorem rl2_of{s t:Rat}{f g:Rat→Rat}(h:Rl3 s t f g (Zu [])):Rl2 s t f g:=by
 obtain⟨m,n,Q,hm,hn,hQ,hr⟩:=h
 refine⟨m,Q,hm,hQ,fun x h1 h2=>?_⟩
 obtain⟨q,q1,q2,q3⟩:=hr x h1 h2
 refine⟨q,q1,q2,?_⟩
 have:Zu [] x=0:=rfl
 rw [this]at q3;grind
theorem Zmx{s t:Rat} : ∀(f:Nat) (a b:List Int),Tr a→Tr b→cok f a b→∃r,Le f a b=a :: r∧Rls s t (Zu a) (r.map Zu)∧(b=[]→r=[])∧(b≠[]→∃r',r=b :: r'):=fun f=>by
 induction f with
 | zero=>
  intro a b ha hb h
  have h0:b=[]:=h
  subst h0
  exact⟨[],rfl,trivial,fun _=>rfl,fun h=>absurd rfl h⟩
 | succ f ih=>
  intro a b ha hb h
  by_cases h0:b=[]
  ·subst h0
   exact⟨[],Ca _ _,trivial,fun _=>rfl,fun h=>absurd rfl h⟩
  ·obtain⟨g,hg,hd,hle,hc,hs⟩:=Zg6 h h0
   obtain rfl:f=g:=by omega
   obtain⟨r,h1,h2,h3,h4⟩:=ih b (Lb a b) hb (Zcy ha) hc
   have hR:=Zx1 (s:=s) (t:=t) ha hb h0 hle
   refine⟨b :: r,by rw [hs,h1],?_,fun h=>absurd h h0,fun _=>⟨r,rfl⟩⟩
   by_cases hz:Lb a b=[]
   ·rw [h3 hz]
    rw [hz]at hR
    exact rl2_of hR
   ·obtain⟨r',rfl⟩:=h4 hz
    exact⟨hR,h2⟩
theorem Zrq{s t L M:Rat}{f:Rat→Rat}(h:L≤M)(hf:Lip s t L f):Lip s t M f:=fun x y h1 h2 h3=>by
 obtain⟨a,b⟩:=hf x y h1 h2 h3
 have:=Rat.mul_le_mul_of_nonneg_right h (show 0≤y-x by grind)
 constructor<;>grind
theorem Zv9(s t:Rat):∀ls:List (List Int),∃L:Rat,0<L∧∀g∈ls.map Zu,Lip s t L g
 | []=>⟨1,by decide,fun g hg=>by cases hg⟩
 | p :: ls=>by
  obtain⟨L,l1,l2⟩:=Zv9 s t ls
  obtain⟨M,m1,m2⟩:=Bq s t p
  refine⟨L+M,by grind,fun g hg=>?_⟩
  rw [List.map_cons]at hg
  rcases List.mem_cons.1 hg with rfl | hg
  ·exact Zrq (by grind) m2
  ·exact Zrq (by grind) (l2 g hg)
theorem Zf8{s t δ:Rat}{f:Nat}{a b:List Int}(ha:Tr a)(hb:Tr b)(hc:cok f a b)(hst:s≤t)(hd:0<δ)(hB:∀x,s≤x→x≤t→Big δ x (Zu a)) :
  vat ((Le f a b).map Zu) s=vat ((Le f a b).map Zu) t:=by
 obtain⟨r,h1,h2,_,_⟩:=Zmx (s:=s) (t:=t) f a b ha hb hc
 obtain⟨L,l1,l2⟩:=Zv9 s t (Le f a b)
 rw [h1]at l2 ⊢
 exact Zxo l1 l2 hd hB h2 hst
def alt:List Int→List Int
 | []=>[]
 | c :: p=>c :: (alt p).map fun a=>-1*a
theorem Ybd(c:Int)(p:List Int)(X Y:Int)(h:p≠[]):pev (c :: p) X Y=c*Y^p.length+X*pev p X Y:=by
 have hl:=List.length_pos_iff.2 h
 unfold pev
 rw [List.length_cons,Gp,←Mn]
 congr 1
 ·show c*(X^0*Y^(p.length+1-1-0))=_
  rw [Int.pow_zero,Int.one_mul,show p.length+1-1-0=p.length by omega]
 ·refine Xx fun i hi=>?_
  show cf p i*(X^(i+1)*Y^(p.length+1-1-(i+1)))=X*(cf p i*(X^i*Y^(p.length-1-i)))
  rw [show p.length+1-1-(i+1)=p.length-1-i by omega,Int.pow_succ]
  grind
theorem Zvt{X Y:Int}(hY:0<Y):∀p:List Int,((pev p X Y:Int):Rat)=Zu p ((X:Rat)/(Y:Rat))*(Y:Rat)^(p.length-1)
 | []=>by show(0:Rat)=0*_;grind
 | [c]=>by
  have:pev [c] X Y=c:=by unfold pev;show 0+c*(X^0*Y^0)=c;rw [Int.pow_zero,Int.pow_zero];omega
  rw [this];show(c:Rat)=(c+X/Y*0)*(Y:Rat)^0;rw [Rat.pow_zero];grind
 | c :: d :: p=>by
  have h:=Zvt (X:=X) hY (d :: p)
  rw [Ybd c (d :: p) X Y (by simp)]
  have hy:(Y:Rat)≠0:=by
    have:(0:Rat)<(Y:Rat):=by exact_mod_cast hY
    grind
  push_cast
  rw [h]
  show(c:Rat)*(Y:Rat)^(p.length+1)+X*(Zu (d :: p) (X/Y)*(Y:Rat)^(p.length+1-1))=((c:Rat)+X/Y*Zu (d :: p) (X/Y))*(Y:Rat)^(p.length+1+1-1)
  rw [show p.length+1-1=p.length by omega,show p.length+1+1-1=p.length+1 by omega,Rat.pow_succ]
  generalize Zu (d :: p) (X/Y)=R
  generalize (Y:Rat)^p.length=P
  have:(X:Rat)/Y*Y=X:=by grind
  grind
theorem Zz0{z:Int}{r q:Rat}(hq:0<q)(h:(z:Rat)=r*q):z.sign=Dd r:=by
 rcases(show r<0∨r=0∨0<r by grind)with h1 | h1 | h1
 ·rw [Zab h1]
  have:=Rat.mul_pos (a:=-r) (b:=q) (by grind) hq
  have h2:(z:Rat)<0:=by grind
  have h3:z<0:=by exact_mod_cast h2
  exact Int.sign_eq_neg_one_of_neg h3
 ·subst h1
  have h2:(z:Rat)=0:=by grind
  have h3:z=0:=by exact_mod_cast h2
  subst h3;rfl
 ·rw [Zaa h1]
  have:=Rat.mul_pos h1 hq
  have h2:(0:Rat)<z:=by grind
  have h3:0<z:=by exact_mod_cast h2
  exact Int.sign_eq_one_of_pos h3
theorem Zeg{X Y:Int}(hY:0<Y)(p:List Int):fat X Y p=Dd (Zu p ((X:Rat)/(Y:Rat))):=by
 have:(0:Rat)<(Y:Rat):=by exact_mod_cast hY
 exact Zz0 (Rat.pow_pos this) (Zvt hY p)
theorem Yel{xs:List Int}{F:Nat}(hx:Tr xs)(h0:xs≠[])(hok:eok F (gA (Qa xs) (Xy (Qa xs))) (gB (Qa xs) (Xy (Qa xs)))):∃g:List Int,∀x,Zu xs x=Zu (sqf F xs) x*Zu g x:=by
 obtain⟨f1,f2,f3,f4,f5,f6⟩:=Mf (F:=F) hx h0 hok
 have hk:∃k:Int,∀i,cf xs i=k*cf (Qa xs) i:=by
  unfold Qa Kk
  split
  ·refine⟨-Qc xs,fun i=>?_⟩
   rw [Qd,←Eo xs i];grind
  ·refine⟨Qc xs,fun i=>?_⟩
   rw [←Eo xs i];grind
 obtain⟨k,hk⟩:=hk
 refine⟨(Mp F (Qa xs) (Xy (Qa xs))).map fun a=>k*a,fun x=>?_⟩
 have h1:Zu (Qa xs) x=Zu (sqf F xs) x*Zu (Mp F (Qa xs) (Xy (Qa xs))) x:=by
  have:=Ck (a:=1) (c:=0) (x:=Qa xs) (s:=sqf F xs) (y:=Mp F (Qa xs) (Xy (Qa xs))) (z:=[]) (fun t=>by
   have h2:=Fa (sqf F xs) (Mp F (Qa xs) (Xy (Qa xs))) t
   rw [←f4]at h2
   rw [h2];omega) x
  push_cast at this
  grind
 have h2:Zu xs x=Zu ((Qa xs).map fun a=>k*a) x:=Kd x _ _ fun i=>by rw [Og];exact hk i
 rw [h2,Yn,Yn,h1];grind
theorem Ydt{ls:List (List Int)}{x:Rat}{f:List Int→Int}(h:∀p∈ls,Dd (Zu p x)=f p):vat (ls.map Zu) x=chg (ls.map f):=by
 unfold vat
 rw [List.map_map]
 exact congrArg chg (List.map_congr_left fun p hp=>h p hp)
theorem Yf9{F:Nat}{xs:List Int}{X Y:Int}(hY:0<Y):cnt F xs X Y=vat ((chn F xs).map Zu) ((X:Rat)/(Y:Rat)):=
 (Ydt fun p _=>(Zeg hY p).symm).symm
theorem Zwg(t:Int):∀p:List Int,Zu p (t:Rat)=((Ay p t:Int):Rat)
 | []=>rfl
 | c :: p=>by
  have h:=Zwg t p
  rw [show Zu (c :: p) (t:Rat)=(c:Rat)+(t:Rat)*Zu p (t:Rat)from rfl,show Ay (c :: p) t=c+t*Ay p t from rfl,h];push_cast;rfl
theorem Zvf{p:List Int}(h:∀x:Rat,Zu p x=0)(i:Nat):cf p i=0:=by
 by_cases h0:cf p i=0
 ·exact h0
 ·exfalso
  have:=Zkc p.length p ((List.range p.length).map fun n:Nat=>(n:Int)) rfl ⟨i,h0⟩ (by
   refine List.Pairwise.map _ (fun a b hab=>?_) List.nodup_range
   intro e;exact hab (by exact_mod_cast e)) (fun t ht=>by
   have h1:=Zwg t p
   rw [h]at h1
   exact_mod_cast h1.symm)
  simp at this
theorem Lp{p q:List Int}(h:∀x:Rat,Zu p x=Zu q x)(i:Nat):cf p i=cf q i:=by
 have h1:=Zvf (p:=Ko p (q.map fun a=>(-1)*a)) (fun x=>by rw [Qz,Yn,h x];push_cast;grind) i
 rw [Hb,Og]at h1;omega
theorem Kf(p:List Int)(x:Rat):Zu (tzl p) x=Zu p x:=Kd x _ _ fun i=>Ki p i
theorem Xo(p q:List Int)(x:Rat):Zu (Oo p q) x=Zu p x*Zu q x:=by
 rw [←Xe];exact Kd x _ _ fun i=>by rw [Fa,Dn,PS.mul_c];rfl
theorem Nn(c:Int)(x:Rat):Zu [c] x=(c:Rat):=by show(c:Rat)+x*0=c;grind
def ld:List Int→List Int
 | []=>[]
 | _ :: p=>Ko p (0 :: ld p)
theorem Zge(c:Int)(p:List Int)(x:Rat):Zu (ld (c :: p)) x=Zu p x+x*Zu (ld p) x:=by
 rw [show ld (c :: p)=Ko p (0 :: ld p)from rfl,Qz];show Zu p x+(((0:Int):Rat)+x*Zu (ld p) x)=_;push_cast;grind
theorem Zha:∀(p:List Int) (i:Nat),cf (ld p) i=cf p (i+1)*((i:Int)+1)
 | [],i=>by rw [Zci,show ld []=[]from rfl,Zci,Int.zero_mul]
 | c :: p,0=>by
  rw [show ld (c :: p)=Ko p (0 :: ld p)from rfl,Hb];show cf p 0+0=cf p 0*_;simp
 | c :: p,i+1=>by
  have h:=Zha p i
  rw [show ld (c :: p)=Ko p (0 :: ld p)from rfl,Hb];show cf p (i+1)+cf (ld p) i=cf p (i+1)*_
  rw [h];push_cast;grind
theorem Ha(p:List Int)(x:Rat):Zu (Xy p) x=Zu (ld p) x:=Kd x _ _ fun i=>by rw [Zg9,Zha]
theorem Cv{p q:List Int}(h:∀x,Zu p x=Zu q x)(x:Rat):Zu (ld p) x=Zu (ld q) x:=Kd x _ _ fun i=>by rw [Zha,Zha,Lp h]
theorem Yeq(p q:List Int)(x:Rat):Zu (ld (Ko p q)) x=Zu (ld p) x+Zu (ld q) x:=by
 rw [←Qz];exact Kd x _ _ fun i=>by rw [Zha,Hb,Hb,Zha,Zha];grind
theorem Zad(c:Int)(p:List Int)(x:Rat):Zu (ld (p.map fun a=>c*a)) x=(c:Rat)*Zu (ld p) x:=by
 rw [←Yn];exact Kd x _ _ fun i=>by rw [Zha,Og,Og,Zha];grind
theorem Br(x:Rat):∀p q:List Int,Zu (ld (Nb p q)) x=Zu (ld p) x*Zu q x+Zu p x*Zu (ld q) x
 | [],q=>by show(0:Rat)=0*Zu q x+0*Zu (ld q) x;grind
 | c :: p,q=>by
  have h:=Br x p q
  rw [show Nb (c :: p) q=Ko (q.map fun a=>c*a) (0 :: Nb p q)from rfl,Yeq,Zad,Zge,Zge,h,Xe,show Zu (c :: p) x=(c:Rat)+x*Zu p x from rfl]
  grind
def Ed(g a:List Int):Prop:=∃(k:Int) (s:List Int),k≠0∧∀x:Rat,(k:Rat)*Zu a x=Zu s x*Zu g x
theorem Ed.refl(a:List Int):Ed a a:=⟨1,[1],by decide,fun x=>by rw [Nn]⟩
theorem Ed.nil(g:List Int):Ed g []:=⟨1,[],by decide,fun x=>by show(((1:Int)):Rat)*0=0*Zu g x;grind⟩
theorem Ed.trans{a b c:List Int} : Ed a b→Ed b c→Ed a c:=fun⟨k,s,hk,h⟩ ⟨m,u,hm,e⟩=>
 ⟨k*m,Nb u s,Int.mul_ne_zero hk hm,fun x=>by
  have h1:=h x
  have h2:=e x
  rw [Xe];push_cast
  have:(k:Rat)*m*Zu c x=k*(m*Zu c x):=by grind
  rw [this,h2];grind⟩
theorem Ed.congr{g a b:List Int}(h:Ed g a)(e:∀x,Zu a x=Zu b x):Ed g b:=by
 obtain⟨k,s,hk,h⟩:=h
 exact⟨k,s,hk,fun x=>by rw [←e x];exact h x⟩
theorem Ed.congr_l{g g' a:List Int}(h:Ed g a)(e:∀x,Zu g x=Zu g' x):Ed g' a:=by
 obtain⟨k,s,hk,h⟩:=h
 exact⟨k,s,hk,fun x=>by rw [←e x];exact h x⟩
theorem Ed.sim{g a b:List Int}(h:Ed g a)(e:Sim a b):Ed g b:=by
 obtain⟨k,s,hk,h⟩:=h
 obtain⟨m,n,hm,hn,e⟩:=e
 refine⟨k*n,s.map fun c=>m*c,Int.mul_ne_zero hk hn,fun x=>?_⟩
 have h1:Zu (a.map fun c=>m*c) x=Zu (b.map fun c=>n*c) x:=Kd x _ _ fun i=>by rw [Og,Og,e]
 rw [Yn,Yn]at h1
 rw [Yn]
 have:=h x
 push_cast
 have e2:(k:Rat)*n*Zu b x=k*(n*Zu b x):=by grind
 rw [e2,←h1];grind
theorem Ed.lin{g a b c:List Int}(ha:Ed g a)(hb:Ed g b)(s:List Int)(L:Int)(hL:L≠0)(h:∀x,(L:Rat)*Zu c x=Zu s x*Zu a x+Zu b x):Ed g c:=by
 obtain⟨k,u,hk,h1⟩:=ha
 obtain⟨m,v,hm,h2⟩:=hb
 refine⟨L*(k*m),Ko ((Nb s u).map fun c=>m*c) (v.map fun c=>k*c),Int.mul_ne_zero hL (Int.mul_ne_zero hk hm),fun x=>?_⟩
 have h1:=h1 x
 have h2:=h2 x
 have h:=h x
 rw [Qz,Yn,Yn,Xe]
 push_cast
 have e:(L:Rat)*(k*m)*Zu c x=k*m*(L*Zu c x):=by grind
 rw [e,h]
 have e2:(k:Rat)*m*(Zu s x*Zu a x+Zu b x)=m*Zu s x*(k*Zu a x)+k*(m*Zu b x):=by grind
 rw [e2,h1,h2];grind
theorem Zt2{g a s:List Int}{k:Int}(hk:k≠0)(hg:Tr g)(ha:Tr a)(h0:a≠[])(h:∀x:Rat,(k:Rat)*Zu a x=Zu s x*Zu g x):g≠[]∧tzl s≠[]∧(tzl s).length+g.length≤a.length+1:=by
 have hc:∀i,k*cf a i=(ps (tzl s)*ps g).c i:=fun i=>by
  have h1:=Lp (p:=a.map fun c=>k*c) (q:=Nb (tzl s) g) (fun x=>by rw [Yn,Xe,Kf];exact h x) i
  rw [Og,Dn]at h1
  rw [h1,PS.mul_c];rfl
 have hz:∀i,k*cf a i=0→cf a i=0:=fun i hi=>(Int.mul_eq_zero.1 hi).resolve_left hk
 have hla:=ha.mem h0
 have h1:tzl s≠[]:=fun e=>hla (hz _ (by rw [hc,e,Kv (fun t=>Xt (Nat.zero_le _))]))
 have h2:g≠[]:=fun e=>hla (hz _ (by rw [hc,e,PS.mul_comm',Kv (fun t=>Xt (Nat.zero_le _))]))
 refine⟨h2,h1,?_⟩
 have l1:=List.length_pos_iff.2 h1
 have l2:=List.length_pos_iff.2 h2
 have ht:=Au (p:=tzl s) (q:=g) (a:=(tzl s).length-1) (b:=g.length-1) (fun i hi=>Xt (by omega)) (fun i hi=>Xt (by omega))
 rw [←hc]at ht
 have hne:=Int.mul_ne_zero ((Nk s).mem h1) (hg.mem h2)
 rcases Nat.lt_or_ge ((tzl s).length-1+(g.length-1)) a.length with h9 | h9
 ·omega
 ·rw [Xt h9,Int.mul_zero]at ht;exact absurd ht.symm hne
theorem Ed.len{g a:List Int}(h:Ed g a)(hg:Tr g)(ha:Tr a)(h0:a≠[]):g≠[]∧g.length≤a.length:=by
 obtain⟨k,s,hk,h⟩:=h
 obtain⟨a1,a2,a3⟩:=Zt2 hk hg ha h0 h
 have:=List.length_pos_iff.2 a2
 exact⟨a1,by omega⟩
theorem Ed.same{g a:List Int}(h:Ed g a)(hg:Tr g)(ha:Tr a)(h0:a≠[])(hl:g.length=a.length):Ed a g:=by
 obtain⟨k,s,hk,h⟩:=h
 obtain⟨a1,a2,a3⟩:=Zt2 hk hg ha h0 h
 have hl1:=List.length_pos_iff.2 a2
 match hs:tzl s,hl1,a3 with
 | [c],_,_=>
  have hc:c≠0:=by have:=(Nk s).mem a2;rw [hs]at this;exact this
  refine⟨c,[k],hc,fun x=>?_⟩
  have h1:=h x
  rw [←Kf s,hs,Nn]at h1
  rw [Nn];exact h1.symm
 | c :: d :: r,_,h9=>simp at h9;omega
theorem Zlu:∀(n:Nat) (a b:List Int),Tr a→Tr b→b.length≤n→∃g A B:List Int,Tr g∧Ed g a∧Ed g b∧∀x,Zu g x=Zu A x*Zu a x+Zu B x*Zu b x
 | n,a,[],ha,hb,_=>⟨a,[1],[],ha,Ed.refl a,Ed.nil a,fun x=>by rw [Nn];show _=_+0*(0:Rat);push_cast;grind⟩
 | 0,a,c :: r,_,_,hl=>absurd hl (by simp)
 | n+1,a,c :: b',ha,hb,hl=>by
  have h0:(c :: b')≠[]:=by simp
  generalize c :: b'=b at *
  obtain⟨k,s,hs⟩:=Cx a h0
  have hL:=Mw (hb.mem h0) k
  generalize cf b (b.length-1)^k=L at hs hL
  have hlt:=Oq a h0
  obtain⟨g,A,B,g1,g2,g3,g4⟩:=Zlu n b (Pn a b) hb (Im ha) (by omega)
  have he:∀x,(L:Rat)*Zu a x=Zu s x*Zu b x+Zu (Pn a b) x:=fun x=>by
   have:=Ck (a:=L) (c:=-1) (x:=a) (s:=s) (y:=b) (z:=Pn a b) (fun t=>by rw [hs t];omega) x
   push_cast at this;grind
  refine⟨g,B.map fun c=>L*c,Ko A ((Nb B s).map fun c=>(-1)*c),g1,g2.lin g3 s L hL he,g2,fun x=>?_⟩
  rw [Yn,Qz,Yn,Xe,g4 x]
  have:=he x
  have e:Zu (Pn a b) x=L*Zu a x-Zu s x*Zu b x:=by grind
  rw [e];push_cast;grind
def Irr(q:List Int):Prop:=Tr q∧2≤q.length∧∀d,Tr d→Ed d q→d.length≤1∨d.length=q.length
theorem Zeb{q:List Int}(h:2≤q.length):q≠[]:=fun e=>by rw [e]at h;simp at h
theorem Yce:∀(n:Nat) (q:List Int),q.length≤n→Tr q→2≤q.length→∃p,Irr p∧Ed p q
 | 0,q,hl,_,h2=>by omega
 | n+1,q,hl,ht,h2=>by
  by_cases h:Irr q
  ·exact⟨q,h,Ed.refl q⟩
  ·have:∃d,Tr d∧Ed d q∧¬(d.length≤1∨d.length=q.length):=by
    refine Classical.byContradiction fun h9=>h ⟨ht,h2,fun d hd he=>Classical.byContradiction fun h8=>h9 ⟨d,hd,he,h8⟩⟩
   obtain⟨d,hd,he,hn⟩:=this
   have hle:=(he.len hd ht (Zeb h2)).2
   obtain⟨p,hp,hp2⟩:=Yce n d (by omega) hd (by omega)
   exact⟨p,hp,hp2.trans he⟩
theorem Zbh{q f h m:List Int}{k:Int}(hq:Irr q)(hk:k≠0)(e:∀x:Rat,(k:Rat)*(Zu f x*Zu h x)=Zu m x*Zu q x):Ed q f∨Ed q h:=by
 obtain⟨hq1,hq2,hq3⟩:=hq
 obtain⟨g,A,B,g1,g2,g3,g4⟩:=Zlu _ q (tzl f) hq1 (Nk f) (Nat.le_refl _)
 have hg:=(g2.len g1 hq1 (Zeb hq2)).1
 rcases hq3 g g1 g2 with h1 | h1
 ·right
  match g,hg,h1,g1,g4 with
  | [c],_,_,g1,g4=>
   have hc:c≠0:=g1.mem (by simp)
   refine⟨c*k,Ko ((Nb A h).map fun c=>k*c) (Nb B m),Int.mul_ne_zero hc hk,fun x=>?_⟩
   have h4:=g4 x
   have h5:=e x
   rw [Nn,Kf]at h4
   rw [Qz,Yn,Xe,Xe]
   push_cast
   rw [h4]
   have:(Zu A x*Zu q x+Zu B x*Zu f x)*k*Zu h x=k*Zu A x*Zu q x*Zu h x+Zu B x*(k*(Zu f x*Zu h x)):=by grind
   rw [this,h5];grind
  | c :: d :: r,_,h9,_,_=>simp at h9
 ·left
  have h2:=g2.same g1 hq1 (Zeb hq2) h1
  exact(h2.trans g3).congr fun x=>Kf f x
def Eb(q:List Int):Nat→List Int
 | 0=>[1]
 | n+1=>Oo q (Eb q n)
theorem Za8{q:List Int}(hq:Tr q)(h2:2≤q.length):∀n,Tr (Eb q n)∧n+1≤(Eb q n).length
 | 0=>⟨.inr (show cf [1] 0≠0 by decide),Nat.le_refl _⟩
 | n+1=>by
  obtain⟨h1,h3⟩:=Za8 hq h2 n
  refine⟨Oj _ _,?_⟩
  show n+1+1≤(Oo q (Eb q n)).length
  rw [Nv hq h1 (Zeb h2) (fun e=>by rw [e]at h3;simp at h3)]
  omega
theorem De(q:List Int)(n:Nat)(x:Rat):Zu (Eb q (n+1)) x=Zu q x*Zu (Eb q n) x:=Xo _ _ _
theorem Zoi(q:List Int):∀(n:Nat) (x:Rat),Zu (ld (Eb q (n+1))) x=((n:Rat)+1)*(Zu (Eb q n) x*Zu (ld q) x)
 | n,x=>by
  have h1:Zu (ld (Eb q (n+1))) x=Zu (ld (Nb q (Eb q n))) x:=Cv (fun y=>by rw [De,Xe]) x
  rw [h1,Br]
  match n with
  | 0=>
   rw [show Zu (ld (Eb q 0)) x=0 from by rw [show Eb q 0=[1]from rfl,Zge];show(0:Rat)+x*0=0;grind]
   simp;grind
  | n+1=>
   rw [Zoi q n x,De];push_cast;grind
theorem Zzx{p s g q u:List Int}{c:Int}{k:Nat}(hps:∀x:Rat,Zu p x=Zu s x*Zu g x)(hgr:∀d,Tr d→Ed d p→Ed d (ld p)→Ed d g)(hq:Irr q)(h1:Ed q s)(h2:Ed q (ld s))(hk:Ed (Eb q k) g):Ed (Eb q (k+1)) g:=by
 obtain⟨hq1,hq2,hq3⟩:=hq
 obtain⟨c1,s1,k1,e1⟩:=h1
 obtain⟨c2,s2,k2,e2⟩:=h2
 have d1:∀x:Rat,(c1:Rat)*Zu (ld s) x=Zu (ld s1) x*Zu q x+Zu s1 x*Zu (ld q) x:=fun x=>by
  have:=Cv (p:=s.map fun a=>c1*a) (q:=Nb s1 q) (fun y=>by rw [Yn,Xe];exact e1 y) x
  rwa [Zad,Br]at this
 have h3:Ed q s1:=by
  rcases Zbh (f:=s1) (h:=ld q) (m:=Ko (s2.map fun a=>c1*a) ((ld s1).map fun a=>(-c2)*a)) ⟨hq1,hq2,hq3⟩ k2 (fun x=>by
   have a1:=d1 x
   have a2:=e2 x
   rw [Qz,Yn,Yn];push_cast
   have:(c2:Rat)*(Zu s1 x*Zu (ld q) x)=c1*(c2*Zu (ld s) x)-c2*(Zu (ld s1) x*Zu q x):=by grind
   rw [this,a2];grind)with h9 | h9
  ·exact h9
  ·exfalso
   have h8:Ed q (Xy q):=h9.congr fun x=>(Ha q x).symm
   have hl:=Nq q
   have:=(h8.len hq1 (Mv hq1) (fun e=>by rw [e]at hl;simp at hl;omega)).2
   omega
 obtain⟨c3,s3,k3,e3⟩:=h3
 obtain⟨c,u,kc,eu⟩:=hk
 have hP:∀x:Rat,((c1*c3*c:Int):Rat)*Zu p x=Zu (Nb s3 u) x*Zu (Eb q (k+1+1)) x:=fun x=>by
  rw [hps x,Xe,De,De];push_cast
  have a1:=e1 x
  have a3:=e3 x
  have a4:=eu x
  have:(c1:Rat)*c3*c*(Zu s x*Zu g x)=c3*(c1*Zu s x)*(c*Zu g x):=by grind
  rw [this,a1,a4]
  have:(c3:Rat)*(Zu s1 x*Zu q x)*(Zu u x*Zu (Eb q k) x)=(c3*Zu s1 x)*Zu q x*(Zu u x*Zu (Eb q k) x):=by grind
  rw [this,a3];grind
 have hC:c1*c3*c≠0:=Int.mul_ne_zero (Int.mul_ne_zero k1 k3) kc
 generalize c1*c3*c=C at hP hC
 have hD:∀x:Rat,(C:Rat)*Zu (ld p) x=Zu (ld (Nb s3 u)) x*Zu (Eb q (k+1+1)) x+Zu (Nb s3 u) x*((((k+1:Nat):Rat)+1)*(Zu (Eb q (k+1)) x*Zu (ld q) x)):=fun x=>by
  have:=Cv (p:=p.map fun a=>C*a) (q:=Nb (Nb s3 u) (Eb q (k+1+1))) (fun y=>by rw [Yn,Xe];exact hP y) x
  rwa [Zad,Br,Zoi]at this
 refine hgr _ (Za8 hq1 hq2 _).1 ⟨C,Nb (Nb s3 u) q,hC,fun x=>?_⟩ ⟨C,Ko (Nb (ld (Nb s3 u)) q) ((Nb (Nb s3 u) (ld q)).map fun a=>((k+2:Nat):Int)*a),hC,fun x=>?_⟩
 ·rw [hP x,Xe _ (Nb s3 u),De q (k+1)];grind
 ·rw [hD x,Qz,Yn,Xe _ (ld (Nb s3 u)),Xe _ (Nb s3 u),De q (k+1)];push_cast;grind
theorem Zzz{p s g q:List Int}(hps:∀x:Rat,Zu p x=Zu s x*Zu g x)(hg:Tr g)(g0:g≠[])(hgr:∀d,Tr d→Ed d p→Ed d (ld p)→Ed d g)(hq:Tr q)(h1:Ed q s)(h2:Ed q (ld s)):q.length≤1:=by
 refine Classical.byContradiction fun h=>?_
 obtain⟨r,hr,hr2⟩:=Yce _ q (Nat.le_refl _) hq (by omega)
 have key:∀k,Ed (Eb r k) g:=fun k=>by
  induction k with
  | zero=>exact⟨1,g,by decide,fun x=>by rw [show Eb r 0=[1]from rfl,Nn];push_cast;grind⟩
  | succ k ih=>exact Zzx (u:=[]) (c:=0) hps hgr hr (hr2.trans h1) (hr2.trans h2) ih
 obtain⟨a1,a2⟩:=Za8 hr.1 hr.2.1 g.length
 have:=((key g.length).len a1 hg g0).2
 omega
theorem Yfq{d a b:List Int}(hb:Tr b)(h0:b≠[])(h1:Ed d a)(h2:Ed d b):Ed d (Pn a b):=by
  obtain⟨k,s,hs⟩:=Cx a h0
  have hL:=Mw (hb.mem h0) k
  generalize cf b (b.length-1)^k=L at hs hL
  have he:∀x,(L:Rat)*Zu a x=Zu s x*Zu b x+Zu (Pn a b) x:=fun x=>by
    have:=Ck (a:=L) (c:=-1) (x:=a) (s:=s) (y:=b) (z:=Pn a b) (fun t=>by rw [hs t];omega) x
    push_cast at this;grind
  have h3:Ed d (a.map fun c=>L*c):=by
    obtain⟨k,u,hk,e⟩:=h1
    exact⟨k,u.map fun c=>L*c,hk,fun x=>by rw [Yn,Yn];have:=e x;grind⟩
  exact h2.lin h3 (s.map fun c=>(-1)*c) 1 (by decide) fun x=>by
    rw [Yn,Yn];push_cast;have:=he x;grind
theorem Zr6{d:List Int} : ∀(f:Nat) {a b:List Int},Tr a→Tr b→Ed d a→Ed d b→Ed d (eu f a b)
  | 0,a,b,_,_,h1,_=>h1
  | f+1,a,b,ha,hb,h1,h2=>by
    by_cases h0:b=[]
    · rw [h0,Cf];exact h1
    · rw [show eu (f + 1) a b = eu f b (Yx (Pn a b)) by
          conv=>lhs;unfold eu
          rw [if_neg h0]]
      have t1:=Im (q:=b) ha
      exact Zr6 f hb (Xu t1) h2 ((Yfq hb h0 h1 h2).sim (Pr t1).symm)
theorem Zko{F:Nat}{d p q:List Int}(hp:Tr p)(hq:Tr q)(h1:Ed d p)(h2:Ed d q):Ed d (Mp F p q):=by
  have a1:=h1.sim (Pr hp).symm
  have a2:=h2.sim (Pr hq).symm
  unfold Mp
  refine Ed.sim ?_ (Gc _).symm
  refine Zr6 F (Zh8 hp hq) (Zh7 hp hq) ?_ ?_
  · unfold gA;split<;>assumption
  · unfold gB;split<;>assumption
theorem Zf2{xs:List Int}{F:Nat}(hx:Tr xs)(h0:xs≠[])(hok:eok F (gA (Qa xs) (Xy (Qa xs))) (gB (Qa xs) (Xy (Qa xs)))){q:List Int}(hq:Tr q)(h1:Ed q (sqf F xs))(h2:Ed q (Xy (sqf F xs))):q.length≤1:=by
  obtain⟨f1,f2,f3,f4,f5,f6⟩:=Mf (F:=F) hx h0 hok
  have hs:Tr (Qa xs):=Mm (Xu hx)
  have hd:Tr (Xy (Qa xs)):=Mv hs
  refine Zzz (p:=Qa xs) (s:=sqf F xs) (g:=Mp F (Qa xs) (Xy (Qa xs))) (fun x=>?_) (Zdv hs hd) f5 (fun d _ a b=>?_) hq h1 (h2.congr fun x=>Ha _ x)
  · have:Zu (Qa xs) x=Zu (Oo (sqf F xs) (Mp F (Qa xs) (Xy (Qa xs)))) x:=by rw [←f4]
    rw [this,Xo]
  · exact Zko hs hd a (b.congr fun x=>(Ha _ x).symm)
theorem Zbm:∀(l:List Int) (n z:Int),(l.foldl Mr (n,z)).1=n+(l.foldl Mr (0,z)).1
 | [],n,z=>by simp
 | x :: l,n,z=>by
  simp only [List.foldl_cons]
  by_cases h:x=0
  ·have e:∀n,Mr (n,z) x=(n,z):=fun n=>by unfold Mr;rw [if_pos h]
   rw [e,e];exact Zbm l n z
  ·by_cases h2:x=-z
   ·have e:∀n,Mr (n,z) x=(n+1,x):=fun n=>by unfold Mr;rw [if_neg h,if_pos (by dsimp only;exact h2)]
    rw [e,e,Zbm l (n+1) x,Zbm l (0+1) x];omega
   ·have e:∀n,Mr (n,z) x=(n,x):=fun n=>by unfold Mr;rw [if_neg h,if_neg (by dsimp only;exact h2)]
    rw [e,e];exact Zbm l n x
theorem Ygi{x y:Int}(l:List Int)(hy:y≠0):chg (x :: y :: l)=chg (y :: l)+(if x=-y then 1 else 0):=by
 unfold chg
 simp only [List.foldl_cons]
 have h1:Mr (0,0) y=(0,y):=by unfold Mr;rw [if_neg hy,if_neg (by dsimp only;omega)]
 rw [h1]
 by_cases hx:x=0
 ·have h2:Mr (0,0) x=(0,0):=by unfold Mr;rw [if_pos hx]
  rw [h2,h1,if_neg (by omega)];omega
 ·have h2:Mr (0,0) x=(0,x):=by unfold Mr;rw [if_neg hx,if_neg (by dsimp only;omega)]
  rw [h2]
  have h3:Mr (0,x) y=(if x=-y then 1 else 0,y):=by
   unfold Mr;rw [if_neg hy]
   by_cases h:x=-y
   ·rw [if_pos (by dsimp only;omega),if_pos h];rfl
   ·rw [if_neg (by dsimp only;omega),if_neg h]
  rw [h3,Zbm];omega
def crs(f:Rat→Rat)(u v:Rat):Int:=if f u≠0∧f u*f v≤0 then 1 else 0
theorem Zi8(s t:Rat):∀p:List Int,∃M:Rat,0<M∧∀x y,s≤x→x≤y→y≤t→
  -(M*(y-x)*(y-x))≤Zu p y-Zu p x-(y-x)*Zu (ld p) x∧Zu p y-Zu p x-(y-x)*Zu (ld p) x≤M*(y-x)*(y-x)
 | []=>⟨1,by decide,fun x y h1 h2 h3=>by
   have:=Rat.mul_nonneg (a:=y-x) (b:=y-x) (by grind) (by grind)
   show -(1*(y-x)*(y-x))≤(0:Rat)-0-(y-x)*0∧(0:Rat)-0-(y-x)*0≤1*(y-x)*(y-x)
   constructor<;>grind⟩
 | c :: p=>by
  obtain⟨M,m1,m2⟩:=Zi8 s t p
  obtain⟨L,l1,l2⟩:=Bq s t p
  obtain⟨K,k1,k2⟩:=Yfm s t
  refine⟨L+K*M,by have:=Rat.mul_pos k1 m1;grind,fun x y hs hxy ht=>?_⟩
  obtain⟨a1,a2⟩:=m2 x y hs hxy ht
  obtain⟨b1,b2⟩:=l2 x y hs hxy ht
  obtain⟨e1,e2⟩:=k2 x hs (by grind)
  have hd:0≤y-x:=by grind
  obtain⟨f1,f2⟩:=Zcq (q:=x) (Q:=K) (g:=Zu p y-Zu p x-(y-x)*Zu (ld p) x) (e:=M*(y-x)*(y-x)) e1 e2 a1 a2 (by grind)
  have g1:=Rat.mul_nonneg (a:=y-x) (b:=L*(y-x)-(Zu p y-Zu p x)) hd (by grind)
  have g2:=Rat.mul_nonneg (a:=y-x) (b:=L*(y-x)+(Zu p y-Zu p x)) hd (by grind)
  rw [Zge,show Zu (c :: p) y=(c:Rat)+y*Zu p y from rfl,show Zu (c :: p) x=(c:Rat)+x*Zu p x from rfl]
  constructor<;>grind
theorem Zww{a b:List Int}(ha:Tr a)(hb:Tr b)(h0:a≠[])(hc:∀q,Tr q→Ed q a→Ed q b→q.length≤1)(s t:Rat):∃ε:Rat,0<ε∧∀x,s≤x→x≤t→Big ε x (Zu a)∨Big ε x (Zu b):=by
 obtain⟨g,A,B,g1,g2,g3,g4⟩:=Zlu _ a b ha hb (Nat.le_refl _)
 have hl:=hc g g1 g2 g3
 have hg:=(g2.len g1 ha h0).1
 match g,hg,hl,g1,g4 with
 | [c],_,_,g1,g4=>
  have hc0:c≠0:=g1.mem (by simp)
  obtain⟨P,p1,p2⟩:=Zqz s t A
  obtain⟨Q,q1,q2⟩:=Zqz s t B
  obtain⟨ε,e1,e2,e3⟩:=Gs (show(0:Rat)<1 by decide) (show 0<(P+Q)+(P+Q) by grind) (show(0:Rat)<1 by decide)
  refine⟨ε,e1,fun x hs ht=>?_⟩
  by_cases h1:Big ε x (Zu a)
  ·exact .inl h1
  ·by_cases h2:Big ε x (Zu b)
   ·exact .inr h2
   ·exfalso
    obtain⟨a1,a2⟩:=Zea h1
    obtain⟨b1,b2⟩:=Zea h2
    obtain⟨c1,c2⟩:=p2 x hs ht
    obtain⟨d1,d2⟩:=q2 x hs ht
    obtain⟨u1,u2⟩:=Zcq c1 c2 a1 a2 (by grind)
    obtain⟨v1,v2⟩:=Zcq d1 d2 b1 b2 (by grind)
    have h4:=g4 x
    rw [Nn]at h4
    have h5:(c:Rat)≤-1∨1≤(c:Rat):=by
     rcases Int.lt_or_gt_of_ne hc0 with h | h
     ·left;have:((c:Int):Rat)≤((-1:Int):Rat):=by exact_mod_cast (show c≤-1 by omega)
      rwa [show(((-1:Int)):Rat)=-1 from rfl]at this
     ·right;have:1≤c:=by omega
      exact_mod_cast this
    rcases h5 with h5 | h5<;>grind
 | c :: d :: r,_,h9,_,_=>simp at h9
theorem Big.near{ε x y:Rat}{f:Rat→Rat}(h:Big ε x f)(h1:f x-f y≤ε/2)(h2:f y-f x≤ε/2):Big (ε/2) y f:=by
 unfold Big at *;grind
end Go.Sky

