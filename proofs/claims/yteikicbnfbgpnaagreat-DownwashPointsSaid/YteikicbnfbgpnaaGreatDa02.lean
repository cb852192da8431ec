/- Rules, arithmetic and contracts: part 3. No conditions but those that each theorem names. -/
import Derived.Test.YteikicbnfbgpnaaGreatDa01
set_option linter.all false
namespace Go.Sky
set_option maxRecDepth 20000
theorem Zd4{n:Nat}(h:n<U):tz [n]=dg U n:=by
 rw [←Lv Yx [n] (by simpa using h)]
 simp [Zv]
theorem Zjf{N:Nat}{sc:Nat→Prop}{env:Qj}{H:Hp}{α:Type}{k:Nat}{e:TypeId}{enc:α→Value}{v:Value}{xs ys:List α}(i:Nat)(h:xs=ys)(hi:lk H i=some (Pu k e enc v xs))(hi0:Nat.beq i 0=false) :
  ∀a w,Sat N sc env H a w→Sat N sc env ((i,Pu k e enc v ys) :: H) a w:=by
 subst h
 exact Zkm i hi rfl (fun w h=>h) (fun b hb=>hb) hi0
theorem Zip(R:List Nat)(j:Nat)(hj:j≤R.length):Zv U R=Zv U (R.take j)+U^j*Zv U (R.drop j):=by
 have:=Pv U (R.take j) (R.drop j)
 rw [List.take_append_drop,List.length_take,Nat.min_eq_left hj]at this
 exact this
theorem Zgg{R:List Nat}(hR:∀d∈R,d<U)(j:Nat)(hj:j≤R.length):Zv U (R.take j)=Zv U R%U^j∧Zv U (R.drop j)=Zv U R/U^j:=by
 have h1:=Zip R j hj
 have h2:=Zd2 Xd (R.take j) (fun d hd=>hR d (List.mem_of_mem_take hd))
 rw [List.length_take,Nat.min_eq_left hj]at h2
 have hp:0<U^j:=Nat.pow_pos Xd
 constructor
 ·rw [h1,Nat.add_comm,Nat.mul_add_mod,Nat.mod_eq_of_lt h2]
 ·rw [h1,Nat.add_comm,Nat.mul_add_div hp,Nat.div_eq_of_lt h2,Nat.add_zero]
theorem Zco{R:List Nat}(hR:∀d∈R,d<U){n:Nat}(hn:n≤R.length)(h:Zv U R<U^n):Zv U (R.drop n)=0∧Zv U (R.take n)=Zv U R:=by
 obtain⟨h1,h2⟩:=Zgg hR n hn
 rw [h2,h1,Nat.mod_eq_of_lt h]
 exact⟨Nat.div_eq_of_lt h,rfl⟩
theorem Yc4{R:List Nat}(hR:∀d∈R,d<U){j n:Nat}(hn:j+n≤R.length)(h:Zv U R<U^(j+n)):tz ((R.drop j).take n)=dg U (Zv U R/U^j):=by
 have hd:∀d∈R.drop j,d<U:=fun d hd=>hR d (List.mem_of_mem_drop hd)
 rw [←(Zgg hR j O).2,←Lv Yx _ (fun d hd'=>hd d (List.mem_of_mem_take hd'))]
 congr 1
 refine(Zco hd (by rw [List.length_drop];omega) ?_).2
 rw [(Zgg hR j O).2,Nat.div_lt_iff_lt_mul (Nat.pow_pos Xd),←Nat.pow_add,Nat.add_comm]
 exact h
theorem Zmk{R ys:List Nat}(hR:∀d∈R,d<U)(hy:∀d∈ys,d<U)(lo:Nat):∀d∈spl R lo ys,d<U:=fun d hd=>by
 simp only [spl,List.mem_append]at hd
 rcases hd with(hd | hd) | hd
 ·exact hR d (List.mem_of_mem_take hd)
 ·exact hy d hd
 ·exact hR d (List.mem_of_mem_drop hd)
theorem Zmw(L:Nat)(ys:List Nat):Zv U (spl (List.replicate L 0) 0 ys)=Zv U ys:=by
 simp [spl,Pv,List.drop_replicate,Ky]
theorem Yda{R ys:List Nat}(hR:∀d∈R,d<U){j n:Nat}(hn:j+n≤R.length)(h:Zv U R<U^(j+n))(hy:ys.length≤n) :
  Zv U (spl (spl R j (List.replicate n 0)) j ys)=Zv U R%U^j+U^j*Zv U ys:=by
 have e1:(spl R j (List.replicate n 0)).take j=R.take j:=by
  simp only [spl,List.append_assoc]
  rw [List.take_append_of_le_length (by rw [List.length_take];omega),List.take_take,Nat.min_self]
 have e2:(spl R j (List.replicate n 0)).drop (j+ys.length)=List.replicate (n-ys.length) 0 ++ R.drop (j+n):=by
  simp only [spl,List.append_assoc,List.length_replicate]
  rw [←List.drop_drop,List.drop_left' (by rw [List.length_take];omega),List.drop_append_of_le_length (by rw [List.length_replicate];exact hy),List.drop_replicate]
 rw [spl,e1,e2,Pv,Pv,Pv,Ky,(Zco hR hn h).1,(Zgg hR j O).1,List.length_take,Nat.min_eq_left O]
 simp
theorem Yen{y b k:Nat}(hy:0<y)(hk:k=(dg U y).length)(hb:b=64-bl ((dg U y).getD (k-1) 0)):(dg U (y*2^b)).length=k∧2^b*U^k≤y*2^b*U*2^b∧1≤k∧y*2^b<U^k∧b≤63∧U^(k-1)*9223372036854775808≤y*2^b:=by
 obtain⟨z1,z2,z3,z4⟩:=Zsf hy
 rw [←hk]at z1 z2 z3 z4
 obtain⟨h1,h2⟩:=Zmd hy
 have h3:=Fb y
 have e:bl y+b=64*k:=O
 have h4:y*2^b<U^k:=by
  rw [Zas,←e,Nat.pow_add];exact Nat.mul_lt_mul_of_pos_right h3 (Nat.two_pow_pos b)
 have h5:U^(k-1)*9223372036854775808≤y*2^b:=by
  have:U^(k-1)*9223372036854775808=2^(bl y-1)*2^b:=by
   rw [Zas,←Nat.pow_add,show 9223372036854775808=2^63 from rfl,←Nat.pow_add]
   congr 1;omega
  rw [this];exact Nat.mul_le_mul_right _ h1
 have h6:U^k=U^(k-1)*U:=by rw [←Nat.pow_succ];congr 1;omega
 refine⟨?_,?_,z3,h4,O,h5⟩
 ·refine Nat.le_antisymm ((Xf Yx _ _).2 h4) ?_
  have:k-1<(dg U (y*2^b)).length:=(Pl Yx _ _).2 (Nat.le_trans (Nat.le_mul_of_pos_right _ O) h5)
  omega
 ·rw [h6,Nat.mul_comm (2^b)]
  refine Nat.mul_le_mul_right _ ?_
  refine Nat.mul_le_mul_right _ (Nat.le_trans (Nat.le_mul_of_pos_right _ O) h5)
theorem Yai{W D k w1 w0 t:Nat}(hD:t*U^k≤D)(ht:0<t)(hW:W/U^k=w1*U+w0):W/D≤(w1*U+w0)/t:=by
 have hp:0<U^k:=Nat.pow_pos Xd
 rw [←hW,Nat.div_div_eq_div_mul,Nat.mul_comm]
 exact Nat.div_le_div_left hD (Nat.mul_pos ht hp)
theorem Ydf{R:List Nat}(hR:∀d∈R,d<U){j k:Nat}(hk:1≤k)(h:Zv U R<U^(j+k+1))(hn:j+k+1≤R.length):Zv U R/U^j/U^(k-1)=R.getD (j+k) 0*U+R.getD (j+k-1) 0:=by
 have h1:∀i,R.getD i 0=Zv U R/U^i%U:=fun i=>by
  rcases Nat.lt_or_ge i R.length with hi | hi
  ·have h2:=(Zgg hR i O).2
   rw [Zdp 0 R i hi]at h2
   simp only [Zv]at h2
   rw [←h2,Nat.add_mul_mod_self_left,Nat.mod_eq_of_lt (Xa Xd hR i)]
  ·rw [show R.getD i 0=0 by simp [List.getD,List.getElem?_eq_none hi],Nat.div_eq_of_lt (Nat.lt_of_lt_of_le (Zd2 Xd R hR) (Nat.pow_le_pow_right Xd hi))];rfl
 rw [h1,h1,Nat.div_div_eq_div_mul,←Nat.pow_add,show j+(k-1)=j+k-1 by omega]
 have h3:Zv U R/U^(j+k)<U:=by
  rw [Nat.div_lt_iff_lt_mul (Nat.pow_pos Xd),←Nat.pow_succ',Nat.add_comm (j+k)]at *
  rw [Nat.add_comm 1]at *
  exact h
 have h4:Zv U R/U^(j+k)=Zv U R/U^(j+k-1)/U:=by
  rw [Nat.div_div_eq_div_mul,←Nat.pow_succ];congr 2;omega
 rw [Nat.mod_eq_of_lt h3,h4,Nat.mul_comm,Nat.div_add_mod]
theorem Ybd{x b k lx D:Nat}(hx:x<U^lx)(hb:b≤63)(hk:1≤k)(hkl:k≤lx+1)(hD:U^(k-1)*9223372036854775808≤D):x*2^b<D*U^(lx+1-k):=by
 have h1:x*2^b<U^lx*2^b:=Nat.mul_lt_mul_of_pos_right hx (Nat.two_pow_pos b)
 have h2:U^lx*2^b≤U^lx*9223372036854775808:=Nat.mul_le_mul_left _ (by
  rw [show 9223372036854775808=2^63 from rfl];exact Nat.pow_le_pow_right O hb)
 have h3:U^lx*9223372036854775808=U^(k-1)*9223372036854775808*U^(lx+1-k):=by
  rw [Nat.mul_right_comm,←Nat.pow_add];congr 2;omega
 have h4:U^(k-1)*9223372036854775808*U^(lx+1-k)≤D*U^(lx+1-k):=Nat.mul_le_mul_right _ hD
 omega
theorem Ybc{V D j Q Vq N:Nat}(hD:0<D)(hQ:Q=V/U^j/D)(hN:Vq*U^(j+1)*D+V=N) :
  V%U^j+U^j*(V/U^j-D*Q)<D*U^j∧(Q+U*Vq)*U^j*D+(V%U^j+U^j*(V/U^j-D*Q))=N:=by
 have hp:0<U^j:=Nat.pow_pos Xd
 have h1:=Nat.mod_lt V hp
 have h2:=Nat.div_add_mod V (U^j)
 have h3:=Nat.div_add_mod (V/U^j) D
 have h4:=Nat.mod_lt (V/U^j) hD
 have h5:V/U^j-D*Q=V/U^j%D:=by rw [hQ];omega
 rw [h5]
 constructor
 ·have h6:U^j*(V/U^j%D+1)≤U^j*D:=Nat.mul_le_mul_left _ h4
  rw [Nat.mul_add]at h6
  rw [Nat.mul_comm D];omega
 ·rw [←hN]
  have e1:(Q+U*Vq)*U^j*D=U^j*(D*Q)+Vq*U^(j+1)*D:=by
   rw [Nat.add_mul,Nat.add_mul,Nat.pow_succ]
   congr 1
   ·rw [Nat.mul_comm Q,Nat.mul_assoc,Nat.mul_comm Q]
   ·rw [Nat.mul_comm U Vq,Nat.mul_assoc Vq,Nat.mul_comm U]
  have e2:U^j*(D*Q)+U^j*(V/U^j%D)=U^j*(V/U^j):=by rw [←Nat.mul_add,hQ,h3]
  omega
def sg(s:Bool)(x:Int):Prop:=(s=true→x≤0)∧(s=false→0≤x)
theorem Zyd{s:Bool}{x:Int}(h:sg s x):sg (!s) (-x):=by
 cases s<;>simp [sg]at*<;>omega
theorem Zye{s t:Bool}{x y:Int}(hs:sg s x)(ht:sg t y):sg (s != t) (x*y):=by
 cases s<;>cases t<;>simp [sg]at *
 ·exact Int.mul_nonneg hs ht
 ·exact Int.mul_nonpos_of_nonneg_of_nonpos hs ht
 ·exact Int.mul_nonpos_of_nonpos_of_nonneg hs ht
 ·exact Int.mul_nonneg_of_nonpos_of_nonpos hs ht
theorem Zvk{x:Int}(h:(((dg U x.natAbs).length:Nat):Int)=0):Value.int .i64 x.sign= .int .i64 0:=by
 have h1:=(Qv Yx x.natAbs).1 O
 have:x=0:=O
 subst this;rfl
theorem Zx9{s:Bool}{x:Int}(hs:sg s x)(h1:s=true)(h:¬(((dg U x.natAbs).length:Nat):Int)=0):Value.int .i64 x.sign= .int .i64 (-1):=by
 have h2:¬x.natAbs=0:=fun e=>h (by rw [(Qv Yx x.natAbs).2 e];rfl)
 have h3:=hs.1 h1
 rw [Int.sign_eq_neg_one_of_neg O]
theorem Zx8{s:Bool}{x:Int}(hs:sg s x)(h1:s=false)(h:¬(((dg U x.natAbs).length:Nat):Int)=0):Value.int .i64 x.sign= .int .i64 1:=by
 have h2:¬x.natAbs=0:=fun e=>h (by rw [(Qv Yx x.natAbs).2 e];rfl)
 have h3:=hs.2 h1
 rw [Int.sign_eq_one_of_pos O]
theorem Zsl{s:Bool}{x y:Int}(hs:sg s x)(ht:sg s y):sg s (x+y):=by
 cases s<;>simp [sg]at*<;>omega
theorem Zd0{s:Bool}{x y:Int}(hs:sg s x)(ht:sg s y):(x+y).natAbs=x.natAbs+y.natAbs:=by
 cases s<;>simp [sg]at*<;>omega
theorem Zfs{s t:Bool}{x y:Int}(hs:sg s x)(ht:sg t y)(h:s≠t)(hge:y.natAbs≤x.natAbs):sg s (x+y):=by
 cases s<;>cases t<;>simp [sg]at*<;>omega
theorem Cw{s t:Bool}{x y:Int}(hs:sg s x)(ht:sg t y)(h:s≠t)(hge:y.natAbs≤x.natAbs):(x+y).natAbs=x.natAbs-y.natAbs:=by
 cases s<;>cases t<;>simp [sg]at*<;>omega
abbrev wv (x:Int):Value:= .agg #[.bool (decide (x<0)),.string (Xn x.natAbs)]
def Cr(x:Int):Int:=if 65536<bl x.natAbs then 0 else x
def Zfi(x:Int):Int:=if 65536<bl x.natAbs then 7 else 0
theorem Yf6(x:Int):bl (Cr x).natAbs≤65536:=by
 unfold Cr
 split
 ·decide
 ·omega
theorem Ll{x:Int}(h:bl x.natAbs≤65536):Cr x=x:=by unfold Cr;rw [if_neg O]
theorem Zlk{x:Int}(h:bl x.natAbs≤65536):Zfi x=0:=by unfold Zfi;rw [if_neg O]
theorem Yf5{x:Int}(h:65536<bl x.natAbs):Cr x=0:=by unfold Cr;rw [if_pos h]
theorem Yfc{x:Int}(h:65536<bl x.natAbs):Zfi x=7:=by unfold Zfi;rw [if_pos h]
abbrev Ae (x:Int):Value:= .tuple #[wv (Cr x),.int .i64 (Zfi x)]
theorem Zu7{x:Int}(h:((65536:Int)<((bl x.natAbs:Nat):Int))):Ae x= .tuple #[.agg #[.bool false,.string ⟨#[]⟩],.int .i64 7]:=by
 unfold Ae;rw [Yf5 O,Yfc O];rfl
theorem Zr5{x:Int}(h:¬((65536:Int)<((bl x.natAbs:Nat):Int))):Ae x= .tuple #[wv x,.int .i64 0]:=by
 unfold Ae;rw [Ll O,Zlk O]
theorem Zmq{x:Int}(hs:sg false x)(h:¬((65536:Int)<((bl x.natAbs:Nat):Int))):Ae x= .tuple #[.agg #[.bool false,.string (Xn x.natAbs)],.int .i64 0]:=by
 rw [Zr5 h,wv,decide_eq_false (by have:=hs.2 rfl;omega)]
theorem Zmp{x:Int}(hs:sg true x)(h:¬((65536:Int)<((bl x.natAbs:Nat):Int))):Ae x= .tuple #[.agg #[.bool (decide ((0:Int)<(((dg U x.natAbs).length:Nat):Int))),.string (Xn x.natAbs)],.int .i64 0]:=by
 have h1:=hs.1 rfl
 have h2:=Qv Yx x.natAbs
 rw [Zr5 h,wv,show decide (x<0)=decide ((0:Int)<(((dg U x.natAbs).length:Nat):Int))from decide_eq_decide.2 ⟨fun h=>O,fun h=>O⟩]
theorem Zwl{x y q r:Int}(hy:y≠0)(h:x=y*q+r)(h0:0≤r)(h1:r<(y.natAbs:Int)):x/y=q∧x%y=r:=by
 have e:=Int.mul_ediv_add_emod x y
 have e0:=Int.emod_nonneg x hy
 have e1:=Int.emod_lt x hy
 have hq:x/y=q:=by
  have hk:y*(x/y-q)=r-x%y:=by rw [Int.mul_sub];omega
  have habs:(y*(x/y-q)).natAbs<y.natAbs:=by rw [hk];omega
  rw [Int.natAbs_mul]at habs
  rcases Nat.eq_zero_or_pos (x/y-q).natAbs with h | h
  ·omega
  ·exact absurd (Nat.le_mul_of_pos_right y.natAbs h) O
 refine⟨hq,?_⟩
 rw [hq]at e;omega
theorem Zp8{s:Bool}{x:Int}(h:sg s x):x=if s then -(x.natAbs:Int)else(x.natAbs:Int):=by
 cases s<;>simp [sg]at*<;>omega
theorem Zt6{s t:Bool}{x y:Int}(hs:sg s x)(ht:sg t y)(hy:y≠0)(Q R:Nat)(hR:R<y.natAbs)(h:x=(if s then -1 else 1)*((y.natAbs:Int)*Q)+R) :
  sg (s != t) (x/y)∧(x/y).natAbs=Q∧(x%y).natAbs=R:=by
 have hy2:=Zp8 ht
 have key:x/y=(if s != t then -(Q:Int)else Q)∧x%y=R:=by
  refine Zwl hy ?_ O O
  conv=>lhs;rw [h]
  conv=>rhs;rw [hy2]
  cases s<;>cases t<;>simp [Int.neg_mul,Int.mul_neg]
 rw [key.1,key.2]
 cases s<;>cases t<;>simp [sg]
theorem divB{s t:Bool}{x y:Int}(hs:sg s x)(ht:sg t y)(hy:y≠0)(hc:s=false∨x.natAbs%y.natAbs=0):sg (s != t) (x/y)∧(x/y).natAbs=x.natAbs/y.natAbs∧(x%y).natAbs=x.natAbs%y.natAbs:=by
 have hx:=Zp8 hs
 have e:=Nat.div_add_mod x.natAbs y.natAbs
 refine Zt6 hs ht hy _ _ (Nat.mod_lt _ O) ?_
 have e2:((y.natAbs:Int)*((x.natAbs/y.natAbs:Nat):Int))+((x.natAbs%y.natAbs:Nat):Int)=x.natAbs:=by rw [←Int.natCast_mul,←Int.natCast_add,e]
 rcases hc with rfl | h0
 ·simp at hx ⊢;simp at e2;omega
 ·rw [h0]at e2 ⊢
  cases s<;>simp at hx e2 ⊢<;>omega
theorem divA{t:Bool}{x y:Int}(hs:sg true x)(ht:sg t y)(hy:y≠0)(h0:0<x.natAbs%y.natAbs):sg (true != t) (x/y)∧(x/y).natAbs=x.natAbs/y.natAbs+1∧(x%y).natAbs=y.natAbs-x.natAbs%y.natAbs:=by
 have hx:=Zp8 hs
 have e:=Nat.div_add_mod x.natAbs y.natAbs
 have hl:=Nat.mod_lt x.natAbs (show 0<y.natAbs by omega)
 refine Zt6 hs ht hy _ _ O ?_
 have e2:((y.natAbs:Int)*((x.natAbs/y.natAbs:Nat):Int))+((x.natAbs%y.natAbs:Nat):Int)=x.natAbs:=by rw [←Int.natCast_mul,←Int.natCast_add,e]
 rw [Int.natCast_sub O,Int.natCast_add,Int.mul_add]
 generalize ((y.natAbs:Int)*((x.natAbs/y.natAbs:Nat):Int))=P at *
 generalize ((x.natAbs%y.natAbs:Nat):Int)=R at *
 simp only [if_true]at *
 omega
def okW(b:Bool)(s:ByteArray):Bool:=if s.size=0 then !b else decide ((s.data.toList.getD 0 0).toNat≠0) && decide (s.size≤8192)
theorem bl256{n k:Nat} : (dg 256 n).length≤k↔bl n≤8*k:=by rw [Zhr];omega
theorem Au{x:Int}(h:bl x.natAbs≤65536):okW (decide (x<0)) (Xn x.natAbs)=true:=by
 unfold okW
 rw [Gu]
 split
 ·rename_i h0
  have:=(Qv (by omega:2≤256) x.natAbs).1 h0
  simp;omega
 ·rename_i h0
  have hp:0<x.natAbs:=by
   rcases Nat.eq_zero_or_pos x.natAbs with h1 | h1
   ·rw [h1]at h0;simp [Ip]at h0
   ·exact h1
  have h1:=Zpm x.natAbs 0 O
  have h2:=dg_top (by omega:2≤256) hp
  rw [Iq O]at h2
  have h3:=(bl256 (n:=x.natAbs) (k:=8192)).2 O
  rw [Bool.and_eq_true]
  refine⟨decide_eq_true (by rw [h1];simpa using h2),decide_eq_true h3⟩
theorem Zet{a b:ByteArray}(h:a.data.toList=b.data.toList):a=b:=by
 cases a;cases b;simp at h;rw [h]
theorem Ygh{s:ByteArray}(h0:s.size≠0)(h:(s.data.toList.getD 0 0).toNat≠0):s=Xn (Zv 256 (s.data.toList.reverse.map UInt8.toNat)):=by
 have hl:s.data.toList.length=s.size:=rfl
 have hb:∀d∈s.data.toList.reverse.map UInt8.toNat,d<256:=fun d hd=>by
  obtain⟨u,_,rfl⟩:=List.mem_map.1 hd
  exact u.toNat_lt
 refine Zet ?_
 unfold Xn
 rw [Lv O _ hb,tz_eq]
 ·simp [List.map_reverse,Function.comp_def]
 ·refine .inr ?_
  rw [List.length_map,List.length_reverse,List.getD_eq_getElem?_getD,List.getElem?_map,List.getElem?_reverse O]
  rw [show s.data.toList.length-1-(s.data.toList.length-1)=0 by omega]
  rw [List.getD_eq_getElem?_getD]at h
  cases hx:s.data.toList[0]? with
  | none=>rw [hx]at h;simp at h
  | some u=>rw [hx]at h;simpa using h
theorem Zk2{b:Bool}{s:ByteArray}(h:okW b s=true):∃x:Int,bl x.natAbs≤65536∧b=decide (x<0)∧s=Xn x.natAbs:=by
 unfold okW at h
 split at h
 ·rename_i h0
  refine⟨0,by simp [Mz],?_,?_⟩
  ·cases b<;>simp_all
  ·refine Zet ?_
   have:s.data.toList.length=0:=h0
   rw [List.eq_nil_of_length_eq_zero this];rfl
 ·rename_i h0
  rw [Bool.and_eq_true]at h
  have h1:=of_decide_eq_true h.1
  have h2:=of_decide_eq_true h.2
  have hs:=Ygh h0 h1
  generalize Zv 256 (s.data.toList.reverse.map UInt8.toNat)=n at hs
  have hsz:(dg 256 n).length=s.size:=by rw [hs,Gu]
  have hn:0<n:=by
   rcases Nat.eq_zero_or_pos n with h | h
   ·subst h;simp [Ip]at hsz;omega
   ·exact h
  have hbl:bl n≤65536:=by have:=(bl256 (n:=n) (k:=8192)).1 O;omega
  cases b with
  | true=>exact⟨-(n:Int),by simpa using hbl,O8,by simpa using hs⟩
  | false=>exact⟨n,by simpa using hbl,O6,by simpa using hs⟩
def eqW(a:Bool)(s:ByteArray)(b:Bool)(t:ByteArray):Bool:=(a == b) && (s.toList == t.toList)
theorem Zw9{x y:Int}(h:decide (x<0)=decide (y<0))(h2:Xn x.natAbs=Xn y.natAbs):x=y:=by
 have h3:x.natAbs=y.natAbs:=by
  have h4:(dg 256 x.natAbs).reverse.map UInt8.ofNat=(dg 256 y.natAbs).reverse.map UInt8.ofNat:=by
   have:=congrArg (fun b:ByteArray=>b.data.toList) h2
   simpa [Xn]using this
  have h5:∀n:Nat,((dg 256 n).reverse.map UInt8.ofNat).map UInt8.toNat=(dg 256 n).reverse:=fun n=>by
   rw [List.map_map]
   conv=>rhs;rw [←List.map_id (dg 256 n).reverse]
   refine List.map_congr_left fun d hd=>?_
   have:=Ob (by omega:2≤256) n d (List.mem_reverse.1 hd)
   simp [UInt8.toNat_ofNat',Nat.mod_eq_of_lt this]
  have h6:=congrArg (List.map UInt8.toNat) h4
  rw [h5,h5]at h6
  exact(Zeq (by omega:2≤256)).1 (List.reverse_inj.1 h6)
 have h4:=decide_eq_decide.1 h
 omega
theorem Zlw{a b:Bool}{s t:ByteArray} : eqW a s b t=true↔a=b∧s=t:=by
 unfold eqW
 rw [Bool.and_eq_true,ByteArray.toList_eq,ByteArray.toList_eq,beq_iff_eq,beq_iff_eq]
 exact⟨fun h=>⟨h.1,Zet h.2⟩,fun h=>⟨h.1,by rw [h.2]⟩⟩
theorem Yaz(x y:Int):eqW (decide (x<0)) (Xn x.natAbs) (decide (y<0)) (Xn y.natAbs)=decide (x=y):=by
 rw [Bool.eq_iff_iff,Zlw,decide_eq_true_iff]
 exact⟨fun h=>Zw9 h.1 h.2,fun h=>by rw [h];exact⟨rfl,rfl⟩⟩
theorem Yn(x:Int):sg (decide (x<0)) x:=by
 unfold sg
 simp;omega
theorem Hy(x y:Int):bl (x+y).natAbs≤max (bl x.natAbs) (bl y.natAbs)+1:=
 Nat.le_trans (Of (Int.natAbs_add_le x y)) (bl_add _ _)
theorem Xb(x y:Int):bl (x*y).natAbs≤bl x.natAbs+bl y.natAbs:=by
 rw [Int.natAbs_mul];exact Zrv _ _
theorem Zbg(x y:Int):bl (x-y).natAbs≤max (bl x.natAbs) (bl y.natAbs)+1:=by
 have:=Hy x (-y)
 rwa [Int.natAbs_neg,←Int.sub_eq_add_neg]at this
theorem Zme(x:Int):bl (-x).natAbs=bl x.natAbs:=by rw [Int.natAbs_neg]
theorem Zga(x y:Int):bl (x/y).natAbs≤bl x.natAbs+1:=by
 have h:(x/y).natAbs≤x.natAbs:=Int.natAbs_ediv_le_natAbs x y
 have:=Of h;omega
theorem Zuz(x y:Int)(hy:y≠0):bl (x%y).natAbs≤bl y.natAbs:=by
 have e0:=Int.emod_nonneg x hy
 have e1:=Int.emod_lt x hy
 exact Of O
theorem Zmg(x y:Nat):bl (Nat.gcd x y)≤max (bl x) (bl y):=by
 rcases Nat.eq_zero_or_pos x with h | h
 ·subst h;rw [Nat.gcd_zero_left];omega
 ·have:=Of (Nat.le_of_dvd h (Nat.gcd_dvd_left x y));omega
theorem Ydw(x:Int){y:Int}(h:y≠0):sg false (x%y):=⟨fun h0=>Bool.noConfusion h0,fun _=>Int.emod_nonneg x h⟩
def Ns(x y:Int):Int:=if y<0 then -(Int.gcd x y:Int)else(Int.gcd x y:Int)
theorem Ax(x y:Int):(Ns x y).natAbs=Nat.gcd x.natAbs y.natAbs:=by
 unfold Ns;split<;>simp [Int.gcd]
theorem Yeu{x y:Int}(h:y≠0):Ns x y≠0:=fun e=>by
 have h1:=Ax x y
 rw [e]at h1
 have:=(Nat.gcd_eq_zero_iff.1 h1.symm).2
 omega
theorem Ydu{t:Bool}{x y:Int}(ht:sg t y)(hy:y≠0):sg t (Ns x y):=by
 unfold Ns sg at *
 refine⟨fun h=>?_,fun h=>?_⟩
 ·rw [if_pos (by have:=ht.1 h;omega)];omega
 ·rw [if_neg (by have:=ht.2 h;omega)];omega
theorem Zti(v:Value)(x y:Int):Gd v (Nat.gcd x.natAbs y.natAbs)=Gd v (Ns x y).natAbs:=by rw [Ax]
def Lb(x y:Int):Prop:=65536<bl (x/Ns x y).natAbs∨65536<bl (y/Ns x y).natAbs
instance (x y:Int):Decidable (Lb x y):=by unfold Lb;infer_instance
def Fj(x y:Int):Int:=if Lb x y then 0 else x/Ns x y
def Gj(x y:Int):Int:=if Lb x y then 0 else y/Ns x y
def Zyt(x y:Int):Int:=if Lb x y then 7 else 0
abbrev Bi (x y:Int):Value:= .tuple #[.agg #[.bool (decide (Fj x y<0)),.string (Xn (Fj x y).natAbs),.bool (decide (Gj x y<0)),.string (Xn (Gj x y).natAbs)],.int .i64 (Zyt x y)]
theorem Bh{x y:Int}(h:Lb x y):Bi x y= .tuple #[.agg #[.bool false,.string ⟨#[]⟩,.bool false,.string ⟨#[]⟩],.int .i64 7]:=by
 unfold Bi Fj Gj Zyt;rw [if_pos h,if_pos h,if_pos h];rfl
theorem Dq{x:Int}(h:Zfi x≠0):65536<bl x.natAbs:=by
 unfold Zfi at h;split at h
 ·assumption
 ·exact absurd rfl h
theorem Zf3{x:Int}(h:Zfi x=0):bl x.natAbs≤65536:=by
 unfold Zfi at h;split at h
 ·omega
 ·omega
theorem Znq{x y:Int}(h1:Zfi (x/Ns x y)=0)(h2:Zfi (y/Ns x y)=0):Bi x y= .tuple #[.agg #[.bool (decide (Cr (x/Ns x y)<0)),.string (Xn (Cr (x/Ns x y)).natAbs),.bool (decide (Cr (y/Ns x y)<0)),.string (Xn (Cr (y/Ns x y)).natAbs)],.int .i64 0]:=by
 have h3:¬Lb x y:=fun h=>by have:=Zf3 h1;have:=Zf3 h2;unfold Lb at h;omega
 unfold Bi Fj Gj Zyt
 rw [if_neg h3,if_neg h3,if_neg h3,Ll (Zf3 h1),Ll (Zf3 h2)]
def okR(b:Bool)(s:ByteArray)(c:Bool)(t:ByteArray):Bool:=okW b s && okW c t && (!c && decide (0<t.size))
theorem Zkw(z:Int):(!decide (z<0) && decide (0<(Xn z.natAbs).size))=decide (0<z):=by
 rw [Bool.eq_iff_iff,Bool.and_eq_true,Gu,decide_eq_true_iff,decide_eq_true_iff]
 have:=Qv (by omega:2≤256) z.natAbs
 simp only [Bool.not_eq_true',decide_eq_false_iff_not]
 omega
theorem Bg(z:Int):decide (0<z.sign)=decide (0<z):=by
 rw [decide_eq_decide]
 rcases Int.lt_trichotomy z 0 with h | h | h
 ·rw [Int.sign_eq_neg_one_of_neg h];omega
 ·subst h;simp
 ·rw [Int.sign_eq_one_of_pos h];omega
theorem Zn4{b:Bool}{s:ByteArray}{z:Int}(h1:okW b s=true)(hz:bl z.natAbs≤65536):okR b s (decide (z<0)) (Xn z.natAbs)=decide (0<z.sign):=by
 unfold okR;rw [h1,Au hz,Zkw,Bg];rfl
theorem okR_wv{x y:Int}(hx:bl x.natAbs≤65536)(hy:bl y.natAbs≤65536)(hy0:0<y):okR (decide (x<0)) (Xn x.natAbs) (decide (y<0)) (Xn y.natAbs)=true:=by
 unfold okR;rw [Au hx,Au hy,Zkw];simp [hy0]
theorem Zzi{b c:Bool}{s t:ByteArray}(h:okR b s c t=true):∃x y:Int,bl x.natAbs≤65536∧bl y.natAbs≤65536∧0<y∧b=decide (x<0)∧s=Xn x.natAbs∧c=decide (y<0)∧t=Xn y.natAbs:=by
 unfold okR at h
 rw [Bool.and_eq_true,Bool.and_eq_true]at h
 obtain⟨⟨h1,h2⟩,h3⟩:=h
 obtain⟨x,hx,rfl,rfl⟩:=Zk2 h1
 obtain⟨y,hy,rfl,rfl⟩:=Zk2 h2
 rw [Zkw]at h3
 exact⟨x,y,hx,hy,of_decide_eq_true h3,rfl,rfl,rfl,rfl⟩
open Go.RowKit (Below)
def Sz(n:Nat)(p:List Int):Prop:=∀i,bl (cf p i).natAbs≤n
theorem Sz.getD{n:Nat}{p:List Int}(h:Sz n p)(i:Nat):bl (p.getD i 0).natAbs≤n:=h i
theorem Sz.mono{n m:Nat}{p:List Int}(h:Sz n p)(hm:n≤m):Sz m p:=fun i=>Nat.le_trans (h i) hm
theorem Sz.tzl{n:Nat}{p:List Int}(h:Sz n p):Sz n (tzl p):=fun i=>by rw [Lm];exact h i
theorem Sz.nil(n:Nat):Sz n []:=fun i=>by simp [cf,Mz]
theorem Sz.take{n:Nat}{p:List Int}(h:Sz n p)(k:Nat):Sz n (p.take k):=fun i=>by
 rw [Ht];split
 ·exact h i
 ·simp [Mz]
theorem Sz.mem{n:Nat}{p:List Int}(h:Sz n p){x:Int}(hx:x∈p):bl x.natAbs≤n:=by
 obtain⟨i,hi,rfl⟩:=List.mem_iff_getElem.1 hx
 have:=h i
 rwa [Zan hi]at this
theorem Sz.of_mem{n:Nat}{p:List Int}(h:∀x∈p,bl x.natAbs≤n):Sz n p:=fun i=>by
 rcases Nat.lt_or_ge i p.length with hi | hi
 ·rw [Zan hi];exact h _ (List.getElem_mem hi)
 ·rw [Ya hi];simp [Mz]
structure Vp (p:List Int):Prop where
 sz:Sz 65536 p
 tr:Tr p
 len:p.length≤25
def wr(x:Int):Bool×ByteArray:=(decide (x<0),Xn x.natAbs)
def okP(r:List (Bool×ByteArray)):Bool:=r.all (fun w=>okW w.1 w.2) && (decide (r.length≤25) && (decide (r.length=0) || decide ((r.getD (r.length-1) (false,⟨#[]⟩)).2.size≠0)))
theorem Zcj{x:Int} : (Xn x.natAbs).size=0↔x=0:=by
 rw [Gu]
 have:=Qv (by omega:2≤256) x.natAbs
 omega
theorem Zad(xs:List Int)(i:Nat)(h:i<xs.length):(xs.map wr).getD i (false,⟨#[]⟩)=wr (cf xs i):=by
 rw [Zan h];simp [List.getD,h]
theorem okP_wr{xs:List Int}(h:Vp xs):okP (xs.map wr)=true:=by
 unfold okP
 rw [Bool.and_eq_true,Bool.and_eq_true,Bool.or_eq_true]
 refine⟨List.all_eq_true.2 fun w hw=>?_,by simpa using h.len,?_⟩
 ·obtain⟨x,hx,rfl⟩:=List.mem_map.1 hw
  exact Au (h.sz.mem hx)
 ·rcases h.tr with h0 | h0
  ·left;simp [h0]
  ·right
   have hl:0<xs.length:=by
    rcases Nat.eq_zero_or_pos xs.length with h1 | h1
    ·rw [Ya O]at h0;exact absurd rfl h0
    ·exact h1
   rw [List.length_map,Zad _ _ O]
   refine decide_eq_true fun he=>h0 (Zcj.1 he)
theorem Zn3{r:List (Bool×ByteArray)}(h:∀w∈r,okW w.1 w.2=true):∃xs:List Int,(∀x∈xs,bl x.natAbs≤65536)∧r=xs.map wr:=by
 induction r with
 | nil=>exact⟨[],O6,rfl⟩
 | cons w r ih=>
  obtain⟨xs,h1,h2⟩:=ih fun u hu=>h u (List.mem_cons_of_mem _ hu)
  obtain⟨x,hx,h3,h4⟩:=Zk2 (h w (List.mem_cons_self ..))
  refine⟨x :: xs,fun y hy=>?_,?_⟩
  ·rcases List.mem_cons.1 hy with rfl | hy
   ·exact hx
   ·exact h1 y hy
  ·rw [List.map_cons,←h2,wr,←h3,←h4]
theorem okP_ex{r:List (Bool×ByteArray)}(h:okP r=true):∃xs:List Int,Vp xs∧r=xs.map wr:=by
 unfold okP at h
 rw [Bool.and_eq_true,Bool.and_eq_true,Bool.or_eq_true]at h
 obtain⟨h1,h2,h3⟩:=h
 obtain⟨xs,h4,rfl⟩:=Zn3 (List.all_eq_true.1 h1)
 refine⟨xs,⟨Sz.of_mem h4,?_,by simpa using h2⟩,rfl⟩
 rcases h3 with h3 | h3
 ·left;exact List.eq_nil_of_length_eq_zero (by simpa using h3)
 ·rcases Nat.eq_zero_or_pos xs.length with h5 | h5
  ·left;exact List.eq_nil_of_length_eq_zero h5
  ·right
   rw [List.length_map,Zad _ _ O]at h3
   exact fun he=>of_decide_eq_true h3 (Zcj.2 he)
theorem Zgk{xs:List Int}{k j:Nat}(h:j<k)(h0:(xs.take k).getD j 0=0):cf xs j=0:=by rw [Zba _ _ _ _ h]at h0;exact h0
theorem Zcu{xs:List Int}{k j:Nat}(h:j<k)(h0:¬((xs.take k).getD j 0).sign=0):cf xs j≠0:=fun e=>h0 (by rw [Zba _ _ _ _ h];rw [show xs.getD j 0=0 from e];rfl)
theorem Yel{r:List (Bool×ByteArray)}{w:Bool×ByteArray}(hw:w∈r)(h:okW w.1 w.2=false):okP r=false:=by
 unfold okP
 rw [show r.all (fun w=>okW w.1 w.2)=false from List.all_eq_false.2 ⟨w,hw,by simp [h]⟩];rfl
theorem Zk3{xs:List Int}(h:∀x∈xs,bl x.natAbs≤65536):okP (xs.map wr)=(decide (xs.length≤25) && (decide (xs.length=0) || decide (¬(xs.getD (xs.length-1) 0).sign=0))):=by
 unfold okP
 rw [show(xs.map wr).all (fun w=>okW w.1 w.2)=true from List.all_eq_true.2 fun w hw=>by
  obtain⟨x,hx,rfl⟩:=List.mem_map.1 hw
  exact Au (h x hx)]
 rw [List.length_map,Bool.true_and]
 congr 1
 by_cases h0:xs.length=0
 ·simp [h0]
 ·rw [decide_eq_false h0,Bool.false_or,Bool.false_or,Zad _ _ O]
  rw [decide_eq_decide,Int.sign_eq_zero_iff_zero]
  exact not_congr Zcj
def err(e x:Int):Int:=if e=0 then Zfi x else e
theorem Zq4{x:Int}(h:bl x.natAbs≤65536):err 0 x=0:=by unfold err;rw [if_pos rfl,Zlk h]
def Xz:List Int→Nat
 | []=>0
 | x :: r=>max (bl x.natAbs) (Xz r)
theorem Ld(p:List Int):Sz (Xz p) p:=by
 refine Sz.of_mem fun x hx=>?_
 induction p with
 | nil=>cases hx
 | cons y r ih=>
  rcases List.mem_cons.1 hx with rfl | h
  ·simp only [Xz];omega
  ·have:=ih h;simp only [Xz];omega
theorem Qu{n:Nat}{p:List Int}(h:Sz n p):Xz p≤n:=by
 have h2:∀x∈p,bl x.natAbs≤n:=fun x hx=>h.mem hx
 clear h
 induction p with
 | nil=>exact Nat.zero_le _
 | cons y r ih=>
  have:=h2 y (List.mem_cons_self ..)
  have:=ih fun x hx=>h2 x (List.mem_cons_of_mem _ hx)
  simp only [Xz];omega
theorem Zzs(p:List Int)(x:Int):Xz (p ++ [x])=max (Xz p) (bl x.natAbs):=by
 induction p with
 | nil=>simp [Xz]
 | cons y r ih=>simp only [List.cons_append,Xz,ih];omega
variable {P:Program} {N:Nat} {sc:Nat→Prop} {env env':Qj} {H H':Hp} {Q Q':Exit→Act→World→Prop} {M:Nat→Prop}
theorem fpm{α β:Type}{f:α→β}{xs:List α}{p:Prop}(h:xs.map f≠[]∧p):xs≠[]∧p:=⟨fun e=>h.1 (by rw [e];rfl),h.2⟩
theorem fpn{α β:Type}{f:α→β}{xs:List α}{p:Prop}(h:xs≠[]∧p):xs.map f≠[]∧p:=⟨fun e=>h.1 (List.map_eq_nil_iff.1 e),h.2⟩
theorem Zp5(v:Value)(xs:List Int)(w:World)(h:(Yk 2 wv v xs).holds w):(Yk 2 (fun w:Bool×ByteArray=>Value.agg #[.bool w.1,.string w.2]) v (xs.map wr)).holds w:=by
 obtain⟨⟨a,c,h0,h1,h2,h3⟩,hb⟩:=h
 refine⟨⟨a,c,by rw [List.length_map];exact h0,by rw [List.length_map];exact h1,h2,?_⟩,fun b h=>hb b (fpm h)⟩
 rcases h3 with h3 | ⟨g,off,h3,h4⟩
 ·left;rw [h3];rfl
 ·right
  refine⟨g,off,h3,fun i x hi j u hu=>?_⟩
  rw [List.getElem?_map]at hi
  cases hx:xs[i]? with
  | none=>rw [hx]at hi;cases hi
  | some y=>rw [hx]at hi;cases hi;exact h4 i y hx j u hu
theorem Ydr(v:Value)(xs:List Int)(w:World)(h:(Yk 2 (fun w:Bool×ByteArray=>Value.agg #[.bool w.1,.string w.2]) v (xs.map wr)).holds w):(Yk 2 wv v xs).holds w:=by
 obtain⟨⟨a,c,h0,h1,h2,h3⟩,hb⟩:=h
 rw [List.length_map]at h0 h1
 refine⟨⟨a,c,h0,h1,h2,?_⟩,fun b h=>hb b (fpn h)⟩
 rcases h3 with h3 | ⟨g,off,h3,h4⟩
 ·left;simpa using h3
 ·right
  refine⟨g,off,h3,fun i x hi j u hu=>?_⟩
  exact h4 i (wr x) (by rw [List.getElem?_map,hi];rfl) j u hu
theorem Cal.imp{f:FuncId}{args:Array Value}{p q:Pc}{pre:List Pc}{al:Bool}{G:Type}{φ:G→Prop}{Zv:G→Value}{its:G→List Pc}(h:Cal P f args (p :: pre) al φ Zv its)(hh:∀w,q.holds w→p.holds w)(hf:∀b,p.fp b→q.fp b) :
  Cal P f args (q :: pre) al φ Zv its:=fun w hp=>by
 refine(h w fun r hr=>?_).mono ?_
 ·rcases List.mem_cons.1 hr with rfl | hr
  ·exact hh w (hp q (List.mem_cons_self ..))
  ·exact hp r (List.mem_cons_of_mem _ hr)
 ·rintro e w' ⟨g,he,hg,hb,hits⟩
  refine⟨g,he,hg,hb,fun p' hp'=>?_⟩
  obtain⟨h1,h2,h3⟩:=hits p' hp'
  refine⟨h1,h2,fun b hb=>?_⟩
  rcases h3 b hb with h | ⟨h,r,hr,hrb⟩
  ·exact .inl h
  ·refine .inr ⟨h,?_⟩
   rcases List.mem_cons.1 hr with rfl | hr
   ·exact⟨q,List.mem_cons_self ..,hf b hrb⟩
   ·exact⟨r,List.mem_cons_of_mem _ hr,hrb⟩
end Go.Sky
namespace Go.Sky
def fill(n k:Nat)(f:Nat→Int):List Int:=mk n fun i=>if i<k then f i else 0
theorem Qa(n k:Nat)(f:Nat→Int):(fill n k f).length=n:=Yd _ _
theorem Zaf{n k:Nat}{f:Nat→Int}(h:k<n):(fill n k f).set k (f k)=fill n (k+1) f:=Le (by simp [Qa]) fun i hi=>by
 rw [List.length_set,Qa]at hi
 rw [Zif _ _ _ _ (by rw [Qa];exact h)]
 unfold fill
 rw [Me,Me,if_pos hi,if_pos hi]
 by_cases hk:i=k
 ·subst hk;rw [if_pos rfl,if_pos O]
 ·rw [if_neg hk]
  by_cases h2:i<k
  ·rw [if_pos h2,if_pos O]
  ·rw [if_neg h2,if_neg O]
theorem Eb(n:Nat)(f:Nat→Int):List.replicate n 0=fill n 0 f:=Le (by simp [Qa]) fun i hi=>by
 rw [List.length_replicate]at hi
 unfold fill;rw [Me,if_pos hi,if_neg O,Zan (by simpa using hi)];simp
theorem Hr(n:Nat)(f:Nat→Int):fill n n f=mk n f:=Ib fun i hi=>by rw [if_pos hi]
theorem Zzt(xs:List Int)(g:Int→Int):mk xs.length (fun i=>g (cf xs i))=xs.map g:=Le (by simp [Yd]) fun i hi=>by
 rw [Yd]at hi
 rw [Me,if_pos hi,Zan hi,Zan (p:=xs.map g) (by simpa using hi)];simp
theorem Zbq{n m:Nat}{f:Nat→Int}(h:∀i,i<n→bl (f i).natAbs≤m):Sz m (mk n f):=fun i=>by
 rw [Me];split
 ·exact h i ‹_›
 ·simp [Mz]
theorem Ot{p:List Int}(h:Tr p):Tr (Yh p):=by
 unfold Yh
 rcases Nat.lt_or_ge 1 p.length with h1 | h1
 ·right
  rw [Yd,Me,if_pos O]
  have h2:=h.mem (by intro e;rw [e]at h1;simp at h1)
  rw [show p.length-1-1+1=p.length-1 by omega]
  intro h3
  rcases Int.mul_eq_zero.1 h3 with h4 | h4
  ·exact h2 h4
  ·omega
 ·left
  exact List.eq_nil_of_length_eq_zero (by rw [Yd];omega)
theorem Zvw(xs:List Int)(c:Int):tzl (fill xs.length xs.length fun i=>cf xs i*c)=Yp xs c:=by
 rw [Hr,Zzt xs (· * c)];rfl
theorem Yeg{xs:List Int}(h:Tr xs):tzl (fill (xs.length-1) (xs.length-1) fun i=>cf xs (i+1)*((i:Int)+1))=Yh xs:=by
 rw [Hr];exact Bd (Ot h)
theorem Zzd{p:List Int}(h:p.length=0):Yh p=[]:=List.eq_nil_of_length_eq_zero (by unfold Yh;rw [Yd];omega)
theorem Zg8(p:List Int)(x:Int):Yy (p ++ [x])=(Int.gcd (Yy p) x:Int):=by unfold Yy;rw [List.foldl_append];rfl
theorem Ng(p:List Int):0≤Yy p:=by
 rcases Zfr p with rfl | ⟨ys,y,rfl⟩
 ·exact Int.le_refl _
 ·rw [Zg8];omega
theorem Lq{p:List Int}{k:Nat}(h:k<p.length):Yy (p.take (k+1))=(Int.gcd (Yy (p.take k)) (p.getD k 0):Int):=by rw [Qx 0 _ _ h,Zg8]
theorem Zn0{n:Nat} : ∀(p:List Int),Sz n p→bl (Yy p).natAbs≤n:=fun p=>by
 have key:∀k,k≤p.length→Sz n p→bl (Yy (p.take k)).natAbs≤n:=by
  intro k
  induction k with
  | zero=>intro _ _;rw [List.take_zero];exact Nat.zero_le _
  | succ k ih=>
   intro hk hs
   rw [Lq hk]
   have h1:=ih O hs
   have h2:=hs k
   have:=Zmg (Yy (p.take k)).natAbs (p.getD k 0).natAbs
   have h4:bl (p.getD k 0).natAbs≤n:=h2
   show bl (Nat.gcd _ _)≤n
   omega
 intro hs
 have:=key p.length (Nat.le_refl _) hs
 rwa [List.take_length]at this
theorem Ny(p:List Int):∀i,Yy p∣cf p i:=by
 have key:∀k,k≤p.length→∀i,i<k→Yy (p.take k)∣cf p i:=by
  intro k
  induction k with
  | zero=>intro _ i hi;omega
  | succ k ih=>
   intro hk i hi
   rw [Lq hk]
   rcases Nat.lt_or_ge i k with h | h
   ·exact Int.dvd_trans (Int.gcd_dvd_left ..) (ih O i h)
   ·have:i=k:=O
    subst this
    exact Int.gcd_dvd_right ..
 intro i
 rcases Nat.lt_or_ge i p.length with h | h
 ·have:=key p.length (Nat.le_refl _) i h
  rwa [List.take_length]at this
 ·rw [Ya h];exact Int.dvd_zero _
theorem Ar(p:List Int):Yy p=0↔∀i,cf p i=0:=by
 refine⟨fun h i=>by have:=Ny p i;rw [h]at this;exact Int.zero_dvd.1 this,fun h=>?_⟩
 have key:∀k,k≤p.length→Yy (p.take k)=0:=by
  intro k
  induction k with
  | zero=>intro _;rfl
  | succ k ih=>
   intro hk
   rw [Lq hk,ih O]
   have:=h k
   rw [show p.getD k 0=0 from this];rfl
 have:=key p.length (Nat.le_refl _)
 rwa [List.take_length]at this
theorem Gq{p:List Int}{d:Int}(h:∀i,d∣cf p i):d∣Yy p:=by
 have key:∀k,k≤p.length→d∣Yy (p.take k):=by
  intro k
  induction k with
  | zero=>intro _;exact Int.dvd_zero _
  | succ k ih=>
   intro hk
   rw [Lq hk]
   exact Int.dvd_coe_gcd (ih O) (h k)
 have:=key p.length (Nat.le_refl _)
 rwa [List.take_length]at this
theorem Cu(p:List Int)(i:Nat):cf (Zx p) i=cf p i/Yy p:=by
 unfold Zx
 rw [Zam _ _ O6]
theorem Zo(p:List Int):(Zx p).length=p.length:=by simp [Zx]
theorem Bp{x y:Int}{n:Nat}(h:y∣x)(hx:bl x.natAbs≤n):bl (x/y).natAbs≤n:=by
 have h1:(x/y).natAbs≤x.natAbs:=Int.natAbs_ediv_le_natAbs x y
 exact Nat.le_trans (Of h1) hx
theorem Yr{p:List Int}(h:Tr p):Tr (Zx p):=by
 rcases h with rfl | h
 ·left;rfl
 ·right
  rw [Cu,Zo]
  intro h0
  have hd:=Ny p (p.length-1)
  have:=Int.mul_ediv_cancel' hd
  rw [h0,Int.mul_zero]at this
  exact h this.symm
theorem Fc{n:Nat}{p:List Int}(h:Sz n p):Sz n (Zx p):=fun i=>by rw [Cu];exact Bp (Ny p i) (h i)
theorem Lo{p:List Int}(h:Vp p):Vp (Zx p):=⟨Fc h.sz,Yr h.tr,by rw [Zo];exact h.len⟩
theorem Vp.ne{p:List Int}(h:Vp p)(h0:p≠[]):Yy p≠0:=fun e=>h.tr.mem h0 ((Ar p).1 e _)
def Lh(p:List Int)(n d:Int)(i:Nat):Int:=Zs (fun m=>cf p (i+m)*(n^m*d^(p.length-1-(i+m)))) (p.length-i)
theorem Zoq(p:List Int)(n d:Int):Lh p n d 0=pev p n d:=by unfold Lh pev;simp only [Nat.zero_add,Nat.sub_zero]
theorem Ye6{p:List Int}(n d:Int)(h:0<p.length):Lh p n d (p.length-1)=cf p (p.length-1):=by
 unfold Lh
 rw [show p.length-(p.length-1)=0+1 by omega,Zy,Kh]
 simp
theorem Yae{p:List Int}(n d:Int){i:Nat}(h:i<p.length):Lh p n d i=Lh p n d (i+1)*n+cf p i*d^(p.length-1-i):=by
 unfold Lh
 rw [show p.length-i=p.length-(i+1)+1 by omega,Nk]
 rw [←Zgm]
 have:Zs (fun m=>cf p (i+(m+1))*(n^(m+1)*d^(p.length-1-(i+(m+1))))) (p.length-(i+1))=Zs (fun m=>cf p (i+1+m)*(n^m*d^(p.length-1-(i+1+m)))*n) (p.length-(i+1)):=
  Yg fun m hm=>by rw [show i+(m+1)=i+1+m by omega,Int.pow_succ];grind
 rw [this]
 simp only [Nat.add_zero,Int.pow_zero,Int.one_mul]
 omega
theorem Ycc{K:Nat}{f:Nat→Int} : ∀{n:Nat},(∀i,i<n→bl (f i).natAbs≤K)→(Zs f n).natAbs≤n*(2^K-1)
 | 0,_=>by simp [Zs]
 | n+1,h=>by
  have ih:=Ycc (n:=n) fun i hi=>h i O
  have h1:=(Xs K _).1 (h n O)
  rw [Zy,Nat.add_mul]
  have:=Int.natAbs_add_le (Zs f n) (f n)
  omega
theorem Zf9{K:Nat}{f:Nat→Int}{n:Nat}(h:∀i,i<n→bl (f i).natAbs≤K)(hn:n≤31):bl (Zs f n).natAbs≤K+5:=by
 rw [Xs]
 have h1:=Ycc h
 have h2:n*(2^K-1)≤31*(2^K-1):=Nat.mul_le_mul_right _ hn
 have h3:0<2^K:=Nat.two_pow_pos K
 rw [Nat.pow_add]
 omega
theorem Fy(x:Int){m:Nat}(h:bl x.natAbs≤m):∀k,0<k→bl (x^k).natAbs≤k*m
 | 0,h0=>O
 | 1,_=>by rw [Int.pow_succ,Int.pow_zero,Int.one_mul,Nat.one_mul];exact h
 | k+2,_=>by
  have ih:=Fy x h (k+1) O
  rw [Int.pow_succ,show k+2=(k+1)+1 from rfl,Nat.add_mul (k+1) 1 m]
  have:=Xb (x^(k+1)) x
  omega
theorem Zf8{a n d:Int}{A m i j:Nat}(ha:bl a.natAbs≤A)(hn:bl n.natAbs≤m)(hd:bl d.natAbs≤m):bl (a*(n^i*d^j)).natAbs≤A+(i+j)*m:=by
 rcases Nat.eq_zero_or_pos i with rfl | hi
 ·rcases Nat.eq_zero_or_pos j with rfl | hj
  ·simp;exact ha
  ·have h1:=Fy d hd j hj
   have h2:=Xb a (n^0*d^j)
   rw [Int.pow_zero,Int.one_mul]at h2 ⊢
   rw [Nat.zero_add];omega
 ·rcases Nat.eq_zero_or_pos j with rfl | hj
  ·have h1:=Fy n hn i hi
   have h2:=Xb a (n^i*d^0)
   rw [Int.pow_zero,Int.mul_one]at h2 ⊢
   rw [Nat.add_zero];omega
  ·have h1:=Fy n hn i hi
   have h2:=Fy d hd j hj
   have h3:=Xb (n^i) (d^j)
   have h4:=Xb a (n^i*d^j)
   rw [Nat.add_mul];omega
theorem Yce{p:List Int}{n d:Int}{A m:Nat}(hp:Sz A p)(hn:bl n.natAbs≤m)(hd:bl d.natAbs≤m)(hl:p.length≤31)(i:Nat):bl (Lh p n d i).natAbs≤A+(p.length-1-i)*m+5:=by
 unfold Lh
 refine Zf9 (fun k hk=>?_) O
 have h1:=Zf8 (i:=k) (j:=p.length-1-(i+k)) (hp (i+k)) hn hd
 rw [show k+(p.length-1-(i+k))=p.length-1-i by omega]at h1
 exact h1
def Mo(p:List Int)(n d:Int):Prop:=p≠[]∧65536<Xz p+(p.length-1)*Xz [n,d]+8
instance (p:List Int) (n d:Int):Decidable (Mo p n d):=by unfold Mo;infer_instance
def evv(p:List Int)(n d:Int):Int:=if Mo p n d then 0 else pev p n d
def eve(p:List Int)(n d:Int):Int:=if Mo p n d then 7 else 0
abbrev wc (x:Int):Array Value:=#[.bool (decide (x<0)),.string (Xn x.natAbs)]
section
variable {p:List Int} {n d:Int} (hF:Xz p+(p.length-1)*Xz [n,d]+8≤65536) (hl:p.length≤25)
include hF
theorem Ze9:bl n.natAbs≤Xz [n,d]∧bl d.natAbs≤Xz [n,d]:=by simp only [Xz];omega
theorem Zlu{k:Nat} : bl (d^(p.length-1-k)).natAbs≤65536:=by
 rcases Nat.eq_zero_or_pos (p.length-1-k)with h | h
 ·rw [h,Int.pow_zero];decide
 ·have h1:=Fy d (Ze9 hF).2 _ h
  have h2:(p.length-1-k)*Xz [n,d]≤(p.length-1)*Xz [n,d]:=Nat.mul_le_mul_right _ O
  omega
theorem Zlt{k:Nat} : bl (cf p k*d^(p.length-1-k)).natAbs≤65536:=by
 have h1:=Zf8 (i:=0) (j:=p.length-1-k) (Ld p k) (Ze9 hF).1 (Ze9 hF).2
 have h2:(0+(p.length-1-k))*Xz [n,d]≤(p.length-1)*Xz [n,d]:=Nat.mul_le_mul_right _ O
 rw [Int.pow_zero,Int.one_mul]at h1
 omega
include hl
theorem Zlv(k:Nat):bl (Lh p n d k).natAbs≤65536:=by
 have h1:=Yce (Ld p) (Ze9 hF).1 (Ze9 hF).2 O k
 have h2:(p.length-1-k)*Xz [n,d]≤(p.length-1)*Xz [n,d]:=Nat.mul_le_mul_right _ O
 omega
theorem Zq3{k:Nat}(h1:1≤k)(h2:k≤p.length-1):bl (Lh p n d k*n).natAbs≤65536:=by
 have h3:=Yce (Ld p) (Ze9 hF).1 (Ze9 hF).2 O k
 have h4:=Xb (Lh p n d k) n
 have h5:=(Ze9 hF).1
 have h6:(p.length-1-k)*Xz [n,d]+Xz [n,d]≤(p.length-1)*Xz [n,d]:=by
  rw [←Nat.succ_mul];exact Nat.mul_le_mul_right _ O
 omega
end
theorem evv_bl{p:List Int}{n d:Int}(hl:p.length≤25):bl (evv p n d).natAbs≤65536:=by
 unfold evv
 split
 ·decide
 ·rename_i h
  rcases Nat.eq_zero_or_pos p.length with h0 | h0
  ·rw [List.eq_nil_of_length_eq_zero h0,show pev [] n d=0 from rfl];decide
  ·rw [←Zoq]
   have hne:p≠[]:=fun e=>by rw [e]at h0;simp at h0
   exact Zlv (Nat.le_of_not_lt fun hlt=>h ⟨hne,hlt⟩) hl 0
theorem Zy4(d:Int){L k:Nat}(h1:1≤k)(h2:k≤L):d^(L-k)*d=d^(L-(k-1)):=by
 rw [show L-(k-1)=L-k+1 by omega,Int.pow_succ]
theorem Zwi{p:List Int}(n d:Int){k:Nat}(h1:1≤k)(h2:k≤p.length-1):Lh p n d k*n+cf p (k-1)*d^(p.length-1-(k-1))=Lh p n d (k-1):=by
 rw [Yae n d (i:=k-1) O,show k-1+1=k by omega]
end Go.Sky
namespace Go.Sky
def acc(p q:List Int)(i t:Nat):Int:=Zs (fun k=>if k≤t then cf p k*cf q (t-k)else 0) i
def Cv(p q:List Int)(i j t:Nat):Int:=acc p q i t+if i≤t∧t<i+j then cf p i*cf q (t-i)else 0
theorem Zw2(p q:List Int)(i:Nat):Cv p q i 0=acc p q i:=funext fun t=>by
 unfold Cv;rw [if_neg O,Int.add_zero]
theorem Ycv(p q:List Int)(i:Nat):Cv p q i q.length=acc p q (i+1):=funext fun t=>by
 unfold Cv acc
 rw [Zy]
 by_cases h:i≤t
 ·rw [if_pos h]
  by_cases h2:t<i+q.length
  ·rw [if_pos ⟨h,h2⟩]
  ·rw [if_neg (fun h=>h2 h.2),Ya (p:=q) O,Int.mul_zero]
 ·rw [if_neg h,if_neg (fun h2=>h h2.1)]
theorem Zhh{L k:Nat}{f g:Nat→Int}(hk:k<L)(h:∀t,t<L→t≠k→f t=g t)(x:Int)(hx:x=g k):(mk L f).set k x=mk L g:=Le (by simp [Yd]) fun t ht=>by
 rw [List.length_set,Yd]at ht
 rw [Zif _ _ _ _ (by rw [Yd];exact hk),Me,Me,if_pos ht]
 by_cases htk:t=k
 ·rw [if_pos htk,htk,hx,if_pos hk]
 ·rw [if_neg htk,if_pos ht,h t ht htk]
theorem Ycu{p q:List Int}{L i j:Nat}(h:i+j<L):(mk L (Cv p q i j)).set (i+j) (Cv p q i j (i+j)+cf p i*cf q j)=mk L (Cv p q i (j+1)):=by
 refine Zhh h (fun t ht hne=>?_) _ ?_
 ·unfold Cv
  by_cases h1:i≤t∧t<i+j
  ·rw [if_pos h1,if_pos O]
  ·rw [if_neg h1,if_neg O]
 ·unfold Cv
  rw [if_neg O,if_pos O,Int.add_zero,show i+j-i=j by omega]
theorem Zpt(p q:List Int)(t:Nat):acc p q p.length t=(ps p*ps q).c t:=by
 rw [PS.mul_c]
 unfold acc
 have h1:Zs (fun k=>if k≤t then cf p k*cf q (t-k)else 0) (max (t+1) p.length)=Zs (fun k=>if k≤t then cf p k*cf q (t-k)else 0) p.length:=
  Zd9 O fun k h1 _=>by rw [Ya h1,Int.zero_mul];split<;>rfl
 have h2:Zs (fun k=>if k≤t then cf p k*cf q (t-k)else 0) (max (t+1) p.length)=Zs (fun k=>if k≤t then cf p k*cf q (t-k)else 0) (t+1):=
  Zd9 O fun k h1 _=>by rw [if_neg O]
 rw [←h1,h2]
 exact Yg fun k hk=>by rw [if_pos O];rfl
theorem Zqg(L:Nat):List.replicate L 0=mk L fun _=>0:=by
 rw [Eb L fun _=>0];unfold fill;exact Ib fun i _=>by split<;>rfl
theorem Zy8(p q:List Int):tzl (mk (p.length+q.length-1) (acc p q p.length))=Xw p q:=by
 unfold Xw;congr 1;exact Ib fun i _=>Zpt p q i
theorem Ygn{p q:List Int}{A B i j t:Nat}(hp:Sz A p)(hq:Sz B q)(hi:i<31):bl (Cv p q i j t).natAbs≤A+B+5:=by
 have h:Cv p q i j t=Zs (fun k=>if k<i then(if k≤t then cf p k*cf q (t-k)else 0)else if i≤t∧t<i+j then cf p i*cf q (t-i)else 0) (i+1):=by
  rw [Zy]
  rw [if_neg (Nat.lt_irrefl i)]
  unfold Cv acc
  congr 1
  exact Yg fun k hk=>by rw [if_pos hk]
 rw [h]
 have hm:∀a b,bl (cf p a*cf q b).natAbs≤A+B:=fun a b=>by have:=Xb (cf p a) (cf q b);have:=hp a;have:=hq b;omega
 refine Zf9 (fun k hk=>?_) O
 split
 ·split
  ·exact hm _ _
  ·simp [Mz]
 ·split
  ·exact hm _ _
  ·simp [Mz]
theorem bl_acc{p q:List Int}{A B i t:Nat}(hp:Sz A p)(hq:Sz B q)(hi:i≤31):bl (acc p q i t).natAbs≤A+B+5:=by
 refine Zf9 (fun k hk=>?_) hi
 split
 ·have:=Xb (cf p k) (cf q (t-k));have:=hp k;have:=hq (t-k);omega
 ·simp [Mz]
def Dj(p q:List Int):Prop:=p≠[]∧q≠[]∧(24<p.length+q.length-2∨65536<Xz p+Xz q+5)
instance (p q:List Int):Decidable (Dj p q):=by unfold Dj;infer_instance
theorem Zbb{L i:Nat}{f:Nat→Int}(h:i<L):(mk L f).getD i 0=f i:=by
 have:=Me L f i;rw [if_pos h]at this;exact this
def Yfo(p q:List Int):Bool:=decide (q≠[]) && decide (p.length<q.length)
def Fx(p q:List Int):Int:=if q.length=0 then 3 else if p.length<q.length then 0 else if 65536<Xz p+(p.length-q.length+1)*(Xz q+1)then 7 else 0
def Ze4(q r:List Int)(top:Nat):List Int:=
 mk r.length fun t=>cf r t*cf q (q.length-1)-if top-(q.length-1)≤t∧t<top-(q.length-1)+q.length then cf r top*cf q (t-(top-(q.length-1)))else 0
def Xy(p q:List Int):Nat→List Int
 | 0=>p
 | j+1=>Ze4 q (Xy p q j) (p.length-1-j)
theorem Zdk(q r:List Int)(top:Nat):(Ze4 q r top).length=r.length:=Yd _ _
theorem Nl(p q:List Int):∀j,(Xy p q j).length=p.length
 | 0=>rfl
 | j+1=>by unfold Xy;rw [Zdk,Nl p q j]
def Xm(p q:List Int):List Int:=if p.length<q.length then p else tzl (Xy p q (p.length-q.length+1))
theorem Zpk{q r:List Int}{top t:Nat}(ht:t<r.length):cf (Ze4 q r top) t=cf r t*cf q (q.length-1)-if top-(q.length-1)≤t∧t<top-(q.length-1)+q.length then cf r top*cf q (t-(top-(q.length-1)))else 0:=by
 unfold Ze4;rw [Me,if_pos ht]
theorem Zux{a b c d:Int}{A B:Nat}(ha:bl a.natAbs≤A)(hb:bl b.natAbs≤B)(hc:bl c.natAbs≤A)(hd:bl d.natAbs≤B):bl (a*b-c*d).natAbs≤A+(B+1):=by
 have h1:=Xb a b
 have h2:=Xb c d
 have h3:=Zbg (a*b) (c*d)
 omega
theorem Zxn{q r:List Int}{A B:Nat}(hr:Sz A r)(hq:Sz B q)(top:Nat):Sz (A+(B+1)) (Ze4 q r top):=by
 unfold Ze4
 refine Zbq fun t ht=>?_
 split
 ·exact Zux (hr t) (hq _) (hr _) (hq _)
 ·rw [Int.sub_zero]
  have:=Xb (cf r t) (cf q (q.length-1));have:=hr t;have:=hq (q.length-1);omega
theorem Zd6(p q:List Int):∀j,Sz (Xz p+j*(Xz q+1)) (Xy p q j)
 | 0=>by rw [Nat.zero_mul];exact Ld p
 | j+1=>by
  unfold Xy
  rw [Nat.succ_mul,←Nat.add_assoc]
  exact Zxn (Zd6 p q j) (Ld q) _
def dq(q r:List Int)(k:Nat):Int:=cf r (k+q.length-1)/cf q (q.length-1)
def Zh3(q r:List Int)(k:Nat):List Int:=mk r.length fun t=>cf r t-if k≤t∧t<k+q.length then dq q r k*cf q (t-k)else 0
def Qc(p q:List Int):Nat→List Int
 | 0=>p
 | j+1=>Zh3 q (Qc p q j) (p.length-q.length-j)
theorem Dw(p q:List Int):∀j,(Qc p q j).length=p.length
 | 0=>rfl
 | j+1=>by unfold Qc Zh3;rw [Yd,Dw p q j]
def Zt8(p q:List Int)(k:Nat):Int:=dq q (Qc p q (p.length-q.length-k)) k
def Lx(p q:List Int)(k:Nat):Prop:=cf (Qc p q (p.length-q.length-k)) (k+q.length-1)%cf q (q.length-1)=0
def Zy3(p q:List Int):List Int:=tzl (mk (p.length-q.length+1) (Zt8 p q))
def pdivs(p q:List Int):Prop:=p=[]∨(q.length≤p.length∧(∀k,k≤p.length-q.length→Lx p q k)∧∀i,cf (Qc p q (p.length-q.length+1)) i=0)
theorem Zxo{q r:List Int}{A B:Nat}(hr:Sz A r)(hq:Sz B q)(k:Nat)(he:cf r (k+q.length-1)%cf q (q.length-1)=0):Sz (A+(B+1)) (Zh3 q r k):=by
 unfold Zh3
 refine Zbq fun t ht=>?_
 split
 ·have h1:bl (dq q r k).natAbs≤A:=Bp (Int.dvd_of_emod_eq_zero he) (hr _)
  have h2:=Xb (dq q r k) (cf q (t-k))
  have h3:=Zbg (cf r t) (dq q r k*cf q (t-k))
  have:=hr t;have:=hq (t-k);omega
 ·rw [Int.sub_zero];have:=hr t;omega
theorem Zd8(p q:List Int):∀j,j≤p.length-q.length+1→(∀k,p.length-q.length<k+j→k≤p.length-q.length→Lx p q k)→Sz (Xz p+j*(Xz q+1)) (Qc p q j)
 | 0,_,_=>by rw [Nat.zero_mul];exact Ld p
 | j+1,hj,h=>by
  unfold Qc
  rw [Nat.succ_mul,←Nat.add_assoc]
  refine Zxo (Zd8 p q j O fun k h1 h2=>h k O h2) (Ld q) _ ?_
  have:=h (p.length-q.length-j) O O
  unfold Lx at this
  rw [show p.length-q.length-(p.length-q.length-j)=j by omega]at this
  exact this
theorem Ya1{x y:Bool×ByteArray}(h:eqW x.1 x.2 y.1 y.2=true):x=y:=by
 obtain⟨h1,h2⟩:=Zlw.1 h
 exact Prod.ext h1 h2
theorem Ya0(a:Bool)(s:ByteArray):eqW a s a s=true:=Zlw.2 ⟨rfl,rfl⟩
theorem Zw3(p q:List Int)(i j:Nat):Cv p q i (j+1) (i+j)=Cv p q i j (i+j)+cf p i*cf q j:=by
 unfold Cv
 rw [if_pos O,if_neg O,Int.add_zero,show i+j-i=j by omega]
theorem Zc9{p q:List Int}(h:p.length=0∨q.length=0):Xw p q=[]:=by
 unfold Xw
 refine(Ma _).2 fun i=>?_
 rw [Me]
 split
 ·rw [PS.mul_c]
  refine Hf fun k _=>?_
  rcases h with h | h
  ·rw [Pr,Ya O,Int.zero_mul]
  ·rw [Pr,Pr,Ya (p:=q) O,Int.mul_zero]
 ·rfl
def Zfg(R:List Int)(l:Int)(i:Nat):List Int:=mk R.length fun t=>if t<i then cf R t*l else cf R t
def Zis(q R:List Int)(l c:Int)(s i:Nat):List Int:=mk R.length fun t=>cf R t*l-if s≤t∧t<s+i then c*cf q (t-s)else 0
theorem Zof(R:List Int)(l:Int)(i:Nat):(Zfg R l i).length=R.length:=Yd _ _
theorem Zoe(q R:List Int)(l c:Int)(s i:Nat):(Zis q R l c s i).length=R.length:=Yd _ _
theorem Zv5(R:List Int)(l:Int):Zfg R l 0=R:=by
 unfold Zfg
 refine Eq.trans (Ib fun i hi=>?_) (Zdi R)
 rw [if_neg O]
theorem Zzr{R:List Int}{l:Int}{i:Nat}(h:i<R.length):(Zfg R l i).getD i 0=cf R i:=by
 unfold Zfg;rw [Zbb h,if_neg O]
theorem Zzq{R:List Int}{l:Int}{i:Nat}(h:i<R.length):(Zfg R l i).set i (cf R i*l)=Zfg R l (i+1):=by
 unfold Zfg
 refine Zhh h (fun t ht hne=>?_) _ (by rw [if_pos O])
 by_cases h2:t<i
 ·rw [if_pos h2,if_pos O]
 ·rw [if_neg h2,if_neg O]
theorem Zvf(q R:List Int)(l c:Int)(s:Nat):Zfg R l R.length=Zis q R l c s 0:=by
 unfold Zfg Zis
 exact Ib fun i hi=>by rw [if_pos hi,if_neg O,Int.sub_zero]
theorem Zxs{q R:List Int}{l c:Int}{s i:Nat}(h:s+i<R.length):(Zis q R l c s i).getD (s+i) 0=cf R (s+i)*l:=by
 unfold Zis;rw [Zbb h,if_neg O,Int.sub_zero]
theorem Zxr{q R:List Int}{l c:Int}{s i:Nat}(h:s+i<R.length):(Zis q R l c s i).set (s+i) (cf R (s+i)*l-c*cf q i)=Zis q R l c s (i+1):=by
 unfold Zis
 refine Zhh h (fun t ht hne=>?_) _ (by rw [if_pos O,show s+i-s=i by omega])
 by_cases h2:s≤t∧t<s+i
 ·rw [if_pos h2,if_pos O]
 ·rw [if_neg h2,if_neg O]
theorem rest_b{p q:List Int}{j:Nat}(hF:Xz p+(p.length-q.length+1)*(Xz q+1)≤65536)(hj:j<p.length-q.length+1) :
  (∀t,bl (cf (Xy p q j) t).natAbs≤65536)∧(∀t i,bl (cf (Xy p q j) t*cf q i).natAbs≤65536)∧(∀t i t2 i2,bl (cf (Xy p q j) t*cf q i-cf (Xy p q j) t2*cf q i2).natAbs≤65536):=by
 have h1:=Zd6 p q j
 have h2:j*(Xz q+1)+(Xz q+1)≤(p.length-q.length+1)*(Xz q+1):=by rw [←Nat.succ_mul];exact Nat.mul_le_mul_right _ O
 refine⟨fun t=>by have:=h1 t;omega,fun t i=>?_,fun t i t2 i2=>?_⟩
 ·have:=h1 t;have:=Ld q i;have:=Xb (cf (Xy p q j) t) (cf q i);omega
 ·have:=Zux (h1 t) (Ld q i) (h1 t2) (Ld q i2);omega
theorem Zm3{p q:List Int}(hF:Xz p+(p.length-q.length+1)*(Xz q+1)≤65536):Sz 65536 (Xy p q (p.length-q.length+1)):=(Zd6 p q _).mono hF
theorem Zbc{p q:List Int}(h:Fx p q=0):q.length≠0∧(q.length≤p.length→Xz p+(p.length-q.length+1)*(Xz q+1)≤65536):=by
 unfold Fx at h
 split at h
 ·omega
 ·refine⟨‹_›,fun hle=>?_⟩
  rw [if_neg O]at h
  split at h
  ·omega
  ·omega
theorem Zds{p q:List Int}(h:q.length≠0):Yfo p q=decide (p.length<q.length):=by
 unfold Yfo
 have h2:q≠[]:=fun e=>h (by rw [e];rfl)
 simp [h2]
def Zi0(q R:List Int)(c:Int)(k i:Nat):List Int:=mk R.length fun t=>cf R t-if k≤t∧t<k+i then c*cf q (t-k)else 0
theorem Zog(q R:List Int)(c:Int)(k i:Nat):(Zi0 q R c k i).length=R.length:=Yd _ _
theorem Zwo(q R:List Int)(c:Int)(k:Nat):R=Zi0 q R c k 0:=by
 unfold Zi0
 refine Eq.trans (Zdi R).symm (Ib fun i hi=>?_)
 rw [if_neg O,Int.sub_zero]
theorem Ya8{q R:List Int}{c:Int}{k i:Nat}(h:k+i<R.length):(Zi0 q R c k i).getD (k+i) 0=cf R (k+i):=by
 unfold Zi0;rw [Zbb h,if_neg O,Int.sub_zero]
theorem Ya7{q R:List Int}{c:Int}{k i:Nat}(h:k+i<R.length):(Zi0 q R c k i).set (k+i) (cf R (k+i)-c*cf q i)=Zi0 q R c k (i+1):=by
 unfold Zi0
 refine Zhh h (fun t ht hne=>?_) _ (by rw [if_pos O,show k+i-k=i by omega])
 by_cases h2:k≤t∧t<k+i
 ·rw [if_pos h2,if_pos O]
 ·rw [if_neg h2,if_neg O]
def Zep(p q:List Int)(j:Nat):List Int:=mk (p.length-q.length+1) fun t=>if p.length-q.length<t+j then Zt8 p q t else 0
theorem Az(p q:List Int)(j:Nat):(Zep p q j).length=p.length-q.length+1:=Yd _ _
theorem Zwq(p q:List Int):List.replicate (p.length-q.length+1) 0=Zep p q 0:=by
 rw [Zqg];unfold Zep
 exact Ib fun i hi=>by rw [if_neg O]
theorem Ybb{p q:List Int}{j:Nat}(hj:j<p.length-q.length+1):(Zep p q j).set (p.length-q.length-j) (dq q (Qc p q j) (p.length-q.length-j))=Zep p q (j+1):=by
 unfold Zep
 refine Zhh O (fun t ht hne=>?_) _ ?_
 ·by_cases h2:p.length-q.length<t+j
  ·rw [if_pos h2,if_pos O]
  ·rw [if_neg h2,if_neg O]
 ·rw [if_pos O];unfold Zt8;rw [show p.length-q.length-(p.length-q.length-j)=j by omega]
theorem Zdr(p q:List Int):tzl (Zep p q (p.length-q.length+1))=Zy3 p q:=by
 unfold Zep Zy3
 congr 1
 exact Ib fun i hi=>by rw [if_pos O]
def pdv(p q:List Int):Prop:=p=[]∨(q.length≤p.length∧(∀k,k≤p.length-q.length→Lx p q k)∧tzl (Qc p q (p.length-q.length+1))=[])
instance (p q:List Int) (k:Nat):Decidable (Lx p q k):=by unfold Lx;infer_instance
instance (p q:List Int):Decidable (pdv p q):=by unfold pdv;infer_instance
theorem div_b{p q:List Int}{j:Nat}(hF:Xz p+(p.length-q.length+1)*(Xz q+1)≤65536)(hj:j<p.length-q.length+1)(hx:∀k,p.length-q.length<k+j→k≤p.length-q.length→Lx p q k) :
  (∀t,bl (cf (Qc p q j) t).natAbs≤65536)∧(Lx p q (p.length-q.length-j)→bl (dq q (Qc p q j) (p.length-q.length-j)).natAbs≤65536∧(∀i,bl (dq q (Qc p q j) (p.length-q.length-j)*cf q i).natAbs≤65536)∧
   ∀t i,bl (cf (Qc p q j) t-dq q (Qc p q j) (p.length-q.length-j)*cf q i).natAbs≤65536):=by
 have h1:=Zd8 p q j O hx
 have h2:j*(Xz q+1)+(Xz q+1)≤(p.length-q.length+1)*(Xz q+1):=by rw [←Nat.succ_mul];exact Nat.mul_le_mul_right _ O
 refine⟨fun t=>by have:=h1 t;omega,fun he=>?_⟩
 unfold Lx at he
 rw [show p.length-q.length-(p.length-q.length-j)=j by omega]at he
 have h3:bl (dq q (Qc p q j) (p.length-q.length-j)).natAbs≤Xz p+j*(Xz q+1):=Bp (Int.dvd_of_emod_eq_zero he) (h1 _)
 have h4:∀i,bl (dq q (Qc p q j) (p.length-q.length-j)*cf q i).natAbs≤Xz p+j*(Xz q+1)+Xz q:=fun i=>by
  have:=Xb (dq q (Qc p q j) (p.length-q.length-j)) (cf q i);have:=Ld q i;omega
 refine⟨O,fun i=>by have:=h4 i;omega,fun t i=>?_⟩
 have:=Zbg (cf (Qc p q j) t) (dq q (Qc p q j) (p.length-q.length-j)*cf q i)
 have:=h4 i
 have:=h1 t
 omega
theorem Zsb{p q:List Int}(hF:Xz p+(p.length-q.length+1)*(Xz q+1)≤65536)(hx:∀k,k≤p.length-q.length→Lx p q k)(j:Nat):Sz 65536 (Zep p q j):=by
 unfold Zep
 refine Zbq fun t ht=>?_
 split
 ·have h1:=(div_b hF (j:=p.length-q.length-t) O (fun k _ hk=>hx k hk)).2
  rw [show p.length-q.length-(p.length-q.length-t)=t by omega]at h1
  exact(h1 (hx t O)).1
 ·simp [Mz]
theorem Zxp{p q:List Int}(hF:Xz p+(p.length-q.length+1)*(Xz q+1)≤65536)(hx:∀k,k≤p.length-q.length→Lx p q k):Sz 65536 (Qc p q (p.length-q.length+1)):=
 (Zd8 p q _ (Nat.le_refl _) fun k _ hk=>hx k hk).mono hF
def Ni(p:List Int)(a b d:Int):Nat→List Int
 | 0=>[cf p (p.length-1)]
 | j+1=>mk ((Ni p a b d j).length+1) fun t=>cf (Ni p a b d j) t*a+(if t=0 then cf p (p.length-2-j)*d^(j+1)else cf (Ni p a b d j) (t-1)*b)
theorem Gt(p:List Int)(a b d:Int):Ni p a b d 0=[cf p (p.length-1)]:=rfl
theorem Zww(p:List Int)(a b d:Int)(j:Nat):Ni p a b d (j+1)=mk ((Ni p a b d j).length+1) (fun t=>cf (Ni p a b d j) t*a+(if t=0 then cf p (p.length-2-j)*d^(j+1)else cf (Ni p a b d j) (t-1)*b)):=rfl
theorem Zaa(p:List Int)(a b d:Int):∀j,(Ni p a b d j).length=j+1
 | 0=>rfl
 | j+1=>by unfold Ni;rw [Yd,Zaa p a b d j]
def Lc(p:List Int)(a b d:Int):List Int:=if p.length=0 then []else tzl (Ni p a b d (p.length-1))
def Zh8(p:List Int)(a b d:Int):Prop:=p≠[]∧65536<Xz p+(p.length-1)*(Xz [a,b,d]+1)+8
instance (p:List Int) (a b d:Int):Decidable (Zh8 p a b d):=by unfold Zh8;infer_instance
def Ly(p q:List Int):List Int:=if p=[]then []else Zy3 p q
theorem Znu{p q:List Int}(h:p≠[]):Ly p q=Zy3 p q:=if_neg h
theorem Zo3{p q:List Int}{j:Nat}(hj:j≤p.length-q.length):Lx p q (p.length-q.length-j)↔cf (Qc p q j) (p.length-q.length-j+q.length-1)%cf q (q.length-1)=0:=by
 unfold Lx;rw [show p.length-q.length-(p.length-q.length-j)=j by omega]
theorem Zpj{x y:Int}(hy:y≠0)(hb:bl y.natAbs≤65536):Cr (x%y)=x%y:=Ll (Nat.le_trans (Zuz x y hy) hb)
def cnx(c:List Int)(a b:Int)(i:Nat):List Int:=mk (c.length+1) fun t=>if t<i then cf c t*a+(if t=0 then 0 else cf c (t-1)*b)else if t=i∧0<i then cf c (t-1)*b else 0
theorem Km(c:List Int)(a b:Int)(i:Nat):(cnx c a b i).length=c.length+1:=Yd _ _
theorem Ybx(c:List Int)(a b:Int):List.replicate (c.length+1) 0=cnx c a b 0:=by
 rw [Zqg];unfold cnx
 exact Ib fun i hi=>by rw [if_neg O,if_neg O]
theorem Zuj{c:List Int}{a b:Int}{i:Nat}(h:i<c.length):(cnx c a b i).getD i 0=if i=0 then 0 else cf c (i-1)*b:=by
 unfold cnx
 rw [Zbb O,if_neg O]
 by_cases h0:i=0
 ·rw [if_neg O,if_pos h0]
 ·rw [if_pos O,if_neg h0]
theorem Yfx{c:List Int}{a b:Int}{i:Nat}(h:i<c.length):((cnx c a b i).set i ((cnx c a b i).getD i 0+cf c i*a)).set (i+1) (cf c i*b)=cnx c a b (i+1):=Le (by simp [Km]) fun t ht=>by
 rw [List.length_set,List.length_set,Km]at ht
 rw [Zif _ _ _ _ (by rw [List.length_set,Km];omega),Zif _ _ _ _ (by rw [Km];omega),Zuj h]
 unfold cnx
 rw [Me,Me,if_pos ht,if_pos ht]
 by_cases h1:t=i+1
 ·subst h1;rw [if_pos rfl,if_neg O,if_pos O,show i+1-1=i by omega]
 ·rw [if_neg h1]
  by_cases h2:t=i
  ·subst h2
   rw [if_pos rfl,if_pos (Nat.lt_succ_self t)]
   split<;>omega
  ·rw [if_neg h2]
   by_cases h3:t<i
   ·simp [h3,show t<i+1 by omega]
   ·simp [h3,h2,h1,show ¬t<i+1 by omega]
theorem Zpg{c:List Int}{a b:Int}(h:0<c.length):(cnx c a b c.length).getD 0 0=cf c 0*a:=by
 unfold cnx
 rw [Zbb O,if_pos h,if_pos rfl,Int.add_zero]
theorem Yfy{c:List Int}{a b w:Int}(h:0<c.length):(cnx c a b c.length).set 0 ((cnx c a b c.length).getD 0 0+w)=mk (c.length+1) fun t=>cf c t*a+(if t=0 then w else cf c (t-1)*b):=Le (by simp [Km,Yd]) fun t ht=>by
 rw [List.length_set,Km]at ht
 rw [Zif _ _ _ _ (by rw [Km];omega),Zpg h,Me,if_pos ht]
 unfold cnx
 rw [Me,if_pos ht]
 by_cases h1:t=0
 ·rw [if_pos h1,if_pos h1,h1]
 ·rw [if_neg h1,if_neg h1,if_neg h1]
  by_cases h2:t<c.length
  ·rw [if_pos h2]
  ·rw [if_neg h2,if_pos (show t=c.length∧0<c.length by omega),Ya (i:=t) O];omega
theorem Zfp{p:List Int}{x y z:Int}{A m:Nat}(hp:Sz A p)(hx:bl x.natAbs≤m)(hy:bl y.natAbs≤m)(hz:bl z.natAbs≤m):∀j,Sz (A+j*(m+1)) (Ni p x y z j)
 | 0=>Sz.of_mem fun w hw=>by
  have hw:w∈[cf p (p.length-1)]:=hw
  rw [List.mem_singleton.1 hw];have:=hp (p.length-1);omega
 | j+1=>by
  have ih:=Zfp hp hx hy hz j
  unfold Ni
  refine Zbq fun t ht=>?_
  have h1:=Xb (cf (Ni p x y z j) t) x
  have h2:=ih t
  have e:(j+1)*(m+1)=j*(m+1)+m+1:=by rw [Nat.succ_mul];omega
  split
  ·have h3:=Zf8 (i:=0) (j:=j+1) (hp (p.length-2-j)) hx hz
   rw [Int.pow_zero,Int.one_mul]at h3
   have h4:(0+(j+1))*m≤j*(m+1)+m:=by rw [Nat.zero_add,Nat.succ_mul];have:j*m≤j*(m+1):=Nat.mul_le_mul_left _ O;omega
   have h5:=Hy (cf (Ni p x y z j) t*x) (cf p (p.length-2-j)*z^(j+1))
   omega
  ·have h3:=Xb (cf (Ni p x y z j) (t-1)) y
   have h4:=ih (t-1)
   have h5:=Hy (cf (Ni p x y z j) t*x) (cf (Ni p x y z j) (t-1)*y)
   omega
section
variable {p:List Int} {x y z:Int} (hF:Xz p+(p.length-1)*(Xz [x,y,z]+1)+8≤65536) {j:Nat} (hj:j<p.length-1)
include hF hj
theorem cp_all:bl (z^j).natAbs≤65536∧bl (z^(j+1)).natAbs≤65536∧(∀t,bl (cf (Ni p x y z j) t).natAbs≤65536)∧(∀t,bl (cf (Ni p x y z j) t*x).natAbs≤65536)∧(∀t,bl (cf (Ni p x y z j) t*y).natAbs≤65536)∧
  (∀t,bl ((if t=0 then 0 else cf (Ni p x y z j) (t-1)*y)).natAbs≤65536)∧(∀t,bl ((if t=0 then 0 else cf (Ni p x y z j) (t-1)*y)+cf (Ni p x y z j) t*x).natAbs≤65536)∧
  bl (cf p (p.length-2-j)*z^(j+1)).natAbs≤65536∧bl (cf (Ni p x y z j) 0*x+cf p (p.length-2-j)*z^(j+1)).natAbs≤65536:=by
 have hx:bl x.natAbs≤Xz [x,y,z]:=by simp only [Xz];omega
 have hy:bl y.natAbs≤Xz [x,y,z]:=by simp only [Xz];omega
 have hz:bl z.natAbs≤Xz [x,y,z]:=by simp only [Xz];omega
 have hc:=Zfp (Ld p) hx hy hz j
 generalize Xz [x,y,z]=m at *
 have e:j*(m+1)+(m+1)≤(p.length-1)*(m+1):=by rw [←Nat.succ_mul];exact Nat.mul_le_mul_right _ O
 have hjm:j*m≤j*(m+1):=Nat.mul_le_mul_left _ O
 have h3:=Zf8 (i:=0) (j:=j+1) (Ld p (p.length-2-j)) hx hz
 rw [Int.pow_zero,Int.one_mul,Nat.zero_add,Nat.succ_mul]at h3
 have hz1:=Fy z hz (j+1) O
 rw [Nat.succ_mul]at hz1
 have hp0:bl (z^j).natAbs≤65536:=by
  rcases Nat.eq_zero_or_pos j with h | h
  ·rw [h,Int.pow_zero];decide
  ·have:=Fy z hz j h;omega
 have g1:∀t,bl (cf (Ni p x y z j) t*x).natAbs≤Xz p+j*(m+1)+m:=fun t=>by have:=Xb (cf (Ni p x y z j) t) x;have:=hc t;omega
 have g2:∀t,bl (cf (Ni p x y z j) t*y).natAbs≤Xz p+j*(m+1)+m:=fun t=>by have:=Xb (cf (Ni p x y z j) t) y;have:=hc t;omega
 have g3:∀t,bl ((if t=0 then 0 else cf (Ni p x y z j) (t-1)*y)).natAbs≤Xz p+j*(m+1)+m:=fun t=>by
  split
  ·simp [Mz]
  ·exact g2 _
 refine⟨hp0,O,fun t=>by have:=hc t;omega,fun t=>by have:=g1 t;omega,fun t=>by have:=g2 t;omega,fun t=>by have:=g3 t;omega,fun t=>?_,O,?_⟩
 ·have:=Hy (if t=0 then 0 else cf (Ni p x y z j) (t-1)*y) (cf (Ni p x y z j) t*x)
  have:=g1 t;have:=g3 t;omega
 ·have:=Hy (cf (Ni p x y z j) 0*x) (cf p (p.length-2-j)*z^(j+1))
  have:=g1 0;omega
end
theorem Yfv{p:List Int}{x y z:Int}(hF:Xz p+(p.length-1)*(Xz [x,y,z]+1)+8≤65536):Sz 65536 (Ni p x y z (p.length-1)):=by
 have hx:bl x.natAbs≤Xz [x,y,z]:=by simp only [Xz];omega
 have hy:bl y.natAbs≤Xz [x,y,z]:=by simp only [Xz];omega
 have hz:bl z.natAbs≤Xz [x,y,z]:=by simp only [Xz];omega
 exact(Zfp (Ld p) hx hy hz _).mono O
theorem Zfh(p q:List Int):(Xm p q).length≤p.length:=by
 unfold Xm
 split
 ·exact Nat.le_refl _
 ·have:=Ke (Xy p q (p.length-q.length+1));rw [Nl]at this;exact this
theorem Af{p q:List Int}(hp:Vp p)(hd:Fx p q=0):Vp (Xm p q):=by
 have hl:=Zfh p q
 refine⟨?_,?_,by have:=hp.len;omega⟩
 ·unfold Xm
  split
  ·exact hp.sz
  ·exact(Zm3 ((Zbc hd).2 O)).tzl
 ·unfold Xm
  split
  ·exact hp.tr
  ·exact Xv _
def Zjx(p q:List Int):Prop:=p.length≠0∧q.length≠0∧65536<(max p.length q.length+2)*(max p.length q.length+2)*(max (Xz p) (Xz q)+8)
instance (p q:List Int):Decidable (Zjx p q):=by unfold Zjx;infer_instance
def gA(p q:List Int):List Int:=if p.length<q.length then Zx q else Zx p
def gB(p q:List Int):List Int:=if p.length<q.length then Zx p else Zx q
def eok:Nat→List Int→List Int→Prop
 | 0,_,b=>b=[]
 | f+1,a,b=>b=[]∨(Fx a b=0∧eok f b (Zx (Xm a b)))
def eu:Nat→List Int→List Int→List Int
 | 0,a,_=>a
 | f+1,a,b=>if b=[]then a else eu f b (Zx (Xm a b))
theorem Ya2{f:Nat}{a b:List Int}(h:eok f a b)(hb:b≠[]):∃g,f=g+1∧Fx a b=0∧eok g b (Zx (Xm a b))∧eu f a b=eu g b (Zx (Xm a b)):=by
 cases f with
 | zero=>exact absurd h hb
 | succ g=>
  rcases h with h | h
  ·exact absurd h hb
  ·exact⟨g,rfl,h.1,h.2,by show(if b=[]then a else _)=_;rw [if_neg hb]⟩
theorem Zeo(f:Nat)(a:List Int):eu f a []=a:=by cases f<;>rfl
def Kn(g:List Int):List Int:=if g.length≠0∧cf g (g.length-1)<0 then Yp g (-1)else g
def Ok(f:Nat)(p q:List Int):List Int:=Kn (eu f (gA p q) (gB p q))
theorem vp_gA{p q:List Int}(hp:Vp p)(hq:Vp q):Vp (gA p q):=by unfold gA;split<;>exact Lo ‹_›
theorem vp_gB{p q:List Int}(hp:Vp p)(hq:Vp q):Vp (gB p q):=by unfold gB;split<;>exact Lo ‹_›
theorem Br{p:List Int}(h:Sz 65536 p)(i:Nat):bl (cf p i * -1).natAbs≤65536:=by
 rw [Int.mul_neg,Int.mul_one,Int.natAbs_neg];exact h i
theorem Od(z:Int):z.sign<0↔z<0:=by
 rcases Int.lt_trichotomy z 0 with h | h | h
 ·rw [Int.sign_eq_neg_one_of_neg h];omega
 ·subst h;simp
 ·rw [Int.sign_eq_one_of_pos h];omega
end Go.Sky
namespace Go.Sky
theorem Zkh{l:List Int}(h:∀x∈l,Nc x):Sz 65536 l:=Sz.of_mem fun x hx=>by
 obtain⟨h1,h2⟩:=h x hx
 have:bl x.natAbs≤64:=(Xs 64 _).2 O
 omega
open Go.RowKit (Below)
set_option maxRecDepth 20000
theorem Qs:2≤1000000000:=O3
theorem Kb:0<1000000000:=O3
abbrev d9p (v:Value) (x:Nat):Pc:=Yk 1 Fk v (dg 1000000000 x)
theorem Ii(x:Nat):(dg 1000000000 x).length≤bl x:=by
 rw [Xf Qs]
 exact Nat.lt_of_lt_of_le (Fb x) (Nat.pow_le_pow_left O3 _)
theorem Zr8{b:Nat}(hb:2≤b){o:List Nat}(ho:∀d∈o,d<b){x:Nat}(hv:Zv b o=x)(h:o.length=0∨b^(o.length-1)≤x):o=dg b x:=by
 rw [←hv,Lv hb o ho]
 have h1:(tz o).length≤o.length:=(Fz o).1
 have h2:o.length≤(tz o).length:=by
  rw [←Lv hb o ho,hv]
  rcases h with h | h
  ·omega
  ·have:=(Pl hb (o.length-1) x).2 h;omega
 have h3:=(Fz o).2
 rw [List.take_of_length_le h2]at h3
 exact h3
theorem Zv0{b:Nat}{o xs ys:List Nat}{k c:Nat}(hl:o.length=k)(h:Zv b o+c*b^k=Zv b (xs.take k)+Zv b (ys.take k)) :
  Zv b (o ++ [(c+xs.getD k 0+ys.getD k 0)%b])+(c+xs.getD k 0+ys.getD k 0)/b*b^(k+1)=Zv b (xs.take (k+1))+Zv b (ys.take (k+1)):=by
 rw [Pv,Xh,Xh,hl]
 have e:=Nat.div_add_mod (c+xs.getD k 0+ys.getD k 0) b
 generalize (c+xs.getD k 0+ys.getD k 0)/b=q at *
 generalize (c+xs.getD k 0+ys.getD k 0)%b=r at *
 simp only [Zv,Nat.pow_succ]
 generalize b^k=B at *
 have:(b*q+r)*B=(c+xs.getD k 0+ys.getD k 0)*B:=by rw [e]
 grind
def d9s(a b c:Nat):Nat:=if a<b+c then a+1000000000-(b+c)else a-(b+c)
theorem Zuc{a b c:Nat}(ha:a<1000000000)(hb:b<1000000000)(hc:c≤1):d9s a b c<1000000000∧d9s a b c+(b+c)=a+brw a b c*1000000000:=by
 unfold d9s brw
 split<;>omega
theorem Zqr{o xs ys:List Nat}{k c:Nat}(hc:c≤1)(hx:xs.getD k 0<1000000000)(hy:ys.getD k 0<1000000000)(hl:o.length=k)(h:Zv 1000000000 o+Zv 1000000000 (ys.take k)=Zv 1000000000 (xs.take k)+c*1000000000^k) :
  Zv 1000000000 (o ++ [d9s (xs.getD k 0) (ys.getD k 0) c])+Zv 1000000000 (ys.take (k+1))=Zv 1000000000 (xs.take (k+1))+brw (xs.getD k 0) (ys.getD k 0) c*1000000000^(k+1):=by
 rw [Pv,Xh,Xh,hl]
 have e:=(Zuc hx hy hc).2
 generalize d9s (xs.getD k 0) (ys.getD k 0) c=r at *
 generalize brw (xs.getD k 0) (ys.getD k 0) c=q at *
 simp only [Zv,Nat.pow_succ]
 generalize 1000000000^k=B at *
 have:(r+(ys.getD k 0+c))*B=(xs.getD k 0+q*1000000000)*B:=by rw [e]
 grind
theorem Zim{p:Nat→Prop}{o:List Nat}(h:∀d∈o,p d){x:Nat}(hx:p x):∀d∈o ++ [x],p d:=fun d hd=>by
 rcases List.mem_append.1 hd with h1 | h1
 ·exact h d h1
 ·rw [List.mem_singleton.1 h1];exact hx
theorem Cf{b x k:Nat}(hb:2≤b)(h:k<(dg b x).length):b^k≤x:=(Pl hb k x).1 h
theorem Iv{b x k:Nat}(hb:2≤b)(h:(dg b x).length≤k):Zv b ((dg b x).take k)=x:=by rw [Oc _ _ _ h,Oz hb]
theorem Zm0{a b o c:Nat}(ha:a<1000000000)(hb:b<1000000000)(ho:o<1000000000)(hc:c<1000000000):(o+c+a*b)/1000000000<1000000000∧o+c+a*b≤9223372036854775807:=by
 have h:a*b≤999999999*999999999:=Nat.mul_le_mul O O
 refine⟨?_,O⟩
 rw [Nat.div_lt_iff_lt_mul Kb];omega
theorem Zp0{o xs ys:List Nat}{i k c V:Nat}(h:Zv 1000000000 o+c*1000000000^(i+k)=V+xs.getD i 0*1000000000^i*Zv 1000000000 (ys.take k))(hp:i+k<o.length) :
  Zv 1000000000 (o.set (i+k) ((o.getD (i+k) 0+c+xs.getD i 0*ys.getD k 0)%1000000000))+(o.getD (i+k) 0+c+xs.getD i 0*ys.getD k 0)/1000000000*1000000000^(i+(k+1))=V+xs.getD i 0*1000000000^i*Zv 1000000000 (ys.take (k+1)):=by
 have h1:=Zfn 1000000000 o o.length (i+k) ((o.getD (i+k) 0+c+xs.getD i 0*ys.getD k 0)%1000000000) hp hp
 rw [List.take_of_length_le (by rw [List.length_set];exact Nat.le_refl _),List.take_of_length_le (Nat.le_refl _)]at h1
 rw [Xh]
 have e:=Nat.div_add_mod (o.getD (i+k) 0+c+xs.getD i 0*ys.getD k 0) 1000000000
 generalize (o.getD (i+k) 0+c+xs.getD i 0*ys.getD k 0)/1000000000=q at *
 generalize (o.getD (i+k) 0+c+xs.getD i 0*ys.getD k 0)%1000000000=r at *
 generalize Zv 1000000000 (o.set (i+k) r)=W at *
 rw [show i+(k+1)=(i+k)+1 by omega,Nat.pow_succ]
 have e2:1000000000^(i+k)=1000000000^i*1000000000^k:=Nat.pow_add _ _ _
 rw [e2]at h h1 ⊢
 generalize 1000000000^i=A at *
 generalize 1000000000^k=B at *
 have h3:(1000000000*q+r)*(A*B)=(o.getD (i+k) 0+c+xs.getD i 0*ys.getD k 0)*(A*B):=by rw [e]
 simp only [Nat.add_mul]at h3
 have t1:q*(A*B*1000000000)=1000000000*q*(A*B):=O4
 have t2:xs.getD i 0*A*(Zv 1000000000 (ys.take k)+ys.getD k 0*B)=xs.getD i 0*A*Zv 1000000000 (ys.take k)+xs.getD i 0*ys.getD k 0*(A*B):=O4
 rw [t1,t2]
 omega
def Zpi(x y:Nat):Int:=if x<y then -1 else if y<x then 1 else 0
section
variable {P:Program} {N:Nat} {sc:Nat→Prop} {env env':Qj} {H H':Hp} {Q Q':Exit→Act→World→Prop} {M:Nat→Prop}
variable {o:Oper} {t t':TypeId} {x y:Operand} {m n:Nat}
theorem Zhd(ho:o.op= .binOp .add t x y t')(hx:ev env x=some (.int .i64 (m:Int)))(hy:ev env y=some (.int .i64 (n:Int)))(h:m+n≤9223372036854775807):Oy P N sc o env H (.int .i64 ((m+n:Nat):Int)):=by
 have:=d_add (P:=P) (N:=N) (sc:=sc) (H:=H) ho hx hy ⟨O,O⟩
 rwa [←Int.natCast_add]at this
theorem n_mul(ho:o.op= .binOp .mul t x y t')(hx:ev env x=some (.int .i64 (m:Int)))(hy:ev env y=some (.int .i64 (n:Int)))(h:m*n≤9223372036854775807):Oy P N sc o env H (.int .i64 ((m*n:Nat):Int)):=by
 have:=d_mul (P:=P) (N:=N) (sc:=sc) (H:=H) ho hx hy (by rw [←Int.natCast_mul];exact⟨O,O⟩)
 rwa [←Int.natCast_mul]at this
theorem Zjv(ho:o.op= .binOp .quo t x y t')(hx:ev env x=some (.int .i64 (m:Int)))(hy:ev env y=some (.int .i64 (n:Int)))(h:m≤9223372036854775807)(hn:0<n):Oy P N sc o env H (.int .i64 ((m/n:Nat):Int)):=by
 have:=Zfa (P:=P) (N:=N) (sc:=sc) (H:=H) ho hx hy   
 rwa [←Int.natCast_ediv]at this
theorem Zn7(ho:o.op= .binOp .rem t x y t')(hx:ev env x=some (.int .i64 (m:Int)))(hy:ev env y=some (.int .i64 (n:Int)))(hn:0<n):Oy P N sc o env H (.int .i64 ((m%n:Nat):Int)):=by
 have:=Zh6 (P:=P) (N:=N) (sc:=sc) (H:=H) ho hx hy  
 rwa [←Int.natCast_emod]at this
end
end Go.Sky
namespace Go.Sky
theorem Zah{l:List Nat}{i:Nat}(h:l.length≤i):l.getD i 0=0:=by simp [List.getD,List.getElem?_eq_none h]
theorem Zo2{b x y:Nat}(hb:2≤b)(h:x≤y):(dg b x).length≤(dg b y).length:=by
 rcases Nat.lt_or_ge (dg b y).length (dg b x).length with h1 | h1
 ·have:=Co hb h1;omega
 ·exact h1
theorem Zuk{a b:Nat} : 0≤Zpi a b↔b≤a:=by unfold Zpi;split<;>(try split)<;>omega
theorem Zl0{q:List Nat}{k d:Nat}(hk:0<k)(h:k≤q.length):Zv 1000000000 ((q.set (k-1) d).drop (k-1))=d+1000000000*Zv 1000000000 (q.drop k):=by
 rw [drop_set _ _ _ O,show k-1+1=k by omega];rfl
theorem Zmz{m:Nat}(h:m<9223372036854775809):tz [m%1000000000,m/1000000000%1000000000,m/1000000000/1000000000]=dg 1000000000 m:=by
 rw [←Lv Qs [m%1000000000,m/1000000000%1000000000,m/1000000000/1000000000] (by intro d hd;simp at hd;omega)]
 congr 1
 simp only [Zv]
 omega
theorem sign9{x:Int}(h:(((dg 1000000000 x.natAbs).length:Nat):Int)=0):Value.int .i64 x.sign= .int .i64 0:=by
 have h1:=(Qv Qs x.natAbs).1 O
 have:x=0:=O
 subst this;rfl
theorem Zol{x:Nat}(h:¬(((dg 1000000000 x).length:Nat):Int)=0):0<x:=by
 rcases Nat.eq_zero_or_pos x with h1 | h1
 ·subst h1;simp [Ip]at h
 ·exact h1
theorem Zzy{s:Bool}{n:Nat}{z:Int}(hn:n=z.natAbs)(hs:sg s z):(s && decide (0<n))=decide (z<0):=by
 subst hn
 cases s
 ·have:=hs.2 rfl;rw [Bool.false_and,decide_eq_false O]
 ·have:=hs.1 rfl;rw [Bool.true_and,decide_eq_decide];omega
theorem Zoj(n:Nat):decide ((0:Int)<(((dg 1000000000 n).length:Nat):Int))=decide (0<n):=by
 rw [decide_eq_decide]
 have:=Qv Qs n
 omega
theorem Ygo{a b:Bool}(h:(a == b)=true):a=b:=by simpa using h
section
variable {P:Program} {N:Nat} {sc:Nat→Prop} {env env':Qj} {H H':Hp} {Q Q':Exit→Act→World→Prop} {M:Nat→Prop}
variable {o:Oper} {t t':TypeId} {x y:Operand} {m n:Nat}
theorem Zqp(ho:o.op= .binOp .quo t x y t')(hx:ev env x=some (.int .i64 (-(m:Int))))(hy:ev env y=some (.int .i64 (n:Int)))(h:m≤9223372036854775808)(hn:1<n):Oy P N sc o env H (.int .i64 (-((m/n:Nat):Int))):=Hb ho hx hy fun w=>by
 have h1:(-(m:Int)).tdiv (n:Int)=-((m/n:Nat):Int):=by rw [Int.neg_tdiv,Int.ofNat_tdiv]
 have h2:m/n≤9223372036854775807:=by
  have:=Nat.div_le_div_left (show 2≤n from hn) (by omega:0<2) (a:=m)
  omega
 generalize m/n=q at *
 have hw:Nc (-(q:Int)):=⟨O,O⟩
 simp [binOp,Op.intDiv,h1,Cy hw];omega
theorem Zzk(ho:o.op= .binOp .rem t x y t')(hx:ev env x=some (.int .i64 (-(m:Int))))(hy:ev env y=some (.int .i64 (n:Int)))(hn:0<n):Oy P N sc o env H (.int .i64 (-((m%n:Nat):Int))):=Hb ho hx hy fun w=>by
 have h1:(-(m:Int)).tmod (n:Int)=-((m%n:Nat):Int):=by rw [Int.neg_tmod,Int.ofNat_tmod]
 simp [binOp,Op.intDiv,h1];omega
theorem Zzn(ho:o.op= .unOp .neg t x)(hx:ev env x=some (.int .i64 (-(m:Int))))(h:m≤9223372036854775807):Oy P N sc o env H (.int .i64 (m:Int)):=fun a w hs=>by
 have hw:Nc (m:Int):=⟨O,O⟩
 simp [execOp,ho,hs.ev hx,Op.unary,Op.intArith,Cy hw]
end
end Go.Sky
namespace Go.Sky
theorem Ydh{p xs:List Nat}{k r:Nat}(hk:0<k)(hp:k≤p.length)(hx:k≤xs.length)(hv:Zv 1000000000 (p.drop k)*256+r=Zv 1000000000 (xs.drop k)) :
  Zv 1000000000 ((p.set (k-1) ((r*1000000000+xs.getD (k-1) 0)/256)).drop (k-1))*256+(r*1000000000+xs.getD (k-1) 0)%256=Zv 1000000000 (xs.drop (k-1)):=by
 rw [Zl0 hk hp,Zdp 0 xs (k-1) O,show k-1+1=k by omega]
 simp only [Zv]
 have e:=Nat.div_add_mod (r*1000000000+xs.getD (k-1) 0) 256
 generalize (r*1000000000+xs.getD (k-1) 0)/256=q at *
 generalize (r*1000000000+xs.getD (k-1) 0)%256=s at *
 generalize Zv 1000000000 (p.drop k)=A at *
 generalize Zv 1000000000 (xs.drop k)=B at *
 rw [←hv,Nat.add_mul,Nat.mul_add,Nat.mul_assoc 1000000000 A 256]
 generalize 1000000000*(A*256)=Z
 clear hv
 omega
theorem Zxi{r a:Nat}(hr:r<256)(ha:a<1000000000):(r*1000000000+a)/256<1000000000:=by
 have h:r*1000000000+a<256*1000000000:=by
  have h1:r*1000000000≤255*1000000000:=Nat.mul_le_mul_right _ O
  omega
 exact Nat.div_lt_of_lt_mul h
theorem Ydi{bs:List Nat}{m n:Nat}(hv:Zv 256 bs+256^bs.length*m=n):Zv 256 (bs ++ [m%256])+256^(bs ++ [m%256]).length*(m/256)=n:=by
 rw [Pv,List.length_append]
 simp only [Zv,List.length_cons,List.length_nil,Nat.pow_succ,Nat.zero_add,Nat.mul_zero,Nat.add_zero,Nat.pow_zero,Nat.mul_one]
 have e:=Nat.div_add_mod m 256
 generalize m/256=q at *
 generalize m%256=s at *
 rw [←hv,←e]
 generalize 256^bs.length=P at *
 grind
theorem to_ge{bs:List Nat}{m n:Nat}(hv:Zv 256 bs+256^bs.length*m=n)(hm:0<m):256^bs.length≤n:=by
 have:=Nat.le_mul_of_pos_right (256^bs.length) hm
 omega
theorem to_len{bs:List Nat}{n:Nat}(h:256^bs.length≤n):bs.length≤bl n:=by
 have h1:=Cf (b:=256) (x:=n) (k:=bs.length) O ((Pl O _ _).2 h)
 have h2:=(Pl (by omega:2≤256) bs.length n).2 h
 have h3:=Zhr n
 omega
theorem Yba{bs:List Nat}{k:Nat}(hk:0<k)(h:k≤bs.length):(bs.drop k).reverse ++ [bs.getD (k-1) 0]=(bs.drop (k-1)).reverse:=by
 rw [Zdp 0 bs (k-1) O,show k-1+1=k by omega];simp
theorem Ygi{bs:List Nat}{n:Nat}(h:bs=dg 256 n):(⟨((bs.drop 0).reverse.map UInt8.ofNat).toArray⟩:ByteArray)=Xn n:=by rw [h,List.drop_zero];rfl
def Znr(a b:Int):Prop:=65536<bl a.natAbs∨65536<bl b.natAbs
instance (a b:Int):Decidable (Znr a b):=by unfold Znr;infer_instance
def qn(a b:Int):Int:=if Znr a b then 0 else a
def qd(a b:Int):Int:=if Znr a b then 0 else b
def qe(a b:Int):Int:=if Znr a b then 7 else 0
theorem Yev{x y:Int}(h:¬y<0):Ns x y=(Int.gcd x y:Int):=if_neg h
theorem Zmf(x y:Int):bl ((Int.gcd x y:Int)).natAbs≤max (bl x.natAbs) (bl y.natAbs):=Zmg _ _
open Go.RowKit (Below)
variable {P:Program} {N:Nat} {sc:Nat→Prop} {env env':Qj} {H H':Hp} {Q Q':Exit→Act→World→Prop} {M:Nat→Prop}
abbrev Zq6 (w:Bool×ByteArray):Value:= .agg #[.bool w.1,.string w.2]
abbrev Zq7 (z:Int×SL):Value:= .agg #[.bool (decide (z.1<0)),Qq z.2]
abbrev Kr {α:Type} (z:SL×α):Value:=Qq z.1
abbrev qI (z:Int×SL):Pc:=d9p (Qq z.2) z.1.natAbs
abbrev pp (v:Value) (zs:List (Int×SL)):Pc:=Ps 2 Zq7 qI v zs
abbrev Fe (zs:List (Int×SL)):List Int:=zs.map Prod.fst
abbrev I0:Int×SL:=(0,none,0,0)
theorem Ay(zs:List (Int×SL)):(Fe zs).length=zs.length:=O6
theorem Zur(zs:List (Int×SL))(i:Nat):(zs.getD i I0).1=cf (Fe zs) i:=by
 simp only [cf,List.getD,Fe,List.getElem?_map]
 cases zs[i]?<;>rfl
theorem Znt{β:Type}{k:Nat}{enc:β→Value}{q:β→Pc}{v:Value}{zs:List β}{al:Bool}{r:List Pc}{z:β}(i:Nat)(hi:lk H i=some (Ps k enc q v zs))(hi0:Nat.beq i 0=false)(hz:z∈zs)(h:PreOk H al r):PreOk H al (q z :: r):=
 ⟨⟨i,_,fun e=>by subst e;simp at hi0,hi,fun w h=>h.2 z hz,fun b hb=> .inr ⟨z,hz,hb⟩,fun _=>rfl⟩,h⟩
theorem Zvo{β:Type}{k:Nat}{enc:β→Value}{q:β→Pc}{v:Value}{zs:List β}(i j n:Nat)(hi:lk H i=some (Ps k enc q v zs))(hi0:Nat.beq i 0=false)(hn:n≤zs.length):∀a w,Sat N sc env H a w→Sat N sc env ((j,Ps k enc q (Ml v n) (zs.take n)) :: H) a w:=
 Zbm i j hi hi0 rfl (fun w h=>⟨⟨Zay n hn h.1.1,fun b hb=>h.1.2 b (Zhw hb)⟩,fun z hz=>h.2 z (List.mem_of_mem_take hz)⟩) (fun b hb=>by
  rcases hb with hb | ⟨z,hz,hb⟩
  ·exact .inl (Zhw hb)
  ·right;exact⟨z,List.mem_of_mem_take hz,hb⟩) rfl
theorem Zou{β:Type}{k:Nat}{enc:β→Value}{q:β→Pc}{v:Value}{zs:List β}(i:Nat)(hi:lk H i=some (Ps k enc q v zs)):∀a w,Sat N sc env H a w→Ml v zs.length=v:=fun a w hs=>by
 obtain⟨ad,c,h,_⟩:=(hs.hold i _ hi).1.1
 rw [h];rfl
theorem Zd5(zs:List (Int×SL))(k:Nat):Fe (zs.take k)=(Fe zs).take k:=by simp [Fe,List.map_take]
theorem Zy2{v:Value}{zs:List (Int×SL)}{al:Bool}{r:List Pc}{z:Int×SL}(i:Nat)(hi:lk H i=some (pp v zs))(hi0:Nat.beq i 0=false)(hz:z∈zs)(h:PreOk H al r):PreOk H al (d9p (Qq z.2) z.1.natAbs :: r):=Znt (q:=qI) (z:=z) i hi hi0 hz h
theorem t_appM {α:Type} {o:Oper} {x y:Operand} {t e:TypeId} {i i2 j k by_ d:Nat} {v u:Value} {enc:α→Value} {xs ys:List α} {p:Pc} {ti:TypeInfo} {z:Value} {w0:World} {M0:Nat→Prop}
  (ho:o.op= .call { callee:= .builtin .append,args:=#[x,y],argTypes:=#[t,t] }) (hd:o.dst=some d) (hN:Nat.blt d N=true)
  (hx:ev env x=some v) (hy:ev env y=some u) (hH:lk H i=some (Pu k e enc v xs)) (hi0:i≠0) (hj:lk H j=some p) (hr:Rd p k enc u ys) (hys:ys≠[])
  (ht:P.underlying t=some (.slice e)) (hi:P.info? e=some ti) (hz:ti.zero=some z) (he:Enc P e k enc) (hks:ti.size=k) (hby:ti.bytes=by_) (hzs:z.cells.size=k)
  (hb:(xs.length+ys.length)*by_≤140737488355328) (hby1:0<by_)
  (h0:lk H 0=some (Xe w0 M0)) (hw:∀b,w0.heap.size≤b→sc b) (hM:∀b,(Pu k e enc v xs).fp b→M b) :
  T P N sc M o env H (G:=Value) (fun _=>True) (fun v'=>(d,v') :: env) (fun v'=>(i,Pu k e enc v' (xs ++ ys)) :: H):=fun a w hs K Q hK=>by
 have hrow:w.ownsRow 0 e k v xs.length (cellsOf enc xs):=hs.hold i _ hH
 obtain⟨ad,c,rfl,h1,h2,h3⟩:=hr w (hs.hold j p hj)
 rcases h3 with rfl | ⟨g,off,rfl,h3⟩
 ·exact absurd rfl hys
 have hyc:∀q u,(cellsOf enc ys)[q]? = some u→w.cell? ((⟨g,off,none⟩:Addr).add q)=some u:=fun q u hq=>by
  have hlt:q<ys.length*k:=by rw [←Yq he.cells ys];exact(List.getElem?_eq_some_iff.1 hq).1
  have hpos:=he.pos
  have hd1:q/k<ys.length:=Nat.div_lt_of_lt_mul (by rw [Nat.mul_comm];exact hlt)
  have hget:ys[q/k]? = some ys[q/k]:=List.getElem?_eq_getElem hd1
  have hq2:q%k<(enc ys[q/k]).cells.toList.length:=by rw [Array.length_toList,he.cells];exact Nat.mod_lt _ hpos
  have hu:=List.getElem?_eq_getElem hq2
  have h4:=Ko he.cells ys _ _ hget _ _ hu
  have h5:=h3 _ _ hget _ _ hu
  have hqq:q/k*k+q%k=q:=by rw [Nat.mul_comm];exact Nat.div_add_mod q k
  rw [hqq]at h4
  rw [Nat.add_assoc,hqq]at h5
  rw [hq]at h4
  cases h4
  rw [Pe]
  exact h5
 have hone:∀u∈cellsOf enc ys,u.oneCell'=true:=fun u hu=>by
  obtain⟨y,_,hy⟩:=List.mem_flatMap.1 hu
  exact he.one y u hy
 have hle:xs.length+ys.length≤140737488355328:=Nat.le_trans (Nat.le_mul_of_pos_right _ hby1) hb
 obtain⟨v',w',hrun,ho',hg',hb'⟩:=Zbn (P:=P) t o.type e ti z k by_ ht hi hz hks hby hzs he.pos v xs.length (cellsOf enc xs) hrow ⟨g,off,none⟩ ys.length c (cellsOf enc ys)
  (Yq he.cells ys) hyc hone (by simp only [maxLen];omega) hb
 have hr2:(execOp a.eval o).run P w= .ok (.value v') w':=by
  simp only [execOp,ho,resolve,invoke,builtin,Sem.run_bind,Sem.run_pure,Result.andThen_ok,List.map_toArray,List.map_cons,List.map_nil,hs.ev hx,hs.ev hy,hrun]
 unfold Oper.wp
 rw [hr2]
 show K (a.put o.dst _) _
 rw [hd]
 have hchg:Chg (fun b=>v.ownBlock=some b) w w':=⟨hg'.os,hg'.tape,hg'.output,hg'.size,fun b hb hn=>hg'.block b hb (fun e=>hn e.symm)⟩
 refine hK v' _ _ trivial ((hs.upd hH rfl hi0 (q:=Pu k e enc v' (xs ++ ys)) hchg ?_ (fun b hb=>hb' b hb) h0 hw).put d _ hN) ⟨hg'.os,hg'.tape,hg'.output,hg'.size,fun b hb hn=>hg'.block b hb (fun e=>hn (hM b e.symm))⟩
 show w'.ownsRow 0 e k v' (xs ++ ys).length (cellsOf enc (xs ++ ys))
 rw [Lg,List.length_append]
 exact ho'
theorem Ydk {α:Type} {o:Oper} {x y:Operand} {t e:TypeId} {i j k by_ d:Nat} {v u:Value} {enc:α→Value} {xs ys:List α} {p:Pc} {ti:TypeInfo} {z:Value} {w0:World} {M0:Nat→Prop}
  (ho:o.op= .call { callee:= .builtin .append,args:=#[x,y],argTypes:=#[t,t] }) (hd:o.dst=some d) (hN:Nat.blt d N=true)
  (hx:ev env x=some v) (hy:ev env y=some u) (hH:lk H i=some (Pu k e enc v xs)) (hi0:i≠0) (hj:lk H j=some p) (hr:Rd p k enc u ys)
  (ht:P.underlying t=some (.slice e)) (hi:P.info? e=some ti) (hz:ti.zero=some z) (he:Enc P e k enc) (hks:ti.size=k) (hby:ti.bytes=by_) (hzs:z.cells.size=k)
  (hb:(xs.length+ys.length)*by_≤140737488355328) (hby1:0<by_)
  (h0:lk H 0=some (Xe w0 M0)) (hw:∀b,w0.heap.size≤b→sc b) (hM:∀b,(Pu k e enc v xs).fp b→M b) :
  T P N sc M o env H (G:=Value) (fun _=>True) (fun v'=>(d,v') :: env) (fun v'=>(i,Pu k e enc v' (xs ++ ys)) :: H):=by
 by_cases hys:ys=[]
 ·subst hys
  intro a w hs K Q hK
  have hrow:w.ownsRow 0 e k v xs.length (cellsOf enc xs):=hs.hold i _ hH
  obtain⟨ad,c,rfl,h1,h2,h3⟩:=hr w (hs.hold j p hj)
  have hown:∃a0 n c0,v= .slice a0 n c0∧n=xs.length∧n≤c0:=by
   rcases hrow.2 with⟨rfl,hn⟩ | ⟨g,cap,cur,rfl,_,_,hle,_⟩
   ·exact⟨none,0,0,rfl,hn.symm,Nat.le_refl _⟩
   ·exact⟨_,_,cap,rfl,rfl,hle⟩
  obtain⟨a0,n,c0,rfl,rfl,hle⟩:=hown
  have hrun:(Builtin.append_ #[t,t] o.type #[.slice a0 xs.length c0,.slice ad ([]:List α).length c]).run P w= .ok (.slice a0 xs.length c0) w:=by
   have hfc:(Builtin.firstCells ti.size 0 (.slice ad 0 c)).run P w= .ok #[] w:=by
    cases ad with
    | none=>rfl
    | some q=>simp [Builtin.firstCells,loadCells,loadCellsFrom]
   cases a0 with
   | none=>simp [Builtin.append_,run_underlying ht,sizeOf,typeInfo,hi,Builtin.lenOf,hfc,hle]
   | some q=>simp [Builtin.append_,run_underlying ht,sizeOf,typeInfo,hi,Builtin.lenOf,hfc,hle,storeCells]
  have hr2:(execOp a.eval o).run P w= .ok (.value (.slice a0 xs.length c0)) w:=by
   simp only [execOp,ho,resolve,invoke,builtin,Sem.run_bind,Sem.run_pure,Result.andThen_ok,List.map_toArray,List.map_cons,List.map_nil,hs.ev hx,hs.ev hy,hrun]
  unfold Oper.wp
  rw [hr2]
  show K (a.put o.dst _) _
  rw [hd]
  refine hK _ _ _ trivial ((Sat.upd hs hH rfl hi0 (q:=Pu k e enc (.slice a0 xs.length c0) (xs ++ [])) (Chg.refl _ w) ?_ (fun b hb=> .inl hb) h0 hw).put d _ hN) (Chg.refl _ w)
  rw [List.append_nil];exact hrow
 ·exact t_appM (i2:=0) ho hd hN hx hy hH hi0 hj hr hys ht hi hz he hks hby hzs hb hby1 h0 hw hM
theorem t_offr {o:Oper} {G:Type} {φ:G→Prop} {genv:G→Qj} {gH:G→Hp} {H0:Hp} {ks:List Nat} {p:Pc} (i:Nat) (hi:lk H i=some p) (ho:p.own=true) (hn:ks.all (fun k=>!Nat.beq k i)=true) (ha:Agr H0 H ks)
  (h:(∀b,p.fp b→Off H0 ks b)→T P N sc (Off H0 ks) o env H φ genv gH):T P N sc (Off H0 ks) o env H φ genv gH:=fun a w hs=>
 h (fun b hb k hk q hq hf=>by
  rw [←ha.mem k hk]at hq
  have hne:i≠k:=fun e=>by
   subst e
   have:=List.all_eq_true.1 hn i hk
   simp at this
  exact hs.sep i k p q hne hi hq ho b hb hf) a w hs
def eaf(v:Value)(i k q:Nat):Addr:=(ead v i k).add q
theorem Zj2 {α:Type} {o:Oper} {x:Operand} {t:TypeId} {f:Nat} {fs:Array Field} {fd:Field} {k k1 i ii q:Nat} {v:Value} {p:Pc} {enc:α→Value} {xs:List α} (ho:o.op= .fieldAddr t x f)
  (hx:ev env x=some (.pointer (some (ead v i k)))) (hH:lk H ii=some p) (hr:Rd p k enc v xs) (ht:P.underlying t=some (.struct fs)) (hf:fs[f]? = some fd) (hk:∀w,(sizeOf fd.type).run P w= .ok (k1+1) w) (hq:fd.offset=q) (hlt:i<xs.length:=by omega) :
  Oy P N sc o env H (.pointer (some (eaf v i k q))):=fun a w hs=>by
 obtain⟨ad,c,rfl,h1,h2,h3⟩:=hr w (hs.hold ii p hH)
 rcases h3 with rfl | ⟨g,off,rfl,h3⟩
 ·simp at hlt
 ·subst hq
  simp only [ead,Pe]at hx
  simp [execOp,ho,hs.ev hx,Instr.fieldAt,run_underlying ht,hf,Instr.sureAddr,fieldPlace,hk,Pe,eaf,ead]
theorem Zj1 {α:Type} {o:Oper} {x:Operand} {t:TypeId} {k i ii q:Nat} {v u:Value} {p:Pc} {enc:α→Value} {xs:List α} (d0:α) (ho:o.op= .load t x)
  (hx:ev env x=some (.pointer (some (eaf v i k q)))) (hH:lk H ii=some p) (hr:Rd p k enc v xs) (ha:∀w,(isAgg t).run P w= .ok false w) (hu:(enc (xs.getD i d0)).cells.toList[q]? = some u) (hlt:i<xs.length:=by omega):Oy P N sc o env H u:=fun a w hs=>by
 obtain⟨ad,c,rfl,h1,h2,h3⟩:=hr w (hs.hold ii p hH)
 rcases h3 with rfl | ⟨g,off,rfl,h3⟩
 ·simp at hlt
 ·have hi:xs[i]? = some (xs.getD i d0):=by simp [List.getD,List.getElem?_eq_getElem hlt]
  have h:=h3 i _ hi q u hu
  simp only [eaf,ead,Pe]at hx
  simp [execOp,ho,hs.ev hx,Instr.loadAt,Instr.sureAddr,loadVar,ha,load,Sem.run,h]
end Go.Sky
namespace Go.Sky
abbrev rq (z:Int×Int):Value:= .agg #[.bool (decide (z.1<0)),.string (Xn z.1.natAbs),.bool (decide (z.2<0)),.string (Xn z.2.natAbs)]
abbrev encQ (z:(Bool×ByteArray)×(Bool×ByteArray)):Value:= .agg #[.bool z.1.1,.string z.1.2,.bool z.2.1,.string z.2.2]
theorem Zp{P:Program}{N:Nat}{sc:Nat→Prop}{o:Oper}{env:Qj}{H:Hp}{r r':Value}(h:Oy P N sc o env H r)(e:r=r'):Oy P N sc o env H r':=e▸h
open Go.RowKit (Below)
variable {P:Program} {N:Nat} {sc:Nat→Prop} {env env':Qj} {H H':Hp} {Q Q':Exit→Act→World→Prop} {M:Nat→Prop}
theorem d_mkc{o:Oper}{f:FuncId}{xs ys:List Operand}{vs us:List Value}(ho:o.op= .makeFunc (.func f) xs.toArray ys.toArray)(hv:EvL env xs vs)(hu:EvL env ys us):Oy P N sc o env H (.func (.func f) vs.toArray us.toArray):=fun a w hs=>by
 have hm:=hv.map hs
 have hn:=hu.map hs
 simp [execOp,ho,Instr.makeFunc,hm,hn]
theorem Ziw {a:Act} {w:World} (hs:Sat N sc env H a w) {o:Oper} {f:FuncId} {c:Operand} {xs:List Operand} {ats:Array TypeId} {fs vs us:List Value} (ho:o.op= .call { callee:= .value c,args:=xs.toArray,argTypes:=ats })
  (hc:ev env c=some (.func (.func f) fs.toArray us.toArray)) (hargs:EvL env xs vs):(execOp a.eval o).run P w=(callFunc f (fs ++ vs ++ us).toArray).run P w:=by
 have hm:=hargs.map hs
 simp [execOp,ho,resolve,invoke,hs.ev hc,Deferred.ofValue,hm]
theorem Zeg{b:Nat}{t:TypeId}{cs:Array Value}{r:List Pc}(i:Nat)(hi:lk H i=some (box b t cs))(hi0:Nat.beq i 0=false)(h:PreOk H false r):PreOk H false (Ir b t cs :: r):=
 ⟨⟨i,_,fun e=>by subst e;simp at hi0,hi,fun w h=>h,fun b hb=>hb,fun h=>by cases h⟩,h⟩
theorem Sat.rboxc{a:Act}{w:World}(hs:Sat N sc env H a w){i b:Nat}{t:TypeId}{cs:Array Value}(hH:lk H i=some (Ir b t cs))(j:Nat):w.cell? ⟨b,j,none⟩=cs[j]?:=by
 have h:w.heap[b]? = some (.cells cs t (0,0)):=hs.hold i _ hH
 simp [World.cell?,h]
theorem d_lra {o:Oper} {x:Operand} {t tb:TypeId} {i b j k:Nat} {cs:Array Value} {vs:List Value} (ho:o.op= .load t x)
  (hx:ev env x=some (.pointer (some ⟨b,j,none⟩))) (hH:lk H i=some (Ir b tb cs)) (ht:∀w,(isAgg t).run P w= .ok true w) (hk:∀w,(sizeOf t).run P w= .ok k w)
  (hl:vs.length=k) (hv:∀n u,vs[n]? = some u→cs[j+n]? = some u):Oy P N sc o env H (.agg vs.toArray):=fun a w hs=>by
 have hr:=run_loadCells_list (P:=P) w ⟨b,j,none⟩ vs (fun n u hu=>by rw [Pe,hs.rboxc hH];exact hv n u hu)
 rw [hl]at hr
 simp [execOp,ho,hs.ev hx,Instr.loadAt,Instr.sureAddr,loadVar,ht,hk,hr]
theorem d_negi{o:Oper}{t:TypeId}{x:Operand}{m:Int}(ho:o.op= .unOp .neg t x)(hx:ev env x=some (.int .i64 m))(h:Nc (-m)):Oy P N sc o env H (.int .i64 (-m)):=fun a w hs=>by
 simp [execOp,ho,hs.ev hx,Op.unary,Op.intArith,Cy h]
theorem fill24(u0 u1 u2 u3 a0 a1 a2 a3 b0 b1 b2 b3:Value):Instr.fill (fun i=>some (i*4,4)) ((List.range (2*4)).map ((Value.agg #[u0,u1,u2,u3]).cells[· % (Value.agg #[u0,u1,u2,u3]).cells.size]!)).toArray [(0,.agg #[a0,a1,a2,a3]),(1,.agg #[b0,b1,b2,b3])]=some #[a0,a1,a2,a3,b0,b1,b2,b3]:=by
 simp [Instr.fill,Value.cells,List.range,List.range.loop]
 try rfl
end Go.Sky
namespace Go.Sky
open Go.RowKit (Below)
variable {P:Program} {N:Nat} {sc:Nat→Prop} {env env':Qj} {H H':Hp} {Q Q':Exit→Act→World→Prop} {M:Nat→Prop}
abbrev iq (z:(Int×Int)×(Int×Int)):Value:= .agg #[.bool (decide (z.1.1<0)),.string (Xn z.1.1.natAbs),.bool (decide (z.1.2<0)),.string (Xn z.1.2.natAbs),.bool (decide (z.2.1<0)),.string (Xn z.2.1.natAbs),.bool (decide (z.2.2<0)),.string (Xn z.2.2.natAbs)]
def Ygs(P:Program)(f:FuncId)(args:Array Value)(pre:List Pc)(p:Pc){G:Type}(φ:G→Prop)(Zv:G→Value)(q:G→Pc):Prop:=
 ∀w,(∀r∈pre,r.holds w∧∀k,p.fp k→¬r.fp k)→p.holds w→Calls P f args w fun e w'=>∃g,e= .returned (Zv g)∧φ g∧Chg p.fp w w'∧(q g).holds w'∧∀k,(q g).fp k→p.fp k∨w.heap.size≤k
theorem Zsa {o:Oper} {f:FuncId} {c:Operand} {xs:List Operand} {ats:Array TypeId} {d i:Nat} {p:Pc} {fs vs us:List Value} {pre:List Pc} {G:Type} {φ:G→Prop} {Zv:G→Value} {q:G→Pc} {w0:World} {M0:Nat→Prop}
  (hc:Ygs P f (fs ++ vs ++ us).toArray pre p φ Zv q)
  (ho:o.op= .call { callee:= .value c,args:=xs.toArray,argTypes:=ats }) (hcv:ev env c=some (.func (.func f) fs.toArray us.toArray)) (hd:o.dst=some d) (hN:Nat.blt d N=true)
  (hargs:EvL env xs vs) (hcall:∀args w,(callFunc f args).run P w= .ok (.enter f args) w) (hH:lk H i=some p) (hown:p.own=true) (hi0:i≠0) (hpre:PreOk (drp i H) false pre)
  (h0:lk H 0=some (Xe w0 M0)) (hw:∀b,w0.heap.size≤b→sc b) (hM:∀b,p.fp b→M b) :
  T P N sc M o env H φ (fun g=>(d,Zv g) :: env) (fun g=>(i,q g) :: H):=fun a w hs K Q hK=>by
 have hr:(execOp a.eval o).run P w= .ok (.enter f (fs ++ vs ++ us).toArray) w:=by rw [Ziw hs ho hcv hargs,hcall]
 unfold Oper.wp
 rw [hr]
 refine(hc w (fun r hp=>by
  obtain⟨j,it,_,hj,himp,hfp,_⟩:=hpre.mem r hp
  obtain⟨hne,hj⟩:=Gp _ _ _ _ hj
  exact⟨himp w (hs.hold j it hj),fun k hk hb=>hs.sep i j _ it (Ne.symm hne) hH hj hown k hk (hfp k hb)⟩) (hs.hold i _ hH)).mono ?_
 rintro e w' ⟨g,rfl,hg,hchg,hq,hfp⟩
 show K (a.put o.dst (Zv g)) w'
 rw [hd]
 exact hK g _ _ hg (Sat.put (hs.upd hH hown hi0 hchg hq hfp h0 hw) d _ hN) ⟨hchg.os,hchg.tape,hchg.output,hchg.size,fun k hk hn=>hchg.block k hk (fun e=>hn (hM k e))⟩
def Yc0(P:Program)(fn:Func)(w0:World)(p:Pc){G:Type}(φ:G→Prop)(Zv:G→Value)(q:G→Pc):Exit→Act→World→Prop:=
 bodyPost P fn fun e w'=>∃g,e= .returned (Zv g)∧φ g∧Chg p.fp w0 w'∧(q g).holds w'∧∀k,(q g).fp k→p.fp k∨w0.heap.size≤k
theorem Zut {f:FuncId} {fn:Func} {c:Code} {vs:List Value} {pre:List Pc} {p:Pc} {G:Type} {φ:G→Prop} {Zv:G→Value} {q:G→Pc} {N:Nat}
  (hf:P.funcs[f]? = some fn) (hb:fn.body=some c) (hN:fn.ntmps=N) (hle:Nat.ble vs.length N=true) (hro:AllRo pre)
  (h:∀w0 (sc:Nat→Prop),(∀k,w0.heap.size≤k→sc k)→(∀k,sc k→w0.heap.size≤k∨p.fp k∨∃q∈pre,q.fp k)→
   E P N sc c (Yc0 P fn w0 p φ Zv q) (Ql 0 vs) ((0,Xe w0 p.fp) :: (1,p) :: Xj 2 pre)) :
  Ygs P f vs.toArray pre p φ Zv q:=fun w hp hbx=>by
 refine calls_of_wp hf hb (h w (fun k=>w.heap.size≤k∨p.fp k∨∃q∈pre,q.fp k) (fun k hk=> .inl hk) (fun k hk=>hk) _ w ?_)
 have hle:vs.length≤N:=by simpa using hle
 have hpre:∀i r,lk ((0,Xe w p.fp) :: (1,p) :: Xj 2 pre) i=some r→(i=0∧r=Xe w p.fp)∨(i=1∧r=p)∨(i≠0∧i≠1∧r∈pre∧r.own=false):=fun i r hi=>by
   by_cases h0:0=i
   ·subst h0;rw [Zq]at hi;cases hi;exact .inl ⟨rfl,rfl⟩
   ·rw [Zg _ _ h0]at hi
    by_cases h1:1=i
    ·subst h1;rw [Zq]at hi;cases hi;exact .inr (.inl ⟨rfl,rfl⟩)
    ·rw [Zg _ _ h1]at hi
     obtain⟨_,hm⟩:=Pz pre 2 i r hi
     exact .inr (.inr ⟨fun e=>h0 e.symm,fun e=>h1 e.symm,hm,hro.mem r hm⟩)
 refine⟨by simp [hN];omega,rfl,fun t v ht=>?_,fun i r hi=>?_,fun i j r r' hne hi hj ho k hk hk'=>?_,fun i r hi0 hi k hk=>?_⟩
 ·have h1:vs.toArray[t]? = some v:=by simpa using(Iu vs 0 t v ht).2
  have hlt:=(Array.getElem?_eq_some_iff.1 h1).1
  rw [Array.getD_eq_getD_getElem?,Array.getElem?_append_left hlt,h1];rfl
 ·rcases hpre i r hi with⟨_,rfl⟩ | ⟨_,rfl⟩ | ⟨_,_,hm,_⟩
  ·exact Chg.refl _ w
  ·exact hbx
  ·exact(hp r hm).1
 ·rcases hpre i r hi with⟨_,rfl⟩ | ⟨h1,rfl⟩ | ⟨_,_,hm,hown⟩
  ·cases ho
  ·rcases hpre j r' hj with⟨_,rfl⟩ | ⟨h2,rfl⟩ | ⟨_,_,hm,_⟩
   ·exact hk'.2 hk
   ·exact hne (h1.trans h2.symm)
   ·exact(hp r' hm).2 k hk hk'
  ·rw [hown]at ho;cases ho
 ·rcases hpre i r hi with⟨h0,_⟩ | ⟨_,rfl⟩ | ⟨_,_,hm,_⟩
  ·exact absurd h0 hi0
  ·exact .inr (.inl hk)
  ·exact .inr (.inr ⟨r,hm,hk⟩)
theorem Zw6 {fn:Func} {p:Pc} {pre:List Pc} {G:Type} {φ:G→Prop} {Zv:G→Value} {q:G→Pc} {w0:World} {e:Exit} (he:e= .ret∨e= .normal) (hsc:∀k,sc k→w0.heap.size≤k∨p.fp k∨∃q∈pre,q.fp k)
  (g:G) (v:Value) (hres:∀a w,Sat N sc env H a w→(results fn a.tmps).run P w= .ok v w) (hv:Zv g=v) (hg:φ g) (i:Nat) (hi:lk H i=some (q g)) (h0:lk H 0=some (Xe w0 p.fp)) (hi0:Nat.beq i 0=false) (hown:(q g).own=true) (hpre:PreOk (drp i H) false pre) :
  X N sc e (Yc0 P fn w0 p φ Zv q) env H:=fun a w hs=>by
 have hi0:i≠0:=fun e=>by subst e;simp at hi0
 have key:a.defers=[]∧∃v,(results fn a.tmps).run P w= .ok v w∧(∃g,Ending.returned v= .returned (Zv g)∧φ g∧Chg p.fp w0 w∧(q g).holds w∧∀k,(q g).fp k→p.fp k∨w0.heap.size≤k):=by
  refine⟨hs.defers,v,hres a w hs,g,by rw [hv],hg,hs.hold 0 _ h0,hs.hold i _ hi,fun k hk=>?_⟩
  rcases hsc k (hs.scope i _ hi0 hi k hk)with h | h | ⟨r,hr,hrk⟩
  ·exact .inr h
  ·exact .inl h
  ·obtain⟨j,it,_,hj,_,hfp,_⟩:=hpre.mem r hr
   obtain⟨hne,hj⟩:=Gp _ _ _ _ hj
   exact(hs.sep i j _ it (Ne.symm hne) hi hj hown k hk (hfp k hrk)).elim
 rcases he with rfl | rfl<;>exact key
def gb{α:Type}(b:Nat)(t:TypeId)(k:Nat)(e:TypeId)(enc:α→Value)(v:Value)(xs:List α):Pc:=
 {own:=true,fp:=fun c=>c=b∨v.ownBlock=some c,holds:=fun w=>(box b t #[v]).holds w∧(Pu k e enc v xs).holds w∧v.ownBlock≠some b
  lt:=fun w c h hc=>by
   rcases hc with rfl | hc
   ·exact(box c t #[v]).lt w c h.1 rfl
   ·exact(Pu k e enc v xs).lt w c h.2.1 hc
  stable:=fun w w' h hc=>⟨(box b t #[v]).stable w w' h.1 ⟨hc.os,hc.tape,hc.output,hc.size,fun k hk hn=>hc.block k hk (fun hf=>hn (fun hq=>hf (.inl hq)))⟩,
   (Pu k e enc v xs).stable w w' h.2.1 ⟨hc.os,hc.tape,hc.output,hc.size,fun k hk hn=>hc.block k hk (fun hf=>hn (fun hq=>hf (.inr hq)))⟩,h.2.2⟩ }
end Go.Sky

