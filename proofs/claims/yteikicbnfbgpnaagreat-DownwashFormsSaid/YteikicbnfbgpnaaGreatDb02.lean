/- Rules, arithmetic and contracts: part 3. No conditions but those that each theorem names. -/
import Derived.Test.YteikicbnfbgpnaaGreatDb01
set_option linter.all false
namespace Go.Sky
set_option maxRecDepth 20000
theorem Ze3{n:Nat}(h:n<U):tz [n]=dg U n:=by
 rw [←Ly Xi [n] (by simpa using h)]
 simp [Ye]
theorem Zf0{N:Nat}{sc:Nat→Prop}{env:Qw}{H:Hp}{α:Type}{k:Nat}{e:TypeId}{enc:α→Value}{v:Value}{xs ys:List α}(i:Nat)(h:xs=ys)(hi:lk H i=some (Oa k e enc v xs))(hi0:Nat.beq i 0=false) :
  ∀a w,Sat N sc env H a w→Sat N sc env ((i,Oa k e enc v ys) :: H) a w:=by
 subst h
 exact Zlr i hi rfl (fun w h=>h) (fun b hb=>hb) hi0
theorem Zjw(R:List Nat)(j:Nat)(hj:j≤R.length):Ye U R=Ye U (R.take j)+U^j*Ye U (R.drop j):=by
 have:=Ou U (R.take j) (R.drop j)
 rw [List.take_append_drop,List.length_take,Nat.min_eq_left hj]at this
 exact this
theorem Zhf{R:List Nat}(hR:∀d∈R,d<U)(j:Nat)(hj:j≤R.length):Ye U (R.take j)=Ye U R%U^j∧Ye U (R.drop j)=Ye U R/U^j:=by
 have h1:=Zjw R j hj
 have h2:=Ze0 Xl (R.take j) (fun d hd=>hR d (List.mem_of_mem_take hd))
 rw [List.length_take,Nat.min_eq_left hj]at h2
 have hp:0<U^j:=Nat.pow_pos Xl
 constructor
 ·rw [h1,Nat.add_comm,Nat.mul_add_mod,Nat.mod_eq_of_lt h2]
 ·rw [h1,Nat.add_comm,Nat.mul_add_div hp,Nat.div_eq_of_lt h2,Nat.add_zero]
theorem Zdf{R:List Nat}(hR:∀d∈R,d<U){n:Nat}(hn:n≤R.length)(h:Ye U R<U^n):Ye U (R.drop n)=0∧Ye U (R.take n)=Ye U R:=by
 obtain⟨h1,h2⟩:=Zhf hR n hn
 rw [h2,h1,Nat.mod_eq_of_lt h]
 exact⟨Nat.div_eq_of_lt h,rfl⟩
theorem Yfe{R:List Nat}(hR:∀d∈R,d<U){j n:Nat}(hn:j+n≤R.length)(h:Ye U R<U^(j+n)):tz ((R.drop j).take n)=dg U (Ye U R/U^j):=by
 have hd:∀d∈R.drop j,d<U:=fun d hd=>hR d (List.mem_of_mem_drop hd)
 rw [←(Zhf hR j O).2,←Ly Xi _ (fun d hd'=>hd d (List.mem_of_mem_take hd'))]
 congr 1
 refine(Zdf hd (by rw [List.length_drop];omega) ?_).2
 rw [(Zhf hR j O).2,Nat.div_lt_iff_lt_mul (Nat.pow_pos Xl),←Nat.pow_add,Nat.add_comm]
 exact h
theorem Zn3{R ys:List Nat}(hR:∀d∈R,d<U)(hy:∀d∈ys,d<U)(lo:Nat):∀d∈spl R lo ys,d<U:=fun d hd=>by
 simp only [spl,List.mem_append]at hd
 rcases hd with(hd | hd) | hd
 ·exact hR d (List.mem_of_mem_take hd)
 ·exact hy d hd
 ·exact hR d (List.mem_of_mem_drop hd)
theorem Zof(L:Nat)(ys:List Nat):Ye U (spl (List.replicate L 0) 0 ys)=Ye U ys:=by
 simp [spl,Ou,List.drop_replicate,Iv]
theorem Yfk{R ys:List Nat}(hR:∀d∈R,d<U){j n:Nat}(hn:j+n≤R.length)(h:Ye U R<U^(j+n))(hy:ys.length≤n) :
  Ye U (spl (spl R j (List.replicate n 0)) j ys)=Ye U R%U^j+U^j*Ye U ys:=by
 have e1:(spl R j (List.replicate n 0)).take j=R.take j:=by
  simp only [spl,List.append_assoc]
  rw [List.take_append_of_le_length (by rw [List.length_take];omega),List.take_take,Nat.min_self]
 have e2:(spl R j (List.replicate n 0)).drop (j+ys.length)=List.replicate (n-ys.length) 0 ++ R.drop (j+n):=by
  simp only [spl,List.append_assoc,List.length_replicate]
  rw [←List.drop_drop,List.drop_left' (by rw [List.length_take];omega),List.drop_append_of_le_length (by rw [List.length_replicate];exact hy),List.drop_replicate]
 rw [spl,e1,e2,Ou,Ou,Ou,Iv,(Zdf hR hn h).1,(Zhf hR j O).1,List.length_take,Nat.min_eq_left O]
 simp
theorem Yg0{y b k:Nat}(hy:0<y)(hk:k=(dg U y).length)(hb:b=64-bl ((dg U y).getD (k-1) 0)):(dg U (y*2^b)).length=k∧2^b*U^k≤y*2^b*U*2^b∧1≤k∧y*2^b<U^k∧b≤63∧U^(k-1)*9223372036854775808≤y*2^b:=by
 obtain⟨z1,z2,z3,z4⟩:=Zua hy
 rw [←hk]at z1 z2 z3 z4
 obtain⟨h1,h2⟩:=Znx hy
 have h3:=Fx y
 have e:bl y+b=64*k:=O
 have h4:y*2^b<U^k:=by
  rw [Zbf,←e,Nat.pow_add];exact Nat.mul_lt_mul_of_pos_right h3 (Nat.two_pow_pos b)
 have h5:U^(k-1)*9223372036854775808≤y*2^b:=by
  have:U^(k-1)*9223372036854775808=2^(bl y-1)*2^b:=by
   rw [Zbf,←Nat.pow_add,show 9223372036854775808=2^63 from rfl,←Nat.pow_add]
   congr 1;omega
  rw [this];exact Nat.mul_le_mul_right _ h1
 have h6:U^k=U^(k-1)*U:=by rw [←Nat.pow_succ];congr 1;omega
 refine⟨?_,?_,z3,h4,O,h5⟩
 ·refine Nat.le_antisymm ((Xj Xi _ _).2 h4) ?_
  have:k-1<(dg U (y*2^b)).length:=(Oh Xi _ _).2 (Nat.le_trans (Nat.le_mul_of_pos_right _ O) h5)
  omega
 ·rw [h6,Nat.mul_comm (2^b)]
  refine Nat.mul_le_mul_right _ ?_
  refine Nat.mul_le_mul_right _ (Nat.le_trans (Nat.le_mul_of_pos_right _ O) h5)
theorem Ycp{W D k w1 w0 t:Nat}(hD:t*U^k≤D)(ht:0<t)(hW:W/U^k=w1*U+w0):W/D≤(w1*U+w0)/t:=by
 have hp:0<U^k:=Nat.pow_pos Xl
 rw [←hW,Nat.div_div_eq_div_mul,Nat.mul_comm]
 exact Nat.div_le_div_left hD (Nat.mul_pos ht hp)
theorem Yfq{R:List Nat}(hR:∀d∈R,d<U){j k:Nat}(hk:1≤k)(h:Ye U R<U^(j+k+1))(hn:j+k+1≤R.length):Ye U R/U^j/U^(k-1)=R.getD (j+k) 0*U+R.getD (j+k-1) 0:=by
 have h1:∀i,R.getD i 0=Ye U R/U^i%U:=fun i=>by
  rcases Nat.lt_or_ge i R.length with hi | hi
  ·have h2:=(Zhf hR i O).2
   rw [Za4 0 R i hi]at h2
   simp only [Ye]at h2
   rw [←h2,Nat.add_mul_mod_self_left,Nat.mod_eq_of_lt (Xh Xl hR i)]
  ·rw [show R.getD i 0=0 by simp [List.getD,List.getElem?_eq_none hi],Nat.div_eq_of_lt (Nat.lt_of_lt_of_le (Ze0 Xl R hR) (Nat.pow_le_pow_right Xl hi))];rfl
 rw [h1,h1,Nat.div_div_eq_div_mul,←Nat.pow_add,show j+(k-1)=j+k-1 by omega]
 have h3:Ye U R/U^(j+k)<U:=by
  rw [Nat.div_lt_iff_lt_mul (Nat.pow_pos Xl),←Nat.pow_succ',Nat.add_comm (j+k)]at *
  rw [Nat.add_comm 1]at *
  exact h
 have h4:Ye U R/U^(j+k)=Ye U R/U^(j+k-1)/U:=by
  rw [Nat.div_div_eq_div_mul,←Nat.pow_succ];congr 2;omega
 rw [Nat.mod_eq_of_lt h3,h4,Nat.mul_comm,Nat.div_add_mod]
theorem Ydl{x b k lx D:Nat}(hx:x<U^lx)(hb:b≤63)(hk:1≤k)(hkl:k≤lx+1)(hD:U^(k-1)*9223372036854775808≤D):x*2^b<D*U^(lx+1-k):=by
 have h1:x*2^b<U^lx*2^b:=Nat.mul_lt_mul_of_pos_right hx (Nat.two_pow_pos b)
 have h2:U^lx*2^b≤U^lx*9223372036854775808:=Nat.mul_le_mul_left _ (by
  rw [show 9223372036854775808=2^63 from rfl];exact Nat.pow_le_pow_right O hb)
 have h3:U^lx*9223372036854775808=U^(k-1)*9223372036854775808*U^(lx+1-k):=by
  rw [Nat.mul_right_comm,←Nat.pow_add];congr 2;omega
 have h4:U^(k-1)*9223372036854775808*U^(lx+1-k)≤D*U^(lx+1-k):=Nat.mul_le_mul_right _ hD
 omega
theorem Ydk{V D j Q Vq N:Nat}(hD:0<D)(hQ:Q=V/U^j/D)(hN:Vq*U^(j+1)*D+V=N) :
  V%U^j+U^j*(V/U^j-D*Q)<D*U^j∧(Q+U*Vq)*U^j*D+(V%U^j+U^j*(V/U^j-D*Q))=N:=by
 have hp:0<U^j:=Nat.pow_pos Xl
 have h1:=Nat.mod_lt V hp
 have h2:=Nat.div_add_mod V (U^j)
 have h3:=Nat.div_add_mod (V/U^j) D
 have h4:=Nat.mod_lt (V/U^j) hD
 have h5:V/U^j-D*Q=V/U^j%D:=by rw [hQ];omega
 rw [h5]
 constructor
 ·have h6:U^j*(V/U^j%D+1)≤U^j*D:=Nat.mul_le_mul_left _ h4
  rw [Nat.mul_add]at h6
  rw [Nat.mul_comm D];omega
 ·rw [←hN]
  have e1:(Q+U*Vq)*U^j*D=U^j*(D*Q)+Vq*U^(j+1)*D:=by
   rw [Nat.add_mul,Nat.add_mul,Nat.pow_succ]
   congr 1
   ·rw [Nat.mul_comm Q,Nat.mul_assoc,Nat.mul_comm Q]
   ·rw [Nat.mul_comm U Vq,Nat.mul_assoc Vq,Nat.mul_comm U]
  have e2:U^j*(D*Q)+U^j*(V/U^j%D)=U^j*(V/U^j):=by rw [←Nat.mul_add,hQ,h3]
  omega
def sg(s:Bool)(x:Int):Prop:=(s=true→x≤0)∧(s=false→0≤x)
theorem Yad{s:Bool}{x:Int}(h:sg s x):sg (!s) (-x):=by
 cases s<;>simp [sg]at*<;>omega
theorem Yae{s t:Bool}{x y:Int}(hs:sg s x)(ht:sg t y):sg (s != t) (x*y):=by
 cases s<;>cases t<;>simp [sg]at *
 ·exact Int.mul_nonneg hs ht
 ·exact Int.mul_nonpos_of_nonneg_of_nonpos hs ht
 ·exact Int.mul_nonpos_of_nonpos_of_nonneg hs ht
 ·exact Int.mul_nonneg_of_nonpos_of_nonpos hs ht
theorem Zxg{x:Int}(h:(((dg U x.natAbs).length:Nat):Int)=0):Value.int .i64 x.sign= .int .i64 0:=by
 have h1:=(Pe Xi x.natAbs).1 O
 have:x=0:=O
 subst this;rfl
theorem Zz8{s:Bool}{x:Int}(hs:sg s x)(h1:s=true)(h:¬(((dg U x.natAbs).length:Nat):Int)=0):Value.int .i64 x.sign= .int .i64 (-1):=by
 have h2:¬x.natAbs=0:=fun e=>h (by rw [(Pe Xi x.natAbs).2 e];rfl)
 have h3:=hs.1 h1
 rw [Int.sign_eq_neg_one_of_neg O]
theorem Zz7{s:Bool}{x:Int}(hs:sg s x)(h1:s=false)(h:¬(((dg U x.natAbs).length:Nat):Int)=0):Value.int .i64 x.sign= .int .i64 1:=by
 have h2:¬x.natAbs=0:=fun e=>h (by rw [(Pe Xi x.natAbs).2 e];rfl)
 have h3:=hs.2 h1
 rw [Int.sign_eq_one_of_pos O]
theorem Zug{s:Bool}{x y:Int}(hs:sg s x)(ht:sg s y):sg s (x+y):=by
 cases s<;>simp [sg]at*<;>omega
theorem Zex{s:Bool}{x y:Int}(hs:sg s x)(ht:sg s y):(x+y).natAbs=x.natAbs+y.natAbs:=by
 cases s<;>simp [sg]at*<;>omega
theorem Zgr{s t:Bool}{x y:Int}(hs:sg s x)(ht:sg t y)(h:s≠t)(hge:y.natAbs≤x.natAbs):sg s (x+y):=by
 cases s<;>cases t<;>simp [sg]at*<;>omega
theorem Ac{s t:Bool}{x y:Int}(hs:sg s x)(ht:sg t y)(h:s≠t)(hge:y.natAbs≤x.natAbs):(x+y).natAbs=x.natAbs-y.natAbs:=by
 cases s<;>cases t<;>simp [sg]at*<;>omega
abbrev wv (x:Int):Value:= .agg #[.bool (decide (x<0)),.string (Xz x.natAbs)]
def Bw(x:Int):Int:=if 65536<bl x.natAbs then 0 else x
def Zgg(x:Int):Int:=if 65536<bl x.natAbs then 7 else 0
theorem Yih(x:Int):bl (Bw x).natAbs≤65536:=by
 unfold Bw
 split
 ·decide
 ·omega
theorem Kh{x:Int}(h:bl x.natAbs≤65536):Bw x=x:=by unfold Bw;rw [if_neg O]
theorem Zm2{x:Int}(h:bl x.natAbs≤65536):Zgg x=0:=by unfold Zgg;rw [if_neg O]
theorem Yig{x:Int}(h:65536<bl x.natAbs):Bw x=0:=by unfold Bw;rw [if_pos h]
theorem Yhn{x:Int}(h:65536<bl x.natAbs):Zgg x=7:=by unfold Zgg;rw [if_pos h]
abbrev Zah (x:Int):Value:= .tuple #[wv (Bw x),.int .i64 (Zgg x)]
theorem Zw3{x:Int}(h:((65536:Int)<((bl x.natAbs:Nat):Int))):Zah x= .tuple #[.agg #[.bool false,.string ⟨#[]⟩],.int .i64 7]:=by
 unfold Zah;rw [Yig O,Yhn O];rfl
theorem Zt0{x:Int}(h:¬((65536:Int)<((bl x.natAbs:Nat):Int))):Zah x= .tuple #[wv x,.int .i64 0]:=by
 unfold Zah;rw [Kh O,Zm2 O]
theorem Zn9{x:Int}(hs:sg false x)(h:¬((65536:Int)<((bl x.natAbs:Nat):Int))):Zah x= .tuple #[.agg #[.bool false,.string (Xz x.natAbs)],.int .i64 0]:=by
 rw [Zt0 h,wv,decide_eq_false (by have:=hs.2 rfl;omega)]
theorem Zn8{x:Int}(hs:sg true x)(h:¬((65536:Int)<((bl x.natAbs:Nat):Int))):Zah x= .tuple #[.agg #[.bool (decide ((0:Int)<(((dg U x.natAbs).length:Nat):Int))),.string (Xz x.natAbs)],.int .i64 0]:=by
 have h1:=hs.1 rfl
 have h2:=Pe Xi x.natAbs
 rw [Zt0 h,wv,show decide (x<0)=decide ((0:Int)<(((dg U x.natAbs).length:Nat):Int))from decide_eq_decide.2 ⟨fun h=>O,fun h=>O⟩]
theorem Zb1{x y q r:Int}(hy:y≠0)(h:x=y*q+r)(h0:0≤r)(h1:r<(y.natAbs:Int)):x/y=q∧x%y=r:=by
 have e:=Int.mul_ediv_add_emod x y
 have e0:=Int.emod_nonneg x hy
 have e1:=Int.emod_lt x hy
 have hq:x/y=q:=by
  have hk:y*(x/y-q)=r-x%y:=by rw [Int.mul_sub];omega
  have habs:(y*(x/y-q)).natAbs<y.natAbs:=by rw [hk];omega
  rw [Int.natAbs_mul]at habs
  rcases Nat.eq_zero_or_pos (x/y-q).natAbs with h | h
  ·omega
  ·exact absurd (Nat.le_mul_of_pos_right y.natAbs h) O
 refine⟨hq,?_⟩
 rw [hq]at e;omega
theorem Zrx{s:Bool}{x:Int}(h:sg s x):x=if s then -(x.natAbs:Int)else(x.natAbs:Int):=by
 cases s<;>simp [sg]at*<;>omega
theorem Zvz{s t:Bool}{x y:Int}(hs:sg s x)(ht:sg t y)(hy:y≠0)(Q R:Nat)(hR:R<y.natAbs)(h:x=(if s then -1 else 1)*((y.natAbs:Int)*Q)+R) :
  sg (s != t) (x/y)∧(x/y).natAbs=Q∧(x%y).natAbs=R:=by
 have hy2:=Zrx ht
 have key:x/y=(if s != t then -(Q:Int)else Q)∧x%y=R:=by
  refine Zb1 hy ?_ O O
  conv=>lhs;rw [h]
  conv=>rhs;rw [hy2]
  cases s<;>cases t<;>simp [Int.neg_mul,Int.mul_neg]
 rw [key.1,key.2]
 cases s<;>cases t<;>simp [sg]
theorem divB{s t:Bool}{x y:Int}(hs:sg s x)(ht:sg t y)(hy:y≠0)(hc:s=false∨x.natAbs%y.natAbs=0):sg (s != t) (x/y)∧(x/y).natAbs=x.natAbs/y.natAbs∧(x%y).natAbs=x.natAbs%y.natAbs:=by
 have hx:=Zrx hs
 have e:=Nat.div_add_mod x.natAbs y.natAbs
 refine Zvz hs ht hy _ _ (Nat.mod_lt _ O) ?_
 have e2:((y.natAbs:Int)*((x.natAbs/y.natAbs:Nat):Int))+((x.natAbs%y.natAbs:Nat):Int)=x.natAbs:=by rw [←Int.natCast_mul,←Int.natCast_add,e]
 rcases hc with rfl | h0
 ·simp at hx ⊢;simp at e2;omega
 ·rw [h0]at e2 ⊢
  cases s<;>simp at hx e2 ⊢<;>omega
theorem divA{t:Bool}{x y:Int}(hs:sg true x)(ht:sg t y)(hy:y≠0)(h0:0<x.natAbs%y.natAbs):sg (true != t) (x/y)∧(x/y).natAbs=x.natAbs/y.natAbs+1∧(x%y).natAbs=y.natAbs-x.natAbs%y.natAbs:=by
 have hx:=Zrx hs
 have e:=Nat.div_add_mod x.natAbs y.natAbs
 have hl:=Nat.mod_lt x.natAbs (show 0<y.natAbs by omega)
 refine Zvz hs ht hy _ _ O ?_
 have e2:((y.natAbs:Int)*((x.natAbs/y.natAbs:Nat):Int))+((x.natAbs%y.natAbs:Nat):Int)=x.natAbs:=by rw [←Int.natCast_mul,←Int.natCast_add,e]
 rw [Int.natCast_sub O,Int.natCast_add,Int.mul_add]
 generalize ((y.natAbs:Int)*((x.natAbs/y.natAbs:Nat):Int))=P at *
 generalize ((x.natAbs%y.natAbs:Nat):Int)=R at *
 simp only [if_true]at *
 omega
def okW(b:Bool)(s:ByteArray):Bool:=if s.size=0 then !b else decide ((s.data.toList.getD 0 0).toNat≠0) && decide (s.size≤8192)
theorem bl256{n k:Nat} : (dg 256 n).length≤k↔bl n≤8*k:=by rw [Zit];omega
theorem Zau{x:Int}(h:bl x.natAbs≤65536):okW (decide (x<0)) (Xz x.natAbs)=true:=by
 unfold okW
 rw [Fp]
 split
 ·rename_i h0
  have:=(Pe (by omega:2≤256) x.natAbs).1 h0
  simp;omega
 ·rename_i h0
  have hp:0<x.natAbs:=by
   rcases Nat.eq_zero_or_pos x.natAbs with h1 | h1
   ·rw [h1]at h0;simp [Iq]at h0
   ·exact h1
  have h1:=Zq9 x.natAbs 0 O
  have h2:=dg_top (by omega:2≤256) hp
  rw [Ir O]at h2
  have h3:=(bl256 (n:=x.natAbs) (k:=8192)).2 O
  rw [Bool.and_eq_true]
  refine⟨decide_eq_true (by rw [h1];simpa using h2),decide_eq_true h3⟩
theorem Zfp{a b:ByteArray}(h:a.data.toList=b.data.toList):a=b:=by
 cases a;cases b;simp at h;rw [h]
theorem Yit{s:ByteArray}(h0:s.size≠0)(h:(s.data.toList.getD 0 0).toNat≠0):s=Xz (Ye 256 (s.data.toList.reverse.map UInt8.toNat)):=by
 have hl:s.data.toList.length=s.size:=rfl
 have hb:∀d∈s.data.toList.reverse.map UInt8.toNat,d<256:=fun d hd=>by
  obtain⟨u,_,rfl⟩:=List.mem_map.1 hd
  exact u.toNat_lt
 refine Zfp ?_
 unfold Xz
 rw [Ly O _ hb,tz_eq]
 ·simp [List.map_reverse,Function.comp_def]
 ·refine .inr ?_
  rw [List.length_map,List.length_reverse,List.getD_eq_getElem?_getD,List.getElem?_map,List.getElem?_reverse O]
  rw [show s.data.toList.length-1-(s.data.toList.length-1)=0 by omega]
  rw [List.getD_eq_getElem?_getD]at h
  cases hx:s.data.toList[0]? with
  | none=>rw [hx]at h;simp at h
  | some u=>rw [hx]at h;simpa using h
theorem Zmh{b:Bool}{s:ByteArray}(h:okW b s=true):∃x:Int,bl x.natAbs≤65536∧b=decide (x<0)∧s=Xz x.natAbs:=by
 unfold okW at h
 split at h
 ·rename_i h0
  refine⟨0,by simp [Lo],?_,?_⟩
  ·cases b<;>simp_all
  ·refine Zfp ?_
   have:s.data.toList.length=0:=h0
   rw [List.eq_nil_of_length_eq_zero this];rfl
 ·rename_i h0
  rw [Bool.and_eq_true]at h
  have h1:=of_decide_eq_true h.1
  have h2:=of_decide_eq_true h.2
  have hs:=Yit h0 h1
  generalize Ye 256 (s.data.toList.reverse.map UInt8.toNat)=n at hs
  have hsz:(dg 256 n).length=s.size:=by rw [hs,Fp]
  have hn:0<n:=by
   rcases Nat.eq_zero_or_pos n with h | h
   ·subst h;simp [Iq]at hsz;omega
   ·exact h
  have hbl:bl n≤65536:=by have:=(bl256 (n:=n) (k:=8192)).1 O;omega
  cases b with
  | true=>exact⟨-(n:Int),by simpa using hbl,O8,by simpa using hs⟩
  | false=>exact⟨n,by simpa using hbl,O7,by simpa using hs⟩
def eqW(a:Bool)(s:ByteArray)(b:Bool)(t:ByteArray):Bool:=(a == b) && (s.toList == t.toList)
theorem Zy6{x y:Int}(h:decide (x<0)=decide (y<0))(h2:Xz x.natAbs=Xz y.natAbs):x=y:=by
 have h3:x.natAbs=y.natAbs:=by
  have h4:(dg 256 x.natAbs).reverse.map UInt8.ofNat=(dg 256 y.natAbs).reverse.map UInt8.ofNat:=by
   have:=congrArg (fun b:ByteArray=>b.data.toList) h2
   simpa [Xz]using this
  have h5:∀n:Nat,((dg 256 n).reverse.map UInt8.ofNat).map UInt8.toNat=(dg 256 n).reverse:=fun n=>by
   rw [List.map_map]
   conv=>rhs;rw [←List.map_id (dg 256 n).reverse]
   refine List.map_congr_left fun d hd=>?_
   have:=Ok (by omega:2≤256) n d (List.mem_reverse.1 hd)
   simp [UInt8.toNat_ofNat',Nat.mod_eq_of_lt this]
  have h6:=congrArg (List.map UInt8.toNat) h4
  rw [h5,h5]at h6
  exact(Zfn (by omega:2≤256)).1 (List.reverse_inj.1 h6)
 have h4:=decide_eq_decide.1 h
 omega
theorem Zne{a b:Bool}{s t:ByteArray} : eqW a s b t=true↔a=b∧s=t:=by
 unfold eqW
 rw [Bool.and_eq_true,ByteArray.toList_eq,ByteArray.toList_eq,beq_iff_eq,beq_iff_eq]
 exact⟨fun h=>⟨h.1,Zfp h.2⟩,fun h=>⟨h.1,by rw [h.2]⟩⟩
theorem Yc8(x y:Int):eqW (decide (x<0)) (Xz x.natAbs) (decide (y<0)) (Xz y.natAbs)=decide (x=y):=by
 rw [Bool.eq_iff_iff,Zne,decide_eq_true_iff]
 exact⟨fun h=>Zy6 h.1 h.2,fun h=>by rw [h];exact⟨rfl,rfl⟩⟩
theorem Xc(x:Int):sg (decide (x<0)) x:=by
 unfold sg
 simp;omega
theorem It(x y:Int):bl (x+y).natAbs≤max (bl x.natAbs) (bl y.natAbs)+1:=
 Nat.le_trans (Pn (Int.natAbs_add_le x y)) (bl_add _ _)
theorem Xa(x y:Int):bl (x*y).natAbs≤bl x.natAbs+bl y.natAbs:=by
 rw [Int.natAbs_mul];exact Zjn _ _
theorem Cv(x y:Int):bl (x-y).natAbs≤max (bl x.natAbs) (bl y.natAbs)+1:=by
 have:=It x (-y)
 rwa [Int.natAbs_neg,←Int.sub_eq_add_neg]at this
theorem Zjm(x:Int):bl (-x).natAbs=bl x.natAbs:=by rw [Int.natAbs_neg]
theorem Zha(x y:Int):bl (x/y).natAbs≤bl x.natAbs+1:=by
 have h:(x/y).natAbs≤x.natAbs:=Int.natAbs_ediv_le_natAbs x y
 have:=Pn h;omega
theorem Zwr(x y:Int)(hy:y≠0):bl (x%y).natAbs≤bl y.natAbs:=by
 have e0:=Int.emod_nonneg x hy
 have e1:=Int.emod_lt x hy
 exact Pn O
theorem Znz(x y:Nat):bl (Nat.gcd x y)≤max (bl x) (bl y):=by
 rcases Nat.eq_zero_or_pos x with h | h
 ·subst h;rw [Nat.gcd_zero_left];omega
 ·have:=Pn (Nat.le_of_dvd h (Nat.gcd_dvd_left x y));omega
theorem Yf8(x:Int){y:Int}(h:y≠0):sg false (x%y):=⟨fun h0=>Bool.noConfusion h0,fun _=>Int.emod_nonneg x h⟩
def Mn(x y:Int):Int:=if y<0 then -(Int.gcd x y:Int)else(Int.gcd x y:Int)
theorem Zaw(x y:Int):(Mn x y).natAbs=Nat.gcd x.natAbs y.natAbs:=by
 unfold Mn;split<;>simp [Int.gcd]
theorem Yg7{x y:Int}(h:y≠0):Mn x y≠0:=fun e=>by
 have h1:=Zaw x y
 rw [e]at h1
 have:=(Nat.gcd_eq_zero_iff.1 h1.symm).2
 omega
theorem Yf6{t:Bool}{x y:Int}(ht:sg t y)(hy:y≠0):sg t (Mn x y):=by
 unfold Mn sg at *
 refine⟨fun h=>?_,fun h=>?_⟩
 ·rw [if_pos (by have:=ht.1 h;omega)];omega
 ·rw [if_neg (by have:=ht.2 h;omega)];omega
theorem Zvb(v:Value)(x y:Int):Fa v (Nat.gcd x.natAbs y.natAbs)=Fa v (Mn x y).natAbs:=by rw [Zaw]
def Lq(x y:Int):Prop:=65536<bl (x/Mn x y).natAbs∨65536<bl (y/Mn x y).natAbs
instance (x y:Int):Decidable (Lq x y):=by unfold Lq;infer_instance
def Eg(x y:Int):Int:=if Lq x y then 0 else x/Mn x y
def Ff(x y:Int):Int:=if Lq x y then 0 else y/Mn x y
def Yaw(x y:Int):Int:=if Lq x y then 7 else 0
abbrev An (x y:Int):Value:= .tuple #[.agg #[.bool (decide (Eg x y<0)),.string (Xz (Eg x y).natAbs),.bool (decide (Ff x y<0)),.string (Xz (Ff x y).natAbs)],.int .i64 (Yaw x y)]
theorem Am{x y:Int}(h:Lq x y):An x y= .tuple #[.agg #[.bool false,.string ⟨#[]⟩,.bool false,.string ⟨#[]⟩],.int .i64 7]:=by
 unfold An Eg Ff Yaw;rw [if_pos h,if_pos h,if_pos h];rfl
theorem Cq{x:Int}(h:Zgg x≠0):65536<bl x.natAbs:=by
 unfold Zgg at h;split at h
 ·assumption
 ·exact absurd rfl h
theorem Zg2{x:Int}(h:Zgg x=0):bl x.natAbs≤65536:=by
 unfold Zgg at h;split at h
 ·omega
 ·omega
theorem Zo9{x y:Int}(h1:Zgg (x/Mn x y)=0)(h2:Zgg (y/Mn x y)=0):An x y= .tuple #[.agg #[.bool (decide (Bw (x/Mn x y)<0)),.string (Xz (Bw (x/Mn x y)).natAbs),.bool (decide (Bw (y/Mn x y)<0)),.string (Xz (Bw (y/Mn x y)).natAbs)],.int .i64 0]:=by
 have h3:¬Lq x y:=fun h=>by have:=Zg2 h1;have:=Zg2 h2;unfold Lq at h;omega
 unfold An Eg Ff Yaw
 rw [if_neg h3,if_neg h3,if_neg h3,Kh (Zg2 h1),Kh (Zg2 h2)]
def okR(b:Bool)(s:ByteArray)(c:Bool)(t:ByteArray):Bool:=okW b s && okW c t && (!c && decide (0<t.size))
theorem Zl9(z:Int):(!decide (z<0) && decide (0<(Xz z.natAbs).size))=decide (0<z):=by
 rw [Bool.eq_iff_iff,Bool.and_eq_true,Fp,decide_eq_true_iff,decide_eq_true_iff]
 have:=Pe (by omega:2≤256) z.natAbs
 simp only [Bool.not_eq_true',decide_eq_false_iff_not]
 omega
theorem Ge(z:Int):decide (0<z.sign)=decide (0<z):=by
 rw [decide_eq_decide]
 rcases Int.lt_trichotomy z 0 with h | h | h
 ·rw [Int.sign_eq_neg_one_of_neg h];omega
 ·subst h;simp
 ·rw [Int.sign_eq_one_of_pos h];omega
theorem Zpr{b:Bool}{s:ByteArray}{z:Int}(h1:okW b s=true)(hz:bl z.natAbs≤65536):okR b s (decide (z<0)) (Xz z.natAbs)=decide (0<z.sign):=by
 unfold okR;rw [h1,Zau hz,Zl9,Ge];rfl
theorem okR_wv{x y:Int}(hx:bl x.natAbs≤65536)(hy:bl y.natAbs≤65536)(hy0:0<y):okR (decide (x<0)) (Xz x.natAbs) (decide (y<0)) (Xz y.natAbs)=true:=by
 unfold okR;rw [Zau hx,Zau hy,Zl9];simp [hy0]
theorem Ybq{b c:Bool}{s t:ByteArray}(h:okR b s c t=true):∃x y:Int,bl x.natAbs≤65536∧bl y.natAbs≤65536∧0<y∧b=decide (x<0)∧s=Xz x.natAbs∧c=decide (y<0)∧t=Xz y.natAbs:=by
 unfold okR at h
 rw [Bool.and_eq_true,Bool.and_eq_true]at h
 obtain⟨⟨h1,h2⟩,h3⟩:=h
 obtain⟨x,hx,rfl,rfl⟩:=Zmh h1
 obtain⟨y,hy,rfl,rfl⟩:=Zmh h2
 rw [Zl9]at h3
 exact⟨x,y,hx,hy,of_decide_eq_true h3,rfl,rfl,rfl,rfl⟩
open Go.RowKit (Below)
def Sz(n:Nat)(p:List Int):Prop:=∀i,bl (cf p i).natAbs≤n
theorem Sz.getD{n:Nat}{p:List Int}(h:Sz n p)(i:Nat):bl (p.getD i 0).natAbs≤n:=h i
theorem Sz.mono{n m:Nat}{p:List Int}(h:Sz n p)(hm:n≤m):Sz m p:=fun i=>Nat.le_trans (h i) hm
theorem Sz.tzl{n:Nat}{p:List Int}(h:Sz n p):Sz n (tzl p):=fun i=>by rw [Lj];exact h i
theorem Sz.nil(n:Nat):Sz n []:=fun i=>by simp [cf,Lo]
theorem Sz.take{n:Nat}{p:List Int}(h:Sz n p)(k:Nat):Sz n (p.take k):=fun i=>by
 rw [Gr];split
 ·exact h i
 ·simp [Lo]
theorem Sz.mem{n:Nat}{p:List Int}(h:Sz n p){x:Int}(hx:x∈p):bl x.natAbs≤n:=by
 obtain⟨i,hi,rfl⟩:=List.mem_iff_getElem.1 hx
 have:=h i
 rwa [Zba hi]at this
theorem Sz.of_mem{n:Nat}{p:List Int}(h:∀x∈p,bl x.natAbs≤n):Sz n p:=fun i=>by
 rcases Nat.lt_or_ge i p.length with hi | hi
 ·rw [Zba hi];exact h _ (List.getElem_mem hi)
 ·rw [Yl hi];simp [Lo]
structure Vp (p:List Int):Prop where
 sz:Sz 65536 p
 tr:Tr p
 len:p.length≤25
def wr(x:Int):Bool×ByteArray:=(decide (x<0),Xz x.natAbs)
def okP(r:List (Bool×ByteArray)):Bool:=r.all (fun w=>okW w.1 w.2) && (decide (r.length≤25) && (decide (r.length=0) || decide ((r.getD (r.length-1) (false,⟨#[]⟩)).2.size≠0)))
theorem Zda{x:Int} : (Xz x.natAbs).size=0↔x=0:=by
 rw [Fp]
 have:=Pe (by omega:2≤256) x.natAbs
 omega
theorem Za1(xs:List Int)(i:Nat)(h:i<xs.length):(xs.map wr).getD i (false,⟨#[]⟩)=wr (cf xs i):=by
 rw [Zba h];simp [List.getD,h]
theorem okP_wr{xs:List Int}(h:Vp xs):okP (xs.map wr)=true:=by
 unfold okP
 rw [Bool.and_eq_true,Bool.and_eq_true,Bool.or_eq_true]
 refine⟨List.all_eq_true.2 fun w hw=>?_,by simpa using h.len,?_⟩
 ·obtain⟨x,hx,rfl⟩:=List.mem_map.1 hw
  exact Zau (h.sz.mem hx)
 ·rcases h.tr with h0 | h0
  ·left;simp [h0]
  ·right
   have hl:0<xs.length:=by
    rcases Nat.eq_zero_or_pos xs.length with h1 | h1
    ·rw [Yl O]at h0;exact absurd rfl h0
    ·exact h1
   rw [List.length_map,Za1 _ _ O]
   refine decide_eq_true fun he=>h0 (Zda.1 he)
theorem Zpq{r:List (Bool×ByteArray)}(h:∀w∈r,okW w.1 w.2=true):∃xs:List Int,(∀x∈xs,bl x.natAbs≤65536)∧r=xs.map wr:=by
 induction r with
 | nil=>exact⟨[],O7,rfl⟩
 | cons w r ih=>
  obtain⟨xs,h1,h2⟩:=ih fun u hu=>h u (List.mem_cons_of_mem _ hu)
  obtain⟨x,hx,h3,h4⟩:=Zmh (h w (List.mem_cons_self ..))
  refine⟨x :: xs,fun y hy=>?_,?_⟩
  ·rcases List.mem_cons.1 hy with rfl | hy
   ·exact hx
   ·exact h1 y hy
  ·rw [List.map_cons,←h2,wr,←h3,←h4]
theorem okP_ex{r:List (Bool×ByteArray)}(h:okP r=true):∃xs:List Int,Vp xs∧r=xs.map wr:=by
 unfold okP at h
 rw [Bool.and_eq_true,Bool.and_eq_true,Bool.or_eq_true]at h
 obtain⟨h1,h2,h3⟩:=h
 obtain⟨xs,h4,rfl⟩:=Zpq (List.all_eq_true.1 h1)
 refine⟨xs,⟨Sz.of_mem h4,?_,by simpa using h2⟩,rfl⟩
 rcases h3 with h3 | h3
 ·left;exact List.eq_nil_of_length_eq_zero (by simpa using h3)
 ·rcases Nat.eq_zero_or_pos xs.length with h5 | h5
  ·left;exact List.eq_nil_of_length_eq_zero h5
  ·right
   rw [List.length_map,Za1 _ _ O]at h3
   exact fun he=>of_decide_eq_true h3 (Zda.2 he)
theorem Zhk{xs:List Int}{k j:Nat}(h:j<k)(h0:(xs.take k).getD j 0=0):cf xs j=0:=by rw [Zbz _ _ _ _ h]at h0;exact h0
theorem Zdm{xs:List Int}{k j:Nat}(h:j<k)(h0:¬((xs.take k).getD j 0).sign=0):cf xs j≠0:=fun e=>h0 (by rw [Zbz _ _ _ _ h];rw [show xs.getD j 0=0 from e];rfl)
theorem Ygx{r:List (Bool×ByteArray)}{w:Bool×ByteArray}(hw:w∈r)(h:okW w.1 w.2=false):okP r=false:=by
 unfold okP
 rw [show r.all (fun w=>okW w.1 w.2)=false from List.all_eq_false.2 ⟨w,hw,by simp [h]⟩];rfl
theorem Zmi{xs:List Int}(h:∀x∈xs,bl x.natAbs≤65536):okP (xs.map wr)=(decide (xs.length≤25) && (decide (xs.length=0) || decide (¬(xs.getD (xs.length-1) 0).sign=0))):=by
 unfold okP
 rw [show(xs.map wr).all (fun w=>okW w.1 w.2)=true from List.all_eq_true.2 fun w hw=>by
  obtain⟨x,hx,rfl⟩:=List.mem_map.1 hw
  exact Zau (h x hx)]
 rw [List.length_map,Bool.true_and]
 congr 1
 by_cases h0:xs.length=0
 ·simp [h0]
 ·rw [decide_eq_false h0,Bool.false_or,Bool.false_or,Za1 _ _ O]
  rw [decide_eq_decide,Int.sign_eq_zero_iff_zero]
  exact not_congr Zda
def err(e x:Int):Int:=if e=0 then Zgg x else e
theorem Zsz{x:Int}(h:bl x.natAbs≤65536):err 0 x=0:=by unfold err;rw [if_pos rfl,Zm2 h]
def Qk:List Int→Nat
 | []=>0
 | x :: r=>max (bl x.natAbs) (Qk r)
theorem Lu(p:List Int):Sz (Qk p) p:=by
 refine Sz.of_mem fun x hx=>?_
 induction p with
 | nil=>cases hx
 | cons y r ih=>
  rcases List.mem_cons.1 hx with rfl | h
  ·simp only [Qk];omega
  ·have:=ih h;simp only [Qk];omega
theorem Pd{n:Nat}{p:List Int}(h:Sz n p):Qk p≤n:=by
 have h2:∀x∈p,bl x.natAbs≤n:=fun x hx=>h.mem hx
 clear h
 induction p with
 | nil=>exact Nat.zero_le _
 | cons y r ih=>
  have:=h2 y (List.mem_cons_self ..)
  have:=ih fun x hx=>h2 x (List.mem_cons_of_mem _ hx)
  simp only [Qk];omega
theorem Yb0(p:List Int)(x:Int):Qk (p ++ [x])=max (Qk p) (bl x.natAbs):=by
 induction p with
 | nil=>simp [Qk]
 | cons y r ih=>simp only [List.cons_append,Qk,ih];omega
variable {P:Program} {N:Nat} {sc:Nat→Prop} {env env':Qw} {H H':Hp} {Q Q':Exit→Act→World→Prop} {M:Nat→Prop}
theorem fpm{α β:Type}{f:α→β}{xs:List α}{p:Prop}(h:xs.map f≠[]∧p):xs≠[]∧p:=⟨fun e=>h.1 (by rw [e];rfl),h.2⟩
theorem fpn{α β:Type}{f:α→β}{xs:List α}{p:Prop}(h:xs≠[]∧p):xs.map f≠[]∧p:=⟨fun e=>h.1 (List.map_eq_nil_iff.1 e),h.2⟩
theorem Zru(v:Value)(xs:List Int)(w:World)(h:(Yh 2 wv v xs).holds w):(Yh 2 (fun w:Bool×ByteArray=>Value.agg #[.bool w.1,.string w.2]) v (xs.map wr)).holds w:=by
 obtain⟨⟨a,c,h0,h1,h2,h3⟩,hb⟩:=h
 refine⟨⟨a,c,by rw [List.length_map];exact h0,by rw [List.length_map];exact h1,h2,?_⟩,fun b h=>hb b (fpm h)⟩
 rcases h3 with h3 | ⟨g,off,h3,h4⟩
 ·left;rw [h3];rfl
 ·right
  refine⟨g,off,h3,fun i x hi j u hu=>?_⟩
  rw [List.getElem?_map]at hi
  cases hx:xs[i]? with
  | none=>rw [hx]at hi;cases hi
  | some y=>rw [hx]at hi;cases hi;exact h4 i y hx j u hu
theorem Yf2(v:Value)(xs:List Int)(w:World)(h:(Yh 2 (fun w:Bool×ByteArray=>Value.agg #[.bool w.1,.string w.2]) v (xs.map wr)).holds w):(Yh 2 wv v xs).holds w:=by
 obtain⟨⟨a,c,h0,h1,h2,h3⟩,hb⟩:=h
 rw [List.length_map]at h0 h1
 refine⟨⟨a,c,h0,h1,h2,?_⟩,fun b h=>hb b (fpn h)⟩
 rcases h3 with h3 | ⟨g,off,h3,h4⟩
 ·left;simpa using h3
 ·right
  refine⟨g,off,h3,fun i x hi j u hu=>?_⟩
  exact h4 i (wr x) (by rw [List.getElem?_map,hi];rfl) j u hu
theorem Cal.imp{f:FuncId}{args:Array Value}{p q:Pc}{pre:List Pc}{al:Bool}{G:Type}{φ:G→Prop}{Ye:G→Value}{its:G→List Pc}(h:Cal P f args (p :: pre) al φ Ye its)(hh:∀w,q.holds w→p.holds w)(hf:∀b,p.fp b→q.fp b) :
  Cal P f args (q :: pre) al φ Ye its:=fun w hp=>by
 refine(h w fun r hr=>?_).mono ?_
 ·rcases List.mem_cons.1 hr with rfl | hr
  ·exact hh w (hp q (List.mem_cons_self ..))
  ·exact hp r (List.mem_cons_of_mem _ hr)
 ·rintro e w' ⟨g,he,hg,hb,hits⟩
  refine⟨g,he,hg,hb,fun p' hp'=>?_⟩
  obtain⟨h1,h2,h3⟩:=hits p' hp'
  refine⟨h1,h2,fun b hb=>?_⟩
  rcases h3 b hb with h | ⟨h,r,hr,hrb⟩
  ·exact .inl h
  ·refine .inr ⟨h,?_⟩
   rcases List.mem_cons.1 hr with rfl | hr
   ·exact⟨q,List.mem_cons_self ..,hf b hrb⟩
   ·exact⟨r,List.mem_cons_of_mem _ hr,hrb⟩
end Go.Sky
namespace Go.Sky
def fill(n k:Nat)(f:Nat→Int):List Int:=mk n fun i=>if i<k then f i else 0
theorem Ql(n k:Nat)(f:Nat→Int):(fill n k f).length=n:=Yq _ _
theorem Za2{n k:Nat}{f:Nat→Int}(h:k<n):(fill n k f).set k (f k)=fill n (k+1) f:=Lv (by simp [Ql]) fun i hi=>by
 rw [List.length_set,Ql]at hi
 rw [Zji _ _ _ _ (by rw [Ql];exact h)]
 unfold fill
 rw [Mh,Mh,if_pos hi,if_pos hi]
 by_cases hk:i=k
 ·subst hk;rw [if_pos rfl,if_pos O]
 ·rw [if_neg hk]
  by_cases h2:i<k
  ·rw [if_pos h2,if_pos O]
  ·rw [if_neg h2,if_neg O]
theorem Dk(n:Nat)(f:Nat→Int):List.replicate n 0=fill n 0 f:=Lv (by simp [Ql]) fun i hi=>by
 rw [List.length_replicate]at hi
 unfold fill;rw [Mh,if_pos hi,if_neg O,Zba (by simpa using hi)];simp
theorem Gn(n:Nat)(f:Nat→Int):fill n n f=mk n f:=Ix fun i hi=>by rw [if_pos hi]
theorem Zmp(xs:List Int)(g:Int→Int):mk xs.length (fun i=>g (cf xs i))=xs.map g:=Lv (by simp [Yq]) fun i hi=>by
 rw [Yq]at hi
 rw [Mh,if_pos hi,Zba hi,Zba (p:=xs.map g) (by simpa using hi)];simp
theorem Cl{n m:Nat}{f:Nat→Int}(h:∀i,i<n→bl (f i).natAbs≤m):Sz m (mk n f):=fun i=>by
 rw [Mh];split
 ·exact h i ‹_›
 ·simp [Lo]
theorem Nn{p:List Int}(h:Tr p):Tr (Yx p):=by
 unfold Yx
 rcases Nat.lt_or_ge 1 p.length with h1 | h1
 ·right
  rw [Yq,Mh,if_pos O]
  have h2:=h.mem (by intro e;rw [e]at h1;simp at h1)
  rw [show p.length-1-1+1=p.length-1 by omega]
  intro h3
  rcases Int.mul_eq_zero.1 h3 with h4 | h4
  ·exact h2 h4
  ·omega
 ·left
  exact List.eq_nil_of_length_eq_zero (by rw [Yq];omega)
theorem Zxr(xs:List Int)(c:Int):tzl (fill xs.length xs.length fun i=>cf xs i*c)=Zm xs c:=by
 rw [Gn,Zmp xs (· * c)];rfl
theorem Ygr{xs:List Int}(h:Tr xs):tzl (fill (xs.length-1) (xs.length-1) fun i=>cf xs (i+1)*((i:Int)+1))=Yx xs:=by
 rw [Gn];exact Ai (Nn h)
theorem Ybk{p:List Int}(h:p.length=0):Yx p=[]:=List.eq_nil_of_length_eq_zero (by unfold Yx;rw [Yq];omega)
theorem Zh9(p:List Int)(x:Int):Ym (p ++ [x])=(Int.gcd (Ym p) x:Int):=by unfold Ym;rw [List.foldl_append];rfl
theorem Oe(p:List Int):0≤Ym p:=by
 rcases Zgq p with rfl | ⟨ys,y,rfl⟩
 ·exact Int.le_refl _
 ·rw [Zh9];omega
theorem Mt{p:List Int}{k:Nat}(h:k<p.length):Ym (p.take (k+1))=(Int.gcd (Ym (p.take k)) (p.getD k 0):Int):=by rw [Po 0 _ _ h,Zh9]
theorem Zd4{n:Nat} : ∀(p:List Int),Sz n p→bl (Ym p).natAbs≤n:=fun p=>by
 have key:∀k,k≤p.length→Sz n p→bl (Ym (p.take k)).natAbs≤n:=by
  intro k
  induction k with
  | zero=>intro _ _;rw [List.take_zero];exact Nat.zero_le _
  | succ k ih=>
   intro hk hs
   rw [Mt hk]
   have h1:=ih O hs
   have h2:=hs k
   have:=Znz (Ym (p.take k)).natAbs (p.getD k 0).natAbs
   have h4:bl (p.getD k 0).natAbs≤n:=h2
   show bl (Nat.gcd _ _)≤n
   omega
 intro hs
 have:=key p.length (Nat.le_refl _) hs
 rwa [List.take_length]at this
theorem Mj(p:List Int):∀i,Ym p∣cf p i:=by
 have key:∀k,k≤p.length→∀i,i<k→Ym (p.take k)∣cf p i:=by
  intro k
  induction k with
  | zero=>intro _ i hi;omega
  | succ k ih=>
   intro hk i hi
   rw [Mt hk]
   rcases Nat.lt_or_ge i k with h | h
   ·exact Int.dvd_trans (Int.gcd_dvd_left ..) (ih O i h)
   ·have:i=k:=O
    subst this
    exact Int.gcd_dvd_right ..
 intro i
 rcases Nat.lt_or_ge i p.length with h | h
 ·have:=key p.length (Nat.le_refl _) i h
  rwa [List.take_length]at this
 ·rw [Yl h];exact Int.dvd_zero _
theorem Zat(p:List Int):Ym p=0↔∀i,cf p i=0:=by
 refine⟨fun h i=>by have:=Mj p i;rw [h]at this;exact Int.zero_dvd.1 this,fun h=>?_⟩
 have key:∀k,k≤p.length→Ym (p.take k)=0:=by
  intro k
  induction k with
  | zero=>intro _;rfl
  | succ k ih=>
   intro hk
   rw [Mt hk,ih O]
   have:=h k
   rw [show p.getD k 0=0 from this];rfl
 have:=key p.length (Nat.le_refl _)
 rwa [List.take_length]at this
theorem Hx{p:List Int}{d:Int}(h:∀i,d∣cf p i):d∣Ym p:=by
 have key:∀k,k≤p.length→d∣Ym (p.take k):=by
  intro k
  induction k with
  | zero=>intro _;exact Int.dvd_zero _
  | succ k ih=>
   intro hk
   rw [Mt hk]
   exact Int.dvd_coe_gcd (ih O) (h k)
 have:=key p.length (Nat.le_refl _)
 rwa [List.take_length]at this
theorem Bz(p:List Int)(i:Nat):cf (Zt p) i=cf p i/Ym p:=by
 unfold Zt
 rw [Za9 _ _ O7]
theorem Zr(p:List Int):(Zt p).length=p.length:=by simp [Zt]
theorem Ax{x y:Int}{n:Nat}(h:y∣x)(hx:bl x.natAbs≤n):bl (x/y).natAbs≤n:=by
 have h1:(x/y).natAbs≤x.natAbs:=Int.natAbs_ediv_le_natAbs x y
 exact Nat.le_trans (Pn h1) hx
theorem Yv{p:List Int}(h:Tr p):Tr (Zt p):=by
 rcases h with rfl | h
 ·left;rfl
 ·right
  rw [Bz,Zr]
  intro h0
  have hd:=Mj p (p.length-1)
  have:=Int.mul_ediv_cancel' hd
  rw [h0,Int.mul_zero]at this
  exact h this.symm
theorem Gd{n:Nat}{p:List Int}(h:Sz n p):Sz n (Zt p):=fun i=>by rw [Bz];exact Ax (Mj p i) (h i)
theorem Kj{p:List Int}(h:Vp p):Vp (Zt p):=⟨Gd h.sz,Yv h.tr,by rw [Zr];exact h.len⟩
theorem Vp.ne{p:List Int}(h:Vp p)(h0:p≠[]):Ym p≠0:=fun e=>h.tr.mem h0 ((Zat p).1 e _)
def Ka(p:List Int)(n d:Int)(i:Nat):Int:=Zy (fun m=>cf p (i+m)*(n^m*d^(p.length-1-(i+m)))) (p.length-i)
theorem Zqc(p:List Int)(n d:Int):Ka p n d 0=pev p n d:=by unfold Ka pev;simp only [Nat.zero_add,Nat.sub_zero]
theorem Yhg{p:List Int}(n d:Int)(h:0<p.length):Ka p n d (p.length-1)=cf p (p.length-1):=by
 unfold Ka
 rw [show p.length-(p.length-1)=0+1 by omega,Yi,Kw]
 simp
theorem Ycl{p:List Int}(n d:Int){i:Nat}(h:i<p.length):Ka p n d i=Ka p n d (i+1)*n+cf p i*d^(p.length-1-i):=by
 unfold Ka
 rw [show p.length-i=p.length-(i+1)+1 by omega,Ng]
 rw [←Zhm]
 have:Zy (fun m=>cf p (i+(m+1))*(n^(m+1)*d^(p.length-1-(i+(m+1))))) (p.length-(i+1))=Zy (fun m=>cf p (i+1+m)*(n^m*d^(p.length-1-(i+1+m)))*n) (p.length-(i+1)):=
  Yu fun m hm=>by rw [show i+(m+1)=i+1+m by omega,Int.pow_succ];grind
 rw [this]
 simp only [Nat.add_zero,Int.pow_zero,Int.one_mul]
 omega
theorem Ztn{K:Nat}{f:Nat→Int} : ∀{n:Nat},(∀i,i<n→bl (f i).natAbs≤K)→(Zy f n).natAbs≤n*(2^K-1)
 | 0,_=>by simp [Zy]
 | n+1,h=>by
  have ih:=Ztn (n:=n) fun i hi=>h i O
  have h1:=(Xw K _).1 (h n O)
  rw [Yi,Nat.add_mul]
  have:=Int.natAbs_add_le (Zy f n) (f n)
  omega
theorem Zg9{K:Nat}{f:Nat→Int}{n:Nat}(h:∀i,i<n→bl (f i).natAbs≤K)(hn:n≤31):bl (Zy f n).natAbs≤K+5:=by
 rw [Xw]
 have h1:=Ztn h
 have h2:n*(2^K-1)≤31*(2^K-1):=Nat.mul_le_mul_right _ hn
 have h3:0<2^K:=Nat.two_pow_pos K
 rw [Nat.pow_add]
 omega
theorem De(x:Int){m:Nat}(h:bl x.natAbs≤m):∀k,0<k→bl (x^k).natAbs≤k*m
 | 0,h0=>O
 | 1,_=>by rw [Int.pow_succ,Int.pow_zero,Int.one_mul,Nat.one_mul];exact h
 | k+2,_=>by
  have ih:=De x h (k+1) O
  rw [Int.pow_succ,show k+2=(k+1)+1 from rfl,Nat.add_mul (k+1) 1 m]
  have:=Xa (x^(k+1)) x
  omega
theorem Zg8{a n d:Int}{A m i j:Nat}(ha:bl a.natAbs≤A)(hn:bl n.natAbs≤m)(hd:bl d.natAbs≤m):bl (a*(n^i*d^j)).natAbs≤A+(i+j)*m:=by
 rcases Nat.eq_zero_or_pos i with rfl | hi
 ·rcases Nat.eq_zero_or_pos j with rfl | hj
  ·simp;exact ha
  ·have h1:=De d hd j hj
   have h2:=Xa a (n^0*d^j)
   rw [Int.pow_zero,Int.one_mul]at h2 ⊢
   rw [Nat.zero_add];omega
 ·rcases Nat.eq_zero_or_pos j with rfl | hj
  ·have h1:=De n hn i hi
   have h2:=Xa a (n^i*d^0)
   rw [Int.pow_zero,Int.mul_one]at h2 ⊢
   rw [Nat.add_zero];omega
  ·have h1:=De n hn i hi
   have h2:=De d hd j hj
   have h3:=Xa (n^i) (d^j)
   have h4:=Xa a (n^i*d^j)
   rw [Nat.add_mul];omega
theorem Yen{p:List Int}{n d:Int}{A m:Nat}(hp:Sz A p)(hn:bl n.natAbs≤m)(hd:bl d.natAbs≤m)(hl:p.length≤31)(i:Nat):bl (Ka p n d i).natAbs≤A+(p.length-1-i)*m+5:=by
 unfold Ka
 refine Zg9 (fun k hk=>?_) O
 have h1:=Zg8 (i:=k) (j:=p.length-1-(i+k)) (hp (i+k)) hn hd
 rw [show k+(p.length-1-(i+k))=p.length-1-i by omega]at h1
 exact h1
def Lh(p:List Int)(n d:Int):Prop:=p≠[]∧65536<Qk p+(p.length-1)*Qk [n,d]+8
instance (p:List Int) (n d:Int):Decidable (Lh p n d):=by unfold Lh;infer_instance
def evv(p:List Int)(n d:Int):Int:=if Lh p n d then 0 else pev p n d
def eve(p:List Int)(n d:Int):Int:=if Lh p n d then 7 else 0
abbrev wc (x:Int):Array Value:=#[.bool (decide (x<0)),.string (Xz x.natAbs)]
section
variable {p:List Int} {n d:Int} (hF:Qk p+(p.length-1)*Qk [n,d]+8≤65536) (hl:p.length≤25)
include hF
theorem Zf7:bl n.natAbs≤Qk [n,d]∧bl d.natAbs≤Qk [n,d]:=by simp only [Qk];omega
theorem Znc{k:Nat} : bl (d^(p.length-1-k)).natAbs≤65536:=by
 rcases Nat.eq_zero_or_pos (p.length-1-k)with h | h
 ·rw [h,Int.pow_zero];decide
 ·have h1:=De d (Zf7 hF).2 _ h
  have h2:(p.length-1-k)*Qk [n,d]≤(p.length-1)*Qk [n,d]:=Nat.mul_le_mul_right _ O
  omega
theorem Znb{k:Nat} : bl (cf p k*d^(p.length-1-k)).natAbs≤65536:=by
 have h1:=Zg8 (i:=0) (j:=p.length-1-k) (Lu p k) (Zf7 hF).1 (Zf7 hF).2
 have h2:(0+(p.length-1-k))*Qk [n,d]≤(p.length-1)*Qk [n,d]:=Nat.mul_le_mul_right _ O
 rw [Int.pow_zero,Int.one_mul]at h1
 omega
include hl
theorem Znd(k:Nat):bl (Ka p n d k).natAbs≤65536:=by
 have h1:=Yen (Lu p) (Zf7 hF).1 (Zf7 hF).2 O k
 have h2:(p.length-1-k)*Qk [n,d]≤(p.length-1)*Qk [n,d]:=Nat.mul_le_mul_right _ O
 omega
theorem Zsy{k:Nat}(h1:1≤k)(h2:k≤p.length-1):bl (Ka p n d k*n).natAbs≤65536:=by
 have h3:=Yen (Lu p) (Zf7 hF).1 (Zf7 hF).2 O k
 have h4:=Xa (Ka p n d k) n
 have h5:=(Zf7 hF).1
 have h6:(p.length-1-k)*Qk [n,d]+Qk [n,d]≤(p.length-1)*Qk [n,d]:=by
  rw [←Nat.succ_mul];exact Nat.mul_le_mul_right _ O
 omega
end
theorem evv_bl{p:List Int}{n d:Int}(hl:p.length≤25):bl (evv p n d).natAbs≤65536:=by
 unfold evv
 split
 ·decide
 ·rename_i h
  rcases Nat.eq_zero_or_pos p.length with h0 | h0
  ·rw [List.eq_nil_of_length_eq_zero h0,show pev [] n d=0 from rfl];decide
  ·rw [←Zqc]
   have hne:p≠[]:=fun e=>by rw [e]at h0;simp at h0
   exact Znd (Nat.le_of_not_lt fun hlt=>h ⟨hne,hlt⟩) hl 0
theorem Yba(d:Int){L k:Nat}(h1:1≤k)(h2:k≤L):d^(L-k)*d=d^(L-(k-1)):=by
 rw [show L-(k-1)=L-k+1 by omega,Int.pow_succ]
theorem Zyf{p:List Int}(n d:Int){k:Nat}(h1:1≤k)(h2:k≤p.length-1):Ka p n d k*n+cf p (k-1)*d^(p.length-1-(k-1))=Ka p n d (k-1):=by
 rw [Ycl n d (i:=k-1) O,show k-1+1=k by omega]
end Go.Sky
namespace Go.Sky
def acc(p q:List Int)(i t:Nat):Int:=Zy (fun k=>if k≤t then cf p k*cf q (t-k)else 0) i
def Aa(p q:List Int)(i j t:Nat):Int:=acc p q i t+if i≤t∧t<i+j then cf p i*cf q (t-i)else 0
theorem Zyz(p q:List Int)(i:Nat):Aa p q i 0=acc p q i:=funext fun t=>by
 unfold Aa;rw [if_neg O,Int.add_zero]
theorem Ye3(p q:List Int)(i:Nat):Aa p q i q.length=acc p q (i+1):=funext fun t=>by
 unfold Aa acc
 rw [Yi]
 by_cases h:i≤t
 ·rw [if_pos h]
  by_cases h2:t<i+q.length
  ·rw [if_pos ⟨h,h2⟩]
  ·rw [if_neg (fun h=>h2 h.2),Yl (p:=q) O,Int.mul_zero]
 ·rw [if_neg h,if_neg (fun h2=>h h2.1)]
theorem Zii{L k:Nat}{f g:Nat→Int}(hk:k<L)(h:∀t,t<L→t≠k→f t=g t)(x:Int)(hx:x=g k):(mk L f).set k x=mk L g:=Lv (by simp [Yq]) fun t ht=>by
 rw [List.length_set,Yq]at ht
 rw [Zji _ _ _ _ (by rw [Yq];exact hk),Mh,Mh,if_pos ht]
 by_cases htk:t=k
 ·rw [if_pos htk,htk,hx,if_pos hk]
 ·rw [if_neg htk,if_pos ht,h t ht htk]
theorem Ye2{p q:List Int}{L i j:Nat}(h:i+j<L):(mk L (Aa p q i j)).set (i+j) (Aa p q i j (i+j)+cf p i*cf q j)=mk L (Aa p q i (j+1)):=by
 refine Zii h (fun t ht hne=>?_) _ ?_
 ·unfold Aa
  by_cases h1:i≤t∧t<i+j
  ·rw [if_pos h1,if_pos O]
  ·rw [if_neg h1,if_neg O]
 ·unfold Aa
  rw [if_neg O,if_pos O,Int.add_zero,show i+j-i=j by omega]
theorem Zrg(p q:List Int)(t:Nat):acc p q p.length t=(ps p*ps q).c t:=by
 rw [PS.mul_c]
 unfold acc
 have h1:Zy (fun k=>if k≤t then cf p k*cf q (t-k)else 0) (max (t+1) p.length)=Zy (fun k=>if k≤t then cf p k*cf q (t-k)else 0) p.length:=
  Ze8 O fun k h1 _=>by rw [Yl h1,Int.zero_mul];split<;>rfl
 have h2:Zy (fun k=>if k≤t then cf p k*cf q (t-k)else 0) (max (t+1) p.length)=Zy (fun k=>if k≤t then cf p k*cf q (t-k)else 0) (t+1):=
  Ze8 O fun k h1 _=>by rw [if_neg O]
 rw [←h1,h2]
 exact Yu fun k hk=>by rw [if_pos O];rfl
theorem Zr6(L:Nat):List.replicate L 0=mk L fun _=>0:=by
 rw [Dk L fun _=>0];unfold fill;exact Ix fun i _=>by split<;>rfl
theorem Ybf(p q:List Int):tzl (mk (p.length+q.length-1) (acc p q p.length))=Xs p q:=by
 unfold Xs;congr 1;exact Ix fun i _=>Zrg p q i
theorem Yi3{p q:List Int}{A B i j t:Nat}(hp:Sz A p)(hq:Sz B q)(hi:i<31):bl (Aa p q i j t).natAbs≤A+B+5:=by
 have h:Aa p q i j t=Zy (fun k=>if k<i then(if k≤t then cf p k*cf q (t-k)else 0)else if i≤t∧t<i+j then cf p i*cf q (t-i)else 0) (i+1):=by
  rw [Yi]
  rw [if_neg (Nat.lt_irrefl i)]
  unfold Aa acc
  congr 1
  exact Yu fun k hk=>by rw [if_pos hk]
 rw [h]
 have hm:∀a b,bl (cf p a*cf q b).natAbs≤A+B:=fun a b=>by have:=Xa (cf p a) (cf q b);have:=hp a;have:=hq b;omega
 refine Zg9 (fun k hk=>?_) O
 split
 ·split
  ·exact hm _ _
  ·simp [Lo]
 ·split
  ·exact hm _ _
  ·simp [Lo]
theorem bl_acc{p q:List Int}{A B i t:Nat}(hp:Sz A p)(hq:Sz B q)(hi:i≤31):bl (acc p q i t).natAbs≤A+B+5:=by
 refine Zg9 (fun k hk=>?_) hi
 split
 ·have:=Xa (cf p k) (cf q (t-k));have:=hp k;have:=hq (t-k);omega
 ·simp [Lo]
def Ck(p q:List Int):Prop:=p≠[]∧q≠[]∧(24<p.length+q.length-2∨65536<Qk p+Qk q+5)
instance (p q:List Int):Decidable (Ck p q):=by unfold Ck;infer_instance
theorem Zb0{L i:Nat}{f:Nat→Int}(h:i<L):(mk L f).getD i 0=f i:=by
 have:=Mh L f i;rw [if_pos h]at this;exact this
def Yhy(p q:List Int):Bool:=decide (q≠[]) && decide (p.length<q.length)
def Dc(p q:List Int):Int:=if q.length=0 then 3 else if p.length<q.length then 0 else if 65536<Qk p+(p.length-q.length+1)*(Qk q+1)then 7 else 0
def Zf1(q r:List Int)(top:Nat):List Int:=
 mk r.length fun t=>cf r t*cf q (q.length-1)-if top-(q.length-1)≤t∧t<top-(q.length-1)+q.length then cf r top*cf q (t-(top-(q.length-1)))else 0
def Qj(p q:List Int):Nat→List Int
 | 0=>p
 | j+1=>Zf1 q (Qj p q j) (p.length-1-j)
theorem Zed(q r:List Int)(top:Nat):(Zf1 q r top).length=r.length:=Yq _ _
theorem Mg(p q:List Int):∀j,(Qj p q j).length=p.length
 | 0=>rfl
 | j+1=>by unfold Qj;rw [Zed,Mg p q j]
def Xy(p q:List Int):List Int:=if p.length<q.length then p else tzl (Qj p q (p.length-q.length+1))
theorem Zq6{q r:List Int}{top t:Nat}(ht:t<r.length):cf (Zf1 q r top) t=cf r t*cf q (q.length-1)-if top-(q.length-1)≤t∧t<top-(q.length-1)+q.length then cf r top*cf q (t-(top-(q.length-1)))else 0:=by
 unfold Zf1;rw [Mh,if_pos ht]
theorem Zwp{a b c d:Int}{A B:Nat}(ha:bl a.natAbs≤A)(hb:bl b.natAbs≤B)(hc:bl c.natAbs≤A)(hd:bl d.natAbs≤B):bl (a*b-c*d).natAbs≤A+(B+1):=by
 have h1:=Xa a b
 have h2:=Xa c d
 have h3:=Cv (a*b) (c*d)
 omega
theorem Zzk{q r:List Int}{A B:Nat}(hr:Sz A r)(hq:Sz B q)(top:Nat):Sz (A+(B+1)) (Zf1 q r top):=by
 unfold Zf1
 refine Cl fun t ht=>?_
 split
 ·exact Zwp (hr t) (hq _) (hr _) (hq _)
 ·rw [Int.sub_zero]
  have:=Xa (cf r t) (cf q (q.length-1));have:=hr t;have:=hq (q.length-1);omega
theorem Ze5(p q:List Int):∀j,Sz (Qk p+j*(Qk q+1)) (Qj p q j)
 | 0=>by rw [Nat.zero_mul];exact Lu p
 | j+1=>by
  unfold Qj
  rw [Nat.succ_mul,←Nat.add_assoc]
  exact Zzk (Ze5 p q j) (Lu q) _
def dq(q r:List Int)(k:Nat):Int:=cf r (k+q.length-1)/cf q (q.length-1)
def Zi6(q r:List Int)(k:Nat):List Int:=mk r.length fun t=>cf r t-if k≤t∧t<k+q.length then dq q r k*cf q (t-k)else 0
def Qm(p q:List Int):Nat→List Int
 | 0=>p
 | j+1=>Zi6 q (Qm p q j) (p.length-q.length-j)
theorem Bc(p q:List Int):∀j,(Qm p q j).length=p.length
 | 0=>rfl
 | j+1=>by unfold Qm Zi6;rw [Yq,Bc p q j]
def Zv1(p q:List Int)(k:Nat):Int:=dq q (Qm p q (p.length-q.length-k)) k
def Kp(p q:List Int)(k:Nat):Prop:=cf (Qm p q (p.length-q.length-k)) (k+q.length-1)%cf q (q.length-1)=0
def Ya7(p q:List Int):List Int:=tzl (mk (p.length-q.length+1) (Zv1 p q))
def pdivs(p q:List Int):Prop:=p=[]∨(q.length≤p.length∧(∀k,k≤p.length-q.length→Kp p q k)∧∀i,cf (Qm p q (p.length-q.length+1)) i=0)
theorem Zzm{q r:List Int}{A B:Nat}(hr:Sz A r)(hq:Sz B q)(k:Nat)(he:cf r (k+q.length-1)%cf q (q.length-1)=0):Sz (A+(B+1)) (Zi6 q r k):=by
 unfold Zi6
 refine Cl fun t ht=>?_
 split
 ·have h1:bl (dq q r k).natAbs≤A:=Ax (Int.dvd_of_emod_eq_zero he) (hr _)
  have h2:=Xa (dq q r k) (cf q (t-k))
  have h3:=Cv (cf r t) (dq q r k*cf q (t-k))
  have:=hr t;have:=hq (t-k);omega
 ·rw [Int.sub_zero];have:=hr t;omega
theorem Ze7(p q:List Int):∀j,j≤p.length-q.length+1→(∀k,p.length-q.length<k+j→k≤p.length-q.length→Kp p q k)→Sz (Qk p+j*(Qk q+1)) (Qm p q j)
 | 0,_,_=>by rw [Nat.zero_mul];exact Lu p
 | j+1,hj,h=>by
  unfold Qm
  rw [Nat.succ_mul,←Nat.add_assoc]
  refine Zzm (Ze7 p q j O fun k h1 h2=>h k O h2) (Lu q) _ ?_
  have:=h (p.length-q.length-j) O O
  unfold Kp at this
  rw [show p.length-q.length-(p.length-q.length-j)=j by omega]at this
  exact this
theorem Yda{x y:Bool×ByteArray}(h:eqW x.1 x.2 y.1 y.2=true):x=y:=by
 obtain⟨h1,h2⟩:=Zne.1 h
 exact Prod.ext h1 h2
theorem Yc9(a:Bool)(s:ByteArray):eqW a s a s=true:=Zne.2 ⟨rfl,rfl⟩
theorem Zy0(p q:List Int)(i j:Nat):Aa p q i (j+1) (i+j)=Aa p q i j (i+j)+cf p i*cf q j:=by
 unfold Aa
 rw [if_pos O,if_neg O,Int.add_zero,show i+j-i=j by omega]
theorem Bm{p q:List Int}(h:p.length=0∨q.length=0):Xs p q=[]:=by
 unfold Xs
 refine(Mu _).2 fun i=>?_
 rw [Mh]
 split
 ·rw [PS.mul_c]
  refine Hb fun k _=>?_
  rcases h with h | h
  ·rw [Oj,Yl O,Int.zero_mul]
  ·rw [Oj,Oj,Yl (p:=q) O,Int.mul_zero]
 ·rfl
def Zge(R:List Int)(l:Int)(i:Nat):List Int:=mk R.length fun t=>if t<i then cf R t*l else cf R t
def Zjz(q R:List Int)(l c:Int)(s i:Nat):List Int:=mk R.length fun t=>cf R t*l-if s≤t∧t<s+i then c*cf q (t-s)else 0
theorem Zp2(R:List Int)(l:Int)(i:Nat):(Zge R l i).length=R.length:=Yq _ _
theorem Zp1(q R:List Int)(l c:Int)(s i:Nat):(Zjz q R l c s i).length=R.length:=Yq _ _
theorem Zx1(R:List Int)(l:Int):Zge R l 0=R:=by
 unfold Zge
 refine Eq.trans (Ix fun i hi=>?_) (Zbw R)
 rw [if_neg O]
theorem Ybz{R:List Int}{l:Int}{i:Nat}(h:i<R.length):(Zge R l i).getD i 0=cf R i:=by
 unfold Zge;rw [Zb0 h,if_neg O]
theorem Yby{R:List Int}{l:Int}{i:Nat}(h:i<R.length):(Zge R l i).set i (cf R i*l)=Zge R l (i+1):=by
 unfold Zge
 refine Zii h (fun t ht hne=>?_) _ (by rw [if_pos O])
 by_cases h2:t<i
 ·rw [if_pos h2,if_pos O]
 ·rw [if_neg h2,if_neg O]
theorem Zxb(q R:List Int)(l c:Int)(s:Nat):Zge R l R.length=Zjz q R l c s 0:=by
 unfold Zge Zjz
 exact Ix fun i hi=>by rw [if_pos hi,if_neg O,Int.sub_zero]
theorem Zzq{q R:List Int}{l c:Int}{s i:Nat}(h:s+i<R.length):(Zjz q R l c s i).getD (s+i) 0=cf R (s+i)*l:=by
 unfold Zjz;rw [Zb0 h,if_neg O,Int.sub_zero]
theorem Zzp{q R:List Int}{l c:Int}{s i:Nat}(h:s+i<R.length):(Zjz q R l c s i).set (s+i) (cf R (s+i)*l-c*cf q i)=Zjz q R l c s (i+1):=by
 unfold Zjz
 refine Zii h (fun t ht hne=>?_) _ (by rw [if_pos O,show s+i-s=i by omega])
 by_cases h2:s≤t∧t<s+i
 ·rw [if_pos h2,if_pos O]
 ·rw [if_neg h2,if_neg O]
theorem rest_b{p q:List Int}{j:Nat}(hF:Qk p+(p.length-q.length+1)*(Qk q+1)≤65536)(hj:j<p.length-q.length+1) :
  (∀t,bl (cf (Qj p q j) t).natAbs≤65536)∧(∀t i,bl (cf (Qj p q j) t*cf q i).natAbs≤65536)∧(∀t i t2 i2,bl (cf (Qj p q j) t*cf q i-cf (Qj p q j) t2*cf q i2).natAbs≤65536):=by
 have h1:=Ze5 p q j
 have h2:j*(Qk q+1)+(Qk q+1)≤(p.length-q.length+1)*(Qk q+1):=by rw [←Nat.succ_mul];exact Nat.mul_le_mul_right _ O
 refine⟨fun t=>by have:=h1 t;omega,fun t i=>?_,fun t i t2 i2=>?_⟩
 ·have:=h1 t;have:=Lu q i;have:=Xa (cf (Qj p q j) t) (cf q i);omega
 ·have:=Zwp (h1 t) (Lu q i) (h1 t2) (Lu q i2);omega
theorem Zom{p q:List Int}(hF:Qk p+(p.length-q.length+1)*(Qk q+1)≤65536):Sz 65536 (Qj p q (p.length-q.length+1)):=(Ze5 p q _).mono hF
theorem Zb2{p q:List Int}(h:Dc p q=0):q.length≠0∧(q.length≤p.length→Qk p+(p.length-q.length+1)*(Qk q+1)≤65536):=by
 unfold Dc at h
 split at h
 ·omega
 ·refine⟨‹_›,fun hle=>?_⟩
  rw [if_neg O]at h
  split at h
  ·omega
  ·omega
theorem Zem{p q:List Int}(h:q.length≠0):Yhy p q=decide (p.length<q.length):=by
 unfold Yhy
 have h2:q≠[]:=fun e=>h (by rw [e];rfl)
 simp [h2]
def Zj8(q R:List Int)(c:Int)(k i:Nat):List Int:=mk R.length fun t=>cf R t-if k≤t∧t<k+i then c*cf q (t-k)else 0
theorem Zp3(q R:List Int)(c:Int)(k i:Nat):(Zj8 q R c k i).length=R.length:=Yq _ _
theorem Zyk(q R:List Int)(c:Int)(k:Nat):R=Zj8 q R c k 0:=by
 unfold Zj8
 refine Eq.trans (Zbw R).symm (Ix fun i hi=>?_)
 rw [if_neg O,Int.sub_zero]
theorem Ydg{q R:List Int}{c:Int}{k i:Nat}(h:k+i<R.length):(Zj8 q R c k i).getD (k+i) 0=cf R (k+i):=by
 unfold Zj8;rw [Zb0 h,if_neg O,Int.sub_zero]
theorem Ydf{q R:List Int}{c:Int}{k i:Nat}(h:k+i<R.length):(Zj8 q R c k i).set (k+i) (cf R (k+i)-c*cf q i)=Zj8 q R c k (i+1):=by
 unfold Zj8
 refine Zii h (fun t ht hne=>?_) _ (by rw [if_pos O,show k+i-k=i by omega])
 by_cases h2:k≤t∧t<k+i
 ·rw [if_pos h2,if_pos O]
 ·rw [if_neg h2,if_neg O]
def Zfm(p q:List Int)(j:Nat):List Int:=mk (p.length-q.length+1) fun t=>if p.length-q.length<t+j then Zv1 p q t else 0
theorem Zax(p q:List Int)(j:Nat):(Zfm p q j).length=p.length-q.length+1:=Yq _ _
theorem Zyn(p q:List Int):List.replicate (p.length-q.length+1) 0=Zfm p q 0:=by
 rw [Zr6];unfold Zfm
 exact Ix fun i hi=>by rw [if_neg O]
theorem Ydj{p q:List Int}{j:Nat}(hj:j<p.length-q.length+1):(Zfm p q j).set (p.length-q.length-j) (dq q (Qm p q j) (p.length-q.length-j))=Zfm p q (j+1):=by
 unfold Zfm
 refine Zii O (fun t ht hne=>?_) _ ?_
 ·by_cases h2:p.length-q.length<t+j
  ·rw [if_pos h2,if_pos O]
  ·rw [if_neg h2,if_neg O]
 ·rw [if_pos O];unfold Zv1;rw [show p.length-q.length-(p.length-q.length-j)=j by omega]
theorem Zel(p q:List Int):tzl (Zfm p q (p.length-q.length+1))=Ya7 p q:=by
 unfold Zfm Ya7
 congr 1
 exact Ix fun i hi=>by rw [if_pos O]
def pdv(p q:List Int):Prop:=p=[]∨(q.length≤p.length∧(∀k,k≤p.length-q.length→Kp p q k)∧tzl (Qm p q (p.length-q.length+1))=[])
instance (p q:List Int) (k:Nat):Decidable (Kp p q k):=by unfold Kp;infer_instance
instance (p q:List Int):Decidable (pdv p q):=by unfold pdv;infer_instance
theorem div_b{p q:List Int}{j:Nat}(hF:Qk p+(p.length-q.length+1)*(Qk q+1)≤65536)(hj:j<p.length-q.length+1)(hx:∀k,p.length-q.length<k+j→k≤p.length-q.length→Kp p q k) :
  (∀t,bl (cf (Qm p q j) t).natAbs≤65536)∧(Kp p q (p.length-q.length-j)→bl (dq q (Qm p q j) (p.length-q.length-j)).natAbs≤65536∧(∀i,bl (dq q (Qm p q j) (p.length-q.length-j)*cf q i).natAbs≤65536)∧
   ∀t i,bl (cf (Qm p q j) t-dq q (Qm p q j) (p.length-q.length-j)*cf q i).natAbs≤65536):=by
 have h1:=Ze7 p q j O hx
 have h2:j*(Qk q+1)+(Qk q+1)≤(p.length-q.length+1)*(Qk q+1):=by rw [←Nat.succ_mul];exact Nat.mul_le_mul_right _ O
 refine⟨fun t=>by have:=h1 t;omega,fun he=>?_⟩
 unfold Kp at he
 rw [show p.length-q.length-(p.length-q.length-j)=j by omega]at he
 have h3:bl (dq q (Qm p q j) (p.length-q.length-j)).natAbs≤Qk p+j*(Qk q+1):=Ax (Int.dvd_of_emod_eq_zero he) (h1 _)
 have h4:∀i,bl (dq q (Qm p q j) (p.length-q.length-j)*cf q i).natAbs≤Qk p+j*(Qk q+1)+Qk q:=fun i=>by
  have:=Xa (dq q (Qm p q j) (p.length-q.length-j)) (cf q i);have:=Lu q i;omega
 refine⟨O,fun i=>by have:=h4 i;omega,fun t i=>?_⟩
 have:=Cv (cf (Qm p q j) t) (dq q (Qm p q j) (p.length-q.length-j)*cf q i)
 have:=h4 i
 have:=h1 t
 omega
theorem Zt6{p q:List Int}(hF:Qk p+(p.length-q.length+1)*(Qk q+1)≤65536)(hx:∀k,k≤p.length-q.length→Kp p q k)(j:Nat):Sz 65536 (Zfm p q j):=by
 unfold Zfm
 refine Cl fun t ht=>?_
 split
 ·have h1:=(div_b hF (j:=p.length-q.length-t) O (fun k _ hk=>hx k hk)).2
  rw [show p.length-q.length-(p.length-q.length-t)=t by omega]at h1
  exact(h1 (hx t O)).1
 ·simp [Lo]
theorem Zzn{p q:List Int}(hF:Qk p+(p.length-q.length+1)*(Qk q+1)≤65536)(hx:∀k,k≤p.length-q.length→Kp p q k):Sz 65536 (Qm p q (p.length-q.length+1)):=
 (Ze7 p q _ (Nat.le_refl _) fun k _ hk=>hx k hk).mono hF
def Mc(p:List Int)(a b d:Int):Nat→List Int
 | 0=>[cf p (p.length-1)]
 | j+1=>mk ((Mc p a b d j).length+1) fun t=>cf (Mc p a b d j) t*a+(if t=0 then cf p (p.length-2-j)*d^(j+1)else cf (Mc p a b d j) (t-1)*b)
theorem Fo(p:List Int)(a b d:Int):Mc p a b d 0=[cf p (p.length-1)]:=rfl
theorem Zyt(p:List Int)(a b d:Int)(j:Nat):Mc p a b d (j+1)=mk ((Mc p a b d j).length+1) (fun t=>cf (Mc p a b d j) t*a+(if t=0 then cf p (p.length-2-j)*d^(j+1)else cf (Mc p a b d j) (t-1)*b)):=rfl
theorem Zay(p:List Int)(a b d:Int):∀j,(Mc p a b d j).length=j+1
 | 0=>rfl
 | j+1=>by unfold Mc;rw [Yq,Zay p a b d j]
def Lt(p:List Int)(a b d:Int):List Int:=if p.length=0 then []else tzl (Mc p a b d (p.length-1))
def Zjb(p:List Int)(a b d:Int):Prop:=p≠[]∧65536<Qk p+(p.length-1)*(Qk [a,b,d]+1)+8
instance (p:List Int) (a b d:Int):Decidable (Zjb p a b d):=by unfold Zjb;infer_instance
def Lr(p q:List Int):List Int:=if p=[]then []else Ya7 p q
theorem Zpg{p q:List Int}(h:p≠[]):Lr p q=Ya7 p q:=if_neg h
theorem Zqq{p q:List Int}{j:Nat}(hj:j≤p.length-q.length):Kp p q (p.length-q.length-j)↔cf (Qm p q j) (p.length-q.length-j+q.length-1)%cf q (q.length-1)=0:=by
 unfold Kp;rw [show p.length-q.length-(p.length-q.length-j)=j by omega]
theorem Zq5{x y:Int}(hy:y≠0)(hb:bl y.natAbs≤65536):Bw (x%y)=x%y:=Kh (Nat.le_trans (Zwr x y hy) hb)
def cnx(c:List Int)(a b:Int)(i:Nat):List Int:=mk (c.length+1) fun t=>if t<i then cf c t*a+(if t=0 then 0 else cf c (t-1)*b)else if t=i∧0<i then cf c (t-1)*b else 0
theorem Ib(c:List Int)(a b:Int)(i:Nat):(cnx c a b i).length=c.length+1:=Yq _ _
theorem Yd7(c:List Int)(a b:Int):List.replicate (c.length+1) 0=cnx c a b 0:=by
 rw [Zr6];unfold cnx
 exact Ix fun i hi=>by rw [if_neg O,if_neg O]
theorem Zwc{c:List Int}{a b:Int}{i:Nat}(h:i<c.length):(cnx c a b i).getD i 0=if i=0 then 0 else cf c (i-1)*b:=by
 unfold cnx
 rw [Zb0 O,if_neg O]
 by_cases h0:i=0
 ·rw [if_neg O,if_pos h0]
 ·rw [if_pos O,if_neg h0]
theorem Yh8{c:List Int}{a b:Int}{i:Nat}(h:i<c.length):((cnx c a b i).set i ((cnx c a b i).getD i 0+cf c i*a)).set (i+1) (cf c i*b)=cnx c a b (i+1):=Lv (by simp [Ib]) fun t ht=>by
 rw [List.length_set,List.length_set,Ib]at ht
 rw [Zji _ _ _ _ (by rw [List.length_set,Ib];omega),Zji _ _ _ _ (by rw [Ib];omega),Zwc h]
 unfold cnx
 rw [Mh,Mh,if_pos ht,if_pos ht]
 by_cases h1:t=i+1
 ·subst h1;rw [if_pos rfl,if_neg O,if_pos O,show i+1-1=i by omega]
 ·rw [if_neg h1]
  by_cases h2:t=i
  ·subst h2
   rw [if_pos rfl,if_pos (Nat.lt_succ_self t)]
   split<;>omega
  ·rw [if_neg h2]
   by_cases h3:t<i
   ·simp [h3,show t<i+1 by omega]
   ·simp [h3,h2,h1,show ¬t<i+1 by omega]
theorem Zq2{c:List Int}{a b:Int}(h:0<c.length):(cnx c a b c.length).getD 0 0=cf c 0*a:=by
 unfold cnx
 rw [Zb0 O,if_pos h,if_pos rfl,Int.add_zero]
theorem Yh9{c:List Int}{a b w:Int}(h:0<c.length):(cnx c a b c.length).set 0 ((cnx c a b c.length).getD 0 0+w)=mk (c.length+1) fun t=>cf c t*a+(if t=0 then w else cf c (t-1)*b):=Lv (by simp [Ib,Yq]) fun t ht=>by
 rw [List.length_set,Ib]at ht
 rw [Zji _ _ _ _ (by rw [Ib];omega),Zq2 h,Mh,if_pos ht]
 unfold cnx
 rw [Mh,if_pos ht]
 by_cases h1:t=0
 ·rw [if_pos h1,if_pos h1,h1]
 ·rw [if_neg h1,if_neg h1,if_neg h1]
  by_cases h2:t<c.length
  ·rw [if_pos h2]
  ·rw [if_neg h2,if_pos (show t=c.length∧0<c.length by omega),Yl (i:=t) O];omega
theorem Zgp{p:List Int}{x y z:Int}{A m:Nat}(hp:Sz A p)(hx:bl x.natAbs≤m)(hy:bl y.natAbs≤m)(hz:bl z.natAbs≤m):∀j,Sz (A+j*(m+1)) (Mc p x y z j)
 | 0=>Sz.of_mem fun w hw=>by
  have hw:w∈[cf p (p.length-1)]:=hw
  rw [List.mem_singleton.1 hw];have:=hp (p.length-1);omega
 | j+1=>by
  have ih:=Zgp hp hx hy hz j
  unfold Mc
  refine Cl fun t ht=>?_
  have h1:=Xa (cf (Mc p x y z j) t) x
  have h2:=ih t
  have e:(j+1)*(m+1)=j*(m+1)+m+1:=by rw [Nat.succ_mul];omega
  split
  ·have h3:=Zg8 (i:=0) (j:=j+1) (hp (p.length-2-j)) hx hz
   rw [Int.pow_zero,Int.one_mul]at h3
   have h4:(0+(j+1))*m≤j*(m+1)+m:=by rw [Nat.zero_add,Nat.succ_mul];have:j*m≤j*(m+1):=Nat.mul_le_mul_left _ O;omega
   have h5:=It (cf (Mc p x y z j) t*x) (cf p (p.length-2-j)*z^(j+1))
   omega
  ·have h3:=Xa (cf (Mc p x y z j) (t-1)) y
   have h4:=ih (t-1)
   have h5:=It (cf (Mc p x y z j) t*x) (cf (Mc p x y z j) (t-1)*y)
   omega
section
variable {p:List Int} {x y z:Int} (hF:Qk p+(p.length-1)*(Qk [x,y,z]+1)+8≤65536) {j:Nat} (hj:j<p.length-1)
include hF hj
theorem cp_all:bl (z^j).natAbs≤65536∧bl (z^(j+1)).natAbs≤65536∧(∀t,bl (cf (Mc p x y z j) t).natAbs≤65536)∧(∀t,bl (cf (Mc p x y z j) t*x).natAbs≤65536)∧(∀t,bl (cf (Mc p x y z j) t*y).natAbs≤65536)∧
  (∀t,bl ((if t=0 then 0 else cf (Mc p x y z j) (t-1)*y)).natAbs≤65536)∧(∀t,bl ((if t=0 then 0 else cf (Mc p x y z j) (t-1)*y)+cf (Mc p x y z j) t*x).natAbs≤65536)∧
  bl (cf p (p.length-2-j)*z^(j+1)).natAbs≤65536∧bl (cf (Mc p x y z j) 0*x+cf p (p.length-2-j)*z^(j+1)).natAbs≤65536:=by
 have hx:bl x.natAbs≤Qk [x,y,z]:=by simp only [Qk];omega
 have hy:bl y.natAbs≤Qk [x,y,z]:=by simp only [Qk];omega
 have hz:bl z.natAbs≤Qk [x,y,z]:=by simp only [Qk];omega
 have hc:=Zgp (Lu p) hx hy hz j
 generalize Qk [x,y,z]=m at *
 have e:j*(m+1)+(m+1)≤(p.length-1)*(m+1):=by rw [←Nat.succ_mul];exact Nat.mul_le_mul_right _ O
 have hjm:j*m≤j*(m+1):=Nat.mul_le_mul_left _ O
 have h3:=Zg8 (i:=0) (j:=j+1) (Lu p (p.length-2-j)) hx hz
 rw [Int.pow_zero,Int.one_mul,Nat.zero_add,Nat.succ_mul]at h3
 have hz1:=De z hz (j+1) O
 rw [Nat.succ_mul]at hz1
 have hp0:bl (z^j).natAbs≤65536:=by
  rcases Nat.eq_zero_or_pos j with h | h
  ·rw [h,Int.pow_zero];decide
  ·have:=De z hz j h;omega
 have g1:∀t,bl (cf (Mc p x y z j) t*x).natAbs≤Qk p+j*(m+1)+m:=fun t=>by have:=Xa (cf (Mc p x y z j) t) x;have:=hc t;omega
 have g2:∀t,bl (cf (Mc p x y z j) t*y).natAbs≤Qk p+j*(m+1)+m:=fun t=>by have:=Xa (cf (Mc p x y z j) t) y;have:=hc t;omega
 have g3:∀t,bl ((if t=0 then 0 else cf (Mc p x y z j) (t-1)*y)).natAbs≤Qk p+j*(m+1)+m:=fun t=>by
  split
  ·simp [Lo]
  ·exact g2 _
 refine⟨hp0,O,fun t=>by have:=hc t;omega,fun t=>by have:=g1 t;omega,fun t=>by have:=g2 t;omega,fun t=>by have:=g3 t;omega,fun t=>?_,O,?_⟩
 ·have:=It (if t=0 then 0 else cf (Mc p x y z j) (t-1)*y) (cf (Mc p x y z j) t*x)
  have:=g1 t;have:=g3 t;omega
 ·have:=It (cf (Mc p x y z j) 0*x) (cf p (p.length-2-j)*z^(j+1))
  have:=g1 0;omega
end
theorem Yh6{p:List Int}{x y z:Int}(hF:Qk p+(p.length-1)*(Qk [x,y,z]+1)+8≤65536):Sz 65536 (Mc p x y z (p.length-1)):=by
 have hx:bl x.natAbs≤Qk [x,y,z]:=by simp only [Qk];omega
 have hy:bl y.natAbs≤Qk [x,y,z]:=by simp only [Qk];omega
 have hz:bl z.natAbs≤Qk [x,y,z]:=by simp only [Qk];omega
 exact(Zgp (Lu p) hx hy hz _).mono O
theorem Zgf(p q:List Int):(Xy p q).length≤p.length:=by
 unfold Xy
 split
 ·exact Nat.le_refl _
 ·have:=Ko (Qj p q (p.length-q.length+1));rw [Mg]at this;exact this
theorem Zai{p q:List Int}(hp:Vp p)(hd:Dc p q=0):Vp (Xy p q):=by
 have hl:=Zgf p q
 refine⟨?_,?_,by have:=hp.len;omega⟩
 ·unfold Xy
  split
  ·exact hp.sz
  ·exact(Zom ((Zb2 hd).2 O)).tzl
 ·unfold Xy
  split
  ·exact hp.tr
  ·exact Xp _
def Zk6(p q:List Int):Prop:=p.length≠0∧q.length≠0∧65536<(max p.length q.length+2)*(max p.length q.length+2)*(max (Qk p) (Qk q)+8)
instance (p q:List Int):Decidable (Zk6 p q):=by unfold Zk6;infer_instance
def gA(p q:List Int):List Int:=if p.length<q.length then Zt q else Zt p
def gB(p q:List Int):List Int:=if p.length<q.length then Zt p else Zt q
def eok:Nat→List Int→List Int→Prop
 | 0,_,b=>b=[]
 | f+1,a,b=>b=[]∨(Dc a b=0∧eok f b (Zt (Xy a b)))
def eu:Nat→List Int→List Int→List Int
 | 0,a,_=>a
 | f+1,a,b=>if b=[]then a else eu f b (Zt (Xy a b))
theorem Ydb{f:Nat}{a b:List Int}(h:eok f a b)(hb:b≠[]):∃g,f=g+1∧Dc a b=0∧eok g b (Zt (Xy a b))∧eu f a b=eu g b (Zt (Xy a b)):=by
 cases f with
 | zero=>exact absurd h hb
 | succ g=>
  rcases h with h | h
  ·exact absurd h hb
  ·exact⟨g,rfl,h.1,h.2,by show(if b=[]then a else _)=_;rw [if_neg hb]⟩
theorem Zfl(f:Nat)(a:List Int):eu f a []=a:=by cases f<;>rfl
def Ic(g:List Int):List Int:=if g.length≠0∧cf g (g.length-1)<0 then Zm g (-1)else g
def Ni(f:Nat)(p q:List Int):List Int:=Ic (eu f (gA p q) (gB p q))
theorem vp_gA{p q:List Int}(hp:Vp p)(hq:Vp q):Vp (gA p q):=by unfold gA;split<;>exact Kj ‹_›
theorem vp_gB{p q:List Int}(hp:Vp p)(hq:Vp q):Vp (gB p q):=by unfold gB;split<;>exact Kj ‹_›
theorem Zaa{p:List Int}(h:Sz 65536 p)(i:Nat):bl (cf p i * -1).natAbs≤65536:=by
 rw [Int.mul_neg,Int.mul_one,Int.natAbs_neg];exact h i
theorem Pg(z:Int):z.sign<0↔z<0:=by
 rcases Int.lt_trichotomy z 0 with h | h | h
 ·rw [Int.sign_eq_neg_one_of_neg h];omega
 ·subst h;simp
 ·rw [Int.sign_eq_one_of_pos h];omega
end Go.Sky
namespace Go.Sky
theorem Zgo{l:List Int}(h:∀x∈l,Xx x):Sz 65536 l:=Sz.of_mem fun x hx=>by
 obtain⟨h1,h2⟩:=h x hx
 have:bl x.natAbs≤64:=(Xw 64 _).2 O
 omega
open Go.RowKit (Below)
set_option maxRecDepth 20000
theorem Qo:2≤1000000000:=O3
theorem Kb:0<1000000000:=O3
abbrev Iu (v:Value) (x:Nat):Pc:=Yh 1 Ks v (dg 1000000000 x)
theorem Kf(x:Nat):(dg 1000000000 x).length≤bl x:=by
 rw [Xj Qo]
 exact Nat.lt_of_lt_of_le (Fx x) (Nat.pow_le_pow_left O3 _)
theorem Zt3{b:Nat}(hb:2≤b){o:List Nat}(ho:∀d∈o,d<b){x:Nat}(hv:Ye b o=x)(h:o.length=0∨b^(o.length-1)≤x):o=dg b x:=by
 rw [←hv,Ly hb o ho]
 have h1:(tz o).length≤o.length:=(Dg o).1
 have h2:o.length≤(tz o).length:=by
  rw [←Ly hb o ho,hv]
  rcases h with h | h
  ·omega
  ·have:=(Oh hb (o.length-1) x).2 h;omega
 have h3:=(Dg o).2
 rw [List.take_of_length_le h2]at h3
 exact h3
theorem Zxv{b:Nat}{o xs ys:List Nat}{k c:Nat}(hl:o.length=k)(h:Ye b o+c*b^k=Ye b (xs.take k)+Ye b (ys.take k)) :
  Ye b (o ++ [(c+xs.getD k 0+ys.getD k 0)%b])+(c+xs.getD k 0+ys.getD k 0)/b*b^(k+1)=Ye b (xs.take (k+1))+Ye b (ys.take (k+1)):=by
 rw [Ou,Xr,Xr,hl]
 have e:=Nat.div_add_mod (c+xs.getD k 0+ys.getD k 0) b
 generalize (c+xs.getD k 0+ys.getD k 0)/b=q at *
 generalize (c+xs.getD k 0+ys.getD k 0)%b=r at *
 simp only [Ye,Nat.pow_succ]
 generalize b^k=B at *
 have:(b*q+r)*B=(c+xs.getD k 0+ys.getD k 0)*B:=by rw [e]
 grind
def d9s(a b c:Nat):Nat:=if a<b+c then a+1000000000-(b+c)else a-(b+c)
theorem Zv5{a b c:Nat}(ha:a<1000000000)(hb:b<1000000000)(hc:c≤1):d9s a b c<1000000000∧d9s a b c+(b+c)=a+brw a b c*1000000000:=by
 unfold d9s brw
 split<;>omega
theorem Zsl{o xs ys:List Nat}{k c:Nat}(hc:c≤1)(hx:xs.getD k 0<1000000000)(hy:ys.getD k 0<1000000000)(hl:o.length=k)(h:Ye 1000000000 o+Ye 1000000000 (ys.take k)=Ye 1000000000 (xs.take k)+c*1000000000^k) :
  Ye 1000000000 (o ++ [d9s (xs.getD k 0) (ys.getD k 0) c])+Ye 1000000000 (ys.take (k+1))=Ye 1000000000 (xs.take (k+1))+brw (xs.getD k 0) (ys.getD k 0) c*1000000000^(k+1):=by
 rw [Ou,Xr,Xr,hl]
 have e:=(Zv5 hx hy hc).2
 generalize d9s (xs.getD k 0) (ys.getD k 0) c=r at *
 generalize brw (xs.getD k 0) (ys.getD k 0) c=q at *
 simp only [Ye,Nat.pow_succ]
 generalize 1000000000^k=B at *
 have:(r+(ys.getD k 0+c))*B=(xs.getD k 0+q*1000000000)*B:=by rw [e]
 grind
theorem Zjt{p:Nat→Prop}{o:List Nat}(h:∀d∈o,p d){x:Nat}(hx:p x):∀d∈o ++ [x],p d:=fun d hd=>by
 rcases List.mem_append.1 hd with h1 | h1
 ·exact h d h1
 ·rw [List.mem_singleton.1 h1];exact hx
theorem Bl{b x k:Nat}(hb:2≤b)(h:k<(dg b x).length):b^k≤x:=(Oh hb k x).1 h
theorem Hl{b x k:Nat}(hb:2≤b)(h:(dg b x).length≤k):Ye b ((dg b x).take k)=x:=by rw [Na _ _ _ h,Nd hb]
theorem Zoj{a b o c:Nat}(ha:a<1000000000)(hb:b<1000000000)(ho:o<1000000000)(hc:c<1000000000):(o+c+a*b)/1000000000<1000000000∧o+c+a*b≤9223372036854775807:=by
 have h:a*b≤999999999*999999999:=Nat.mul_le_mul O O
 refine⟨?_,O⟩
 rw [Nat.div_lt_iff_lt_mul Kb];omega
theorem Zrp{o xs ys:List Nat}{i k c V:Nat}(h:Ye 1000000000 o+c*1000000000^(i+k)=V+xs.getD i 0*1000000000^i*Ye 1000000000 (ys.take k))(hp:i+k<o.length) :
  Ye 1000000000 (o.set (i+k) ((o.getD (i+k) 0+c+xs.getD i 0*ys.getD k 0)%1000000000))+(o.getD (i+k) 0+c+xs.getD i 0*ys.getD k 0)/1000000000*1000000000^(i+(k+1))=V+xs.getD i 0*1000000000^i*Ye 1000000000 (ys.take (k+1)):=by
 have h1:=Zgm 1000000000 o o.length (i+k) ((o.getD (i+k) 0+c+xs.getD i 0*ys.getD k 0)%1000000000) hp hp
 rw [List.take_of_length_le (by rw [List.length_set];exact Nat.le_refl _),List.take_of_length_le (Nat.le_refl _)]at h1
 rw [Xr]
 have e:=Nat.div_add_mod (o.getD (i+k) 0+c+xs.getD i 0*ys.getD k 0) 1000000000
 generalize (o.getD (i+k) 0+c+xs.getD i 0*ys.getD k 0)/1000000000=q at *
 generalize (o.getD (i+k) 0+c+xs.getD i 0*ys.getD k 0)%1000000000=r at *
 generalize Ye 1000000000 (o.set (i+k) r)=W at *
 rw [show i+(k+1)=(i+k)+1 by omega,Nat.pow_succ]
 have e2:1000000000^(i+k)=1000000000^i*1000000000^k:=Nat.pow_add _ _ _
 rw [e2]at h h1 ⊢
 generalize 1000000000^i=A at *
 generalize 1000000000^k=B at *
 have h3:(1000000000*q+r)*(A*B)=(o.getD (i+k) 0+c+xs.getD i 0*ys.getD k 0)*(A*B):=by rw [e]
 simp only [Nat.add_mul]at h3
 have t1:q*(A*B*1000000000)=1000000000*q*(A*B):=O4
 have t2:xs.getD i 0*A*(Ye 1000000000 (ys.take k)+ys.getD k 0*B)=xs.getD i 0*A*Ye 1000000000 (ys.take k)+xs.getD i 0*ys.getD k 0*(A*B):=O4
 rw [t1,t2]
 omega
def Zgj(x y:Nat):Int:=if x<y then -1 else if y<x then 1 else 0
section
variable {P:Program} {N:Nat} {sc:Nat→Prop} {env env':Qw} {H H':Hp} {Q Q':Exit→Act→World→Prop} {M:Nat→Prop}
variable {o:Oper} {t t':TypeId} {x y:Operand} {m n:Nat}
theorem Zea(ho:o.op= .binOp .add t x y t')(hx:ev env x=some (.int .i64 (m:Int)))(hy:ev env y=some (.int .i64 (n:Int)))(h:m+n≤9223372036854775807):Nt P N sc o env H (.int .i64 ((m+n:Nat):Int)):=by
 have:=d_add (P:=P) (N:=N) (sc:=sc) (H:=H) ho hx hy ⟨O,O⟩
 rwa [←Int.natCast_add]at this
theorem n_mul(ho:o.op= .binOp .mul t x y t')(hx:ev env x=some (.int .i64 (m:Int)))(hy:ev env y=some (.int .i64 (n:Int)))(h:m*n≤9223372036854775807):Nt P N sc o env H (.int .i64 ((m*n:Nat):Int)):=by
 have:=d_mul (P:=P) (N:=N) (sc:=sc) (H:=H) ho hx hy (by rw [←Int.natCast_mul];exact⟨O,O⟩)
 rwa [←Int.natCast_mul]at this
theorem Zie(ho:o.op= .binOp .quo t x y t')(hx:ev env x=some (.int .i64 (m:Int)))(hy:ev env y=some (.int .i64 (n:Int)))(h:m≤9223372036854775807)(hn:0<n):Nt P N sc o env H (.int .i64 ((m/n:Nat):Int)):=by
 have:=Zcj (P:=P) (N:=N) (sc:=sc) (H:=H) ho hx hy   
 rwa [←Int.natCast_ediv]at this
theorem Zpu(ho:o.op= .binOp .rem t x y t')(hx:ev env x=some (.int .i64 (m:Int)))(hy:ev env y=some (.int .i64 (n:Int)))(hn:0<n):Nt P N sc o env H (.int .i64 ((m%n:Nat):Int)):=by
 have:=Zi9 (P:=P) (N:=N) (sc:=sc) (H:=H) ho hx hy  
 rwa [←Int.natCast_emod]at this
end
end Go.Sky
namespace Go.Sky
theorem Za5{l:List Nat}{i:Nat}(h:l.length≤i):l.getD i 0=0:=by simp [List.getD,List.getElem?_eq_none h]
theorem Zqp{b x y:Nat}(hb:2≤b)(h:x≤y):(dg b x).length≤(dg b y).length:=by
 rcases Nat.lt_or_ge (dg b y).length (dg b x).length with h1 | h1
 ·have:=Bt hb h1;omega
 ·exact h1
theorem Ydm{b n:Nat}(hb:2≤b)(h:n<b)(h0:n≠0):dg b n=[n]:=by
 rw [Ay hb O,Nat.mod_eq_of_lt h,Nat.div_eq_of_lt h,Iq]
theorem Yfo{b a r:Nat}(hb:2≤b)(ha:a<b):tz (a :: dg b r)=dg b (r*b+a):=by
 have h:∀d∈a :: dg b r,d<b:=fun d hd=>by
  rcases List.mem_cons.1 hd with rfl | hd
  ·exact ha
  ·exact Ok hb r d hd
 rw [←Ly hb _ h]
 congr 1
 simp only [Ye,Nd hb]
 rw [Nat.mul_comm];omega
theorem Zq4{a b:Nat} : Zgj a b<0↔a<b:=by unfold Zgj;split<;>(try split)<;>omega
theorem Zwd{a b:Nat} : Zgj a b≤0↔a≤b:=by unfold Zgj;split<;>(try split)<;>omega
theorem Zwe{a b:Nat} : 0≤Zgj a b↔b≤a:=by unfold Zgj;split<;>(try split)<;>omega
theorem Zsb{x k:Nat}(hk:0<k):x/1000000000^k*1000000000+x/1000000000^(k-1)%1000000000=x/1000000000^(k-1):=by
 have h:x/1000000000^k=x/1000000000^(k-1)/1000000000:=by
  rw [Nat.div_div_eq_div_mul,←Nat.pow_succ,show(k-1).succ=k by omega]
 rw [h,Nat.mul_comm];exact Nat.div_add_mod _ _
theorem over_Q{r a y:Nat}(hr:r<y)(ha:a<1000000000):(r*1000000000+a)/y<1000000000:=by
 rw [Nat.div_lt_iff_lt_mul O]
 have:(r+1)*1000000000≤y*1000000000:=Nat.mul_le_mul_right _ hr
 rw [Nat.mul_comm 1000000000];omega
theorem bl_m30{y m:Nat}(h:bl m≤30):bl (y*m)≤bl y+30:=by have:=Zjn y m;omega
theorem Yi1{r a y:Nat}(hr:r<y)(ha:a<1000000000):bl (r*1000000000+a)≤bl y+30:=by
 have h1:r*1000000000+a<y*1000000000:=by
  have:(r+1)*1000000000≤y*1000000000:=Nat.mul_le_mul_right _ hr
  omega
 have h2:=Pn (Nat.le_of_lt h1)
 have h3:=bl_m30 (y:=y) (m:=1000000000) ((Xw 30 _).2 O)
 exact Nat.le_trans h2 h3
theorem Yel{y n:Nat}(hn:n<1000000000):bl (y*n)≤bl y+30:=by
 have h3:=Zjn y n
 have h4:bl n≤30:=(Xw 30 _).2 O
 omega
theorem Zei{q:List Nat}{k d:Nat}(hk:0<k)(h:k≤q.length):Ye 1000000000 ((q.set (k-1) d).drop (k-1))=d+1000000000*Ye 1000000000 (q.drop k):=by
 rw [drop_set _ _ _ O,show k-1+1=k by omega];rfl
theorem Zyl{q:List Nat}{k:Nat}(hk:0<k)(h:k≤q.length)(h0:q.getD (k-1) 0=0):Ye 1000000000 (q.drop (k-1))=1000000000*Ye 1000000000 (q.drop k):=by
 rw [Za4 0 q (k-1) O,h0,show k-1+1=k by omega];simp [Ye]
theorem Zoi{m:Nat}(h:m<9223372036854775809):tz [m%1000000000,m/1000000000%1000000000,m/1000000000/1000000000]=dg 1000000000 m:=by
 rw [←Ly Qo [m%1000000000,m/1000000000%1000000000,m/1000000000/1000000000] (by intro d hd;simp at hd;omega)]
 congr 1
 simp only [Ye]
 omega
theorem sign9{x:Int}(h:(((dg 1000000000 x.natAbs).length:Nat):Int)=0):Value.int .i64 x.sign= .int .i64 0:=by
 have h1:=(Pe Qo x.natAbs).1 O
 have:x=0:=O
 subst this;rfl
theorem Zis{x:Nat}(h:¬(((dg 1000000000 x).length:Nat):Int)=0):0<x:=by
 rcases Nat.eq_zero_or_pos x with h1 | h1
 ·subst h1;simp [Iq]at h
 ·exact h1
theorem Yb5{s:Bool}{n:Nat}{z:Int}(hn:n=z.natAbs)(hs:sg s z):(s && decide (0<n))=decide (z<0):=by
 subst hn
 cases s
 ·have:=hs.2 rfl;rw [Bool.false_and,decide_eq_false O]
 ·have:=hs.1 rfl;rw [Bool.true_and,decide_eq_decide];omega
theorem Zp6(n:Nat):decide ((0:Int)<(((dg 1000000000 n).length:Nat):Int))=decide (0<n):=by
 rw [decide_eq_decide]
 have:=Pe Qo n
 omega
theorem Yi4{a b:Bool}(h:(a == b)=true):a=b:=by simpa using h
theorem Yfv{x y:Int}(hy:y≠0):(x-x.tdiv y*y=x.tmod y):=by
 have:=Int.tmod_add_mul_tdiv x y
 have e:x.tdiv y*y=y*x.tdiv y:=Int.mul_comm _ _
 omega
theorem Zhj(x y:Int):x.natAbs/y.natAbs=(x.tdiv y).natAbs:=(Int.natAbs_tdiv x y).symm
theorem Yf4(x y:Int):sg (decide (x<0) != decide (y<0)) (x.tdiv y):=by
 have h0:∀a b:Int,0≤a→0≤b→0≤a.tdiv b:=fun a b ha hb=>Int.tdiv_nonneg ha hb
 rcases Int.lt_or_le x 0 with h | h<;>rcases Int.lt_or_le y 0 with h2 | h2
 ·have h3:=h0 (-x) (-y) O O
  rw [Int.neg_tdiv,Int.tdiv_neg]at h3
  simp only [sg,h,h2,decide_true,bne_self_eq_false];exact⟨fun h=>Bool.noConfusion h,fun _=>O⟩
 ·have h3:=h0 (-x) y O h2
  rw [Int.neg_tdiv]at h3
  have:¬y<0:=O
  simp [sg,h,this];omega
 ·have h3:=h0 x (-y) h O
  rw [Int.tdiv_neg]at h3
  have:¬x<0:=O
  simp [sg,h2,this];omega
 ·have h3:=h0 x y h h2
  have g1:¬x<0:=O
  have g2:¬y<0:=O
  simp [sg,g1,g2];exact h3
theorem Zhi(x:Int){y:Int}(hy:y≠0):(x.tmod y).natAbs<y.natAbs:=by
 rw [Int.natAbs_tmod];exact Nat.mod_lt _ O
theorem Ygm{x y:Int}(hy:0<y)(h:x.tmod y<0):x/y=x.tdiv y-1∧x%y=x-(x.tdiv y-1)*y:=by
 have h1:=Zhi x (show y≠0 by omega)
 have h2:=Int.tmod_add_mul_tdiv x y
 have e:(x.tdiv y-1)*y=y*x.tdiv y-y:=by rw [Int.sub_mul,Int.mul_comm];omega
 have:=Zb1 (x:=x) (y:=y) (q:=x.tdiv y-1) (r:=x-(x.tdiv y-1)*y) O (by rw [Int.mul_comm y];omega) O O
 exact this
theorem Ygn{x y:Int}(hy:y<0)(h:x.tmod y<0):x/y=x.tdiv y+1∧x%y=x-(x.tdiv y+1)*y:=by
 have h1:=Zhi x (show y≠0 by omega)
 have h2:=Int.tmod_add_mul_tdiv x y
 have e:(x.tdiv y+1)*y=y*x.tdiv y+y:=by rw [Int.add_mul,Int.mul_comm];omega
 have:=Zb1 (x:=x) (y:=y) (q:=x.tdiv y+1) (r:=x-(x.tdiv y+1)*y) O (by rw [Int.mul_comm y];omega) O O
 exact this
theorem Ya3{x y:Int}(hy:y≠0)(h:¬x.tmod y<0):x/y=x.tdiv y∧x%y=x.tmod y:=by
 have h1:=Zhi x hy
 have h2:=Int.tmod_add_mul_tdiv x y
 exact Zb1 hy O O O
theorem Yiz(x y:Int):bl (x.tdiv y).natAbs≤bl x.natAbs:=by
 rw [Int.natAbs_tdiv];exact Pn (Nat.div_le_self _ _)
theorem Ztm(x y:Int):bl (x.tdiv y*y).natAbs≤bl x.natAbs:=by
 rw [Int.natAbs_mul,Int.natAbs_tdiv]
 exact Pn (Nat.div_mul_le_self _ _)
section
variable {P:Program} {N:Nat} {sc:Nat→Prop} {env env':Qw} {H H':Hp} {Q Q':Exit→Act→World→Prop} {M:Nat→Prop}
variable {o:Oper} {t t':TypeId} {x y:Operand} {m n:Nat}
theorem Zsj(ho:o.op= .binOp .quo t x y t')(hx:ev env x=some (.int .i64 (-(m:Int))))(hy:ev env y=some (.int .i64 (n:Int)))(h:m≤9223372036854775808)(hn:1<n):Nt P N sc o env H (.int .i64 (-((m/n:Nat):Int))):=Hy ho hx hy fun w=>by
 have h1:(-(m:Int)).tdiv (n:Int)=-((m/n:Nat):Int):=by rw [Int.neg_tdiv,Int.ofNat_tdiv]
 have h2:m/n≤9223372036854775807:=by
  have:=Nat.div_le_div_left (show 2≤n from hn) (by omega:0<2) (a:=m)
  omega
 generalize m/n=q at *
 have hw:Xx (-(q:Int)):=⟨O,O⟩
 simp [binOp,Op.intDiv,h1,Ae hw];omega
theorem Ybs(ho:o.op= .binOp .rem t x y t')(hx:ev env x=some (.int .i64 (-(m:Int))))(hy:ev env y=some (.int .i64 (n:Int)))(hn:0<n):Nt P N sc o env H (.int .i64 (-((m%n:Nat):Int))):=Hy ho hx hy fun w=>by
 have h1:(-(m:Int)).tmod (n:Int)=-((m%n:Nat):Int):=by rw [Int.neg_tmod,Int.ofNat_tmod]
 simp [binOp,Op.intDiv,h1];omega
theorem Ybv(ho:o.op= .unOp .neg t x)(hx:ev env x=some (.int .i64 (-(m:Int))))(h:m≤9223372036854775807):Nt P N sc o env H (.int .i64 (m:Int)):=fun a w hs=>by
 have hw:Xx (m:Int):=⟨O,O⟩
 simp [execOp,ho,hs.ev hx,Op.unary,Op.intArith,Ae hw]
end
end Go.Sky
namespace Go.Sky
theorem Yfs{p xs:List Nat}{k r:Nat}(hk:0<k)(hp:k≤p.length)(hx:k≤xs.length)(hv:Ye 1000000000 (p.drop k)*256+r=Ye 1000000000 (xs.drop k)) :
  Ye 1000000000 ((p.set (k-1) ((r*1000000000+xs.getD (k-1) 0)/256)).drop (k-1))*256+(r*1000000000+xs.getD (k-1) 0)%256=Ye 1000000000 (xs.drop (k-1)):=by
 rw [Zei hk hp,Za4 0 xs (k-1) O,show k-1+1=k by omega]
 simp only [Ye]
 have e:=Nat.div_add_mod (r*1000000000+xs.getD (k-1) 0) 256
 generalize (r*1000000000+xs.getD (k-1) 0)/256=q at *
 generalize (r*1000000000+xs.getD (k-1) 0)%256=s at *
 generalize Ye 1000000000 (p.drop k)=A at *
 generalize Ye 1000000000 (xs.drop k)=B at *
 rw [←hv,Nat.add_mul,Nat.mul_add,Nat.mul_assoc 1000000000 A 256]
 generalize 1000000000*(A*256)=Z
 clear hv
 omega
theorem Zze{r a:Nat}(hr:r<256)(ha:a<1000000000):(r*1000000000+a)/256<1000000000:=by
 have h:r*1000000000+a<256*1000000000:=by
  have h1:r*1000000000≤255*1000000000:=Nat.mul_le_mul_right _ O
  omega
 exact Nat.div_lt_of_lt_mul h
theorem Yft{bs:List Nat}{m n:Nat}(hv:Ye 256 bs+256^bs.length*m=n):Ye 256 (bs ++ [m%256])+256^(bs ++ [m%256]).length*(m/256)=n:=by
 rw [Ou,List.length_append]
 simp only [Ye,List.length_cons,List.length_nil,Nat.pow_succ,Nat.zero_add,Nat.mul_zero,Nat.add_zero,Nat.pow_zero,Nat.mul_one]
 have e:=Nat.div_add_mod m 256
 generalize m/256=q at *
 generalize m%256=s at *
 rw [←hv,←e]
 generalize 256^bs.length=P at *
 grind
theorem to_ge{bs:List Nat}{m n:Nat}(hv:Ye 256 bs+256^bs.length*m=n)(hm:0<m):256^bs.length≤n:=by
 have:=Nat.le_mul_of_pos_right (256^bs.length) hm
 omega
theorem to_len{bs:List Nat}{n:Nat}(h:256^bs.length≤n):bs.length≤bl n:=by
 have h1:=Bl (b:=256) (x:=n) (k:=bs.length) O ((Oh O _ _).2 h)
 have h2:=(Oh (by omega:2≤256) bs.length n).2 h
 have h3:=Zit n
 omega
theorem Ydi{bs:List Nat}{k:Nat}(hk:0<k)(h:k≤bs.length):(bs.drop k).reverse ++ [bs.getD (k-1) 0]=(bs.drop (k-1)).reverse:=by
 rw [Za4 0 bs (k-1) O,show k-1+1=k by omega];simp
theorem Yiu{bs:List Nat}{n:Nat}(h:bs=dg 256 n):(⟨((bs.drop 0).reverse.map UInt8.ofNat).toArray⟩:ByteArray)=Xz n:=by rw [h,List.drop_zero];rfl
def Zpe(a b:Int):Prop:=65536<bl a.natAbs∨65536<bl b.natAbs
instance (a b:Int):Decidable (Zpe a b):=by unfold Zpe;infer_instance
def qn(a b:Int):Int:=if Zpe a b then 0 else a
def qd(a b:Int):Int:=if Zpe a b then 0 else b
def qe(a b:Int):Int:=if Zpe a b then 7 else 0
theorem Yg8{x y:Int}(h:¬y<0):Mn x y=(Int.gcd x y:Int):=if_neg h
theorem Zny(x y:Int):bl ((Int.gcd x y:Int)).natAbs≤max (bl x.natAbs) (bl y.natAbs):=Znz _ _
open Go.RowKit (Below)
variable {P:Program} {N:Nat} {sc:Nat→Prop} {env env':Qw} {H H':Hp} {Q Q':Exit→Act→World→Prop} {M:Nat→Prop}
abbrev Zs1 (w:Bool×ByteArray):Value:= .agg #[.bool w.1,.string w.2]
abbrev Fl (z:Int×SL):Value:= .agg #[.bool (decide (z.1<0)),Xb z.2]
abbrev Li {α:Type} (z:SL×α):Value:=Xb z.1
abbrev qI (z:Int×SL):Pc:=Iu (Xb z.2) z.1.natAbs
abbrev pp (v:Value) (zs:List (Int×SL)):Pc:=Pz 2 Fl qI v zs
abbrev Yf (zs:List (Int×SL)):List Int:=zs.map Prod.fst
abbrev I0:Int×SL:=(0,none,0,0)
theorem Qt(zs:List (Int×SL)):(Yf zs).length=zs.length:=O7
theorem Hf(zs:List (Int×SL))(i:Nat):(zs.getD i I0).1=cf (Yf zs) i:=by
 simp only [cf,List.getD,Yf,List.getElem?_map]
 cases zs[i]?<;>rfl
theorem Zpf{β:Type}{k:Nat}{enc:β→Value}{q:β→Pc}{v:Value}{zs:List β}{al:Bool}{r:List Pc}{z:β}(i:Nat)(hi:lk H i=some (Pz k enc q v zs))(hi0:Nat.beq i 0=false)(hz:z∈zs)(h:PreOk H al r):PreOk H al (q z :: r):=
 ⟨⟨i,_,fun e=>by subst e;simp at hi0,hi,fun w h=>h.2 z hz,fun b hb=> .inr ⟨z,hz,hb⟩,fun _=>rfl⟩,h⟩
theorem Zyh{β:Type}{k:Nat}{enc:β→Value}{q:β→Pc}{v:Value}{zs:List β}{r:List Pc}{z:β}(i:Nat)(hi:lk H i=some (Pz k enc q v zs))(hi0:Nat.beq i 0=false)(hz:z∈zs)(hq:(q z).own=false)(h:Give H true r):Give H true (q z :: r):=
 ⟨⟨hq,.inl ⟨i,_,fun e=>by subst e;simp at hi0,hi,fun w h=>h.2 z hz,fun b hb=> .inr ⟨z,hz,hb⟩,fun h=>by cases h⟩⟩,h⟩
theorem Zxl{β:Type}{k:Nat}{enc:β→Value}{q:β→Pc}{v:Value}{zs:List β}(i j n:Nat)(hi:lk H i=some (Pz k enc q v zs))(hi0:Nat.beq i 0=false)(hn:n≤zs.length):∀a w,Sat N sc env H a w→Sat N sc env ((j,Pz k enc q (Le v n) (zs.take n)) :: H) a w:=
 Zcd i j hi hi0 rfl (fun w h=>⟨⟨Zbm n hn h.1.1,fun b hb=>h.1.2 b (Ziz hb)⟩,fun z hz=>h.2 z (List.mem_of_mem_take hz)⟩) (fun b hb=>by
  rcases hb with hb | ⟨z,hz,hb⟩
  ·exact .inl (Ziz hb)
  ·right;exact⟨z,List.mem_of_mem_take hz,hb⟩) rfl
theorem a_ex{ops:Array Oper}{ts:List Nat}{n:Nat}{listed:Array Bool}{α:Type}{p:α→Prop}(hp:∀a w,Sat N sc env H a w→∃x,p x)(h:∀x,p x→A P N sc M ops ts Q n listed env H):A P N sc M ops ts Q n listed env H:=fun a w hs=>by
 obtain⟨x,hx⟩:=hp a w hs
 exact h x hx a w hs
theorem Zcu(i:Nat):∀a w,Sat N sc env H a w→Sat N sc env ((i,pp (.slice none 0 0) []) :: H) a w:=fun a w hs=>
 hs.add i _ ⟨Zbu 2 Fl w,fun z hz=>by cases hz⟩ (fun j' jt _ _ Ka b hb hb'=>by
  rcases hb with hb | ⟨z,hz,_⟩
  ·exact absurd rfl hb.1
  ·cases hz) (fun b hb=>by
  rcases hb with hb | ⟨z,hz,_⟩
  ·exact absurd rfl hb.1
  ·cases hz)
theorem Zqg{β:Type}{k:Nat}{enc:β→Value}{q:β→Pc}{v:Value}{zs:List β}(i:Nat)(hi:lk H i=some (Pz k enc q v zs)):∀a w,Sat N sc env H a w→Le v zs.length=v:=fun a w hs=>by
 obtain⟨ad,c,h,_⟩:=(hs.hold i _ hi).1.1
 rw [h];rfl
theorem Ze4(zs:List (Int×SL))(k:Nat):Yf (zs.take k)=(Yf zs).take k:=by simp [Yf,List.map_take]
theorem Gj{v:Value}{zs:List (Int×SL)}{al:Bool}{r:List Pc}{z:Int×SL}(i:Nat)(hi:lk H i=some (pp v zs))(hi0:Nat.beq i 0=false)(hz:z∈zs)(h:PreOk H al r):PreOk H al (Iu (Xb z.2) z.1.natAbs :: r):=Zpf (q:=qI) (z:=z) i hi hi0 hz h
theorem Yhj{v:Value}{zs:List (Int×SL)}{r:List Pc}{z:Int×SL}{p:Pc}(i:Nat)(hi:lk H i=some (pp v zs))(hi0:Nat.beq i 0=false)(hz:z∈zs)(he:Iu (Xb z.2) z.1.natAbs=p)(h:Give H true r):Give H true (p :: r):=by
 subst he;exact Zyh (q:=qI) (z:=z) i hi hi0 hz rfl h
theorem t_appM {α:Type} {o:Oper} {x y:Operand} {t e:TypeId} {i i2 j k by_ d:Nat} {v u:Value} {enc:α→Value} {xs ys:List α} {p:Pc} {ti:TypeInfo} {z:Value} {w0:World} {M0:Nat→Prop}
  (ho:o.op= .call { callee:= .builtin .append,args:=#[x,y],argTypes:=#[t,t] }) (hd:o.dst=some d) (hN:Nat.blt d N=true)
  (hx:ev env x=some v) (hy:ev env y=some u) (hH:lk H i=some (Oa k e enc v xs)) (hi0:i≠0) (hj:lk H j=some p) (hr:Rd p k enc u ys) (hys:ys≠[])
  (ht:P.underlying t=some (.slice e)) (hi:P.info? e=some ti) (hz:ti.zero=some z) (he:Enc P e k enc) (hks:ti.size=k) (hby:ti.bytes=by_) (hzs:z.cells.size=k)
  (hb:(xs.length+ys.length)*by_≤140737488355328) (hby1:0<by_)
  (h0:lk H 0=some (Xm w0 M0)) (hw:∀b,w0.heap.size≤b→sc b) (hM:∀b,(Oa k e enc v xs).fp b→M b) :
  T P N sc M o env H (G:=Value) (fun _=>True) (fun v'=>(d,v') :: env) (fun v'=>(i,Oa k e enc v' (xs ++ ys)) :: H):=fun a w hs K Q hK=>by
 have hrow:w.ownsRow 0 e k v xs.length (cellsOf enc xs):=hs.hold i _ hH
 obtain⟨ad,c,rfl,h1,h2,h3⟩:=hr w (hs.hold j p hj)
 rcases h3 with rfl | ⟨g,off,rfl,h3⟩
 ·exact absurd rfl hys
 have hyc:∀q u,(cellsOf enc ys)[q]? = some u→w.cell? ((⟨g,off,none⟩:Addr).add q)=some u:=fun q u hq=>by
  have hlt:q<ys.length*k:=by rw [←Xe he.cells ys];exact(List.getElem?_eq_some_iff.1 hq).1
  have hpos:=he.pos
  have hd1:q/k<ys.length:=Nat.div_lt_of_lt_mul (by rw [Nat.mul_comm];exact hlt)
  have hget:ys[q/k]? = some ys[q/k]:=List.getElem?_eq_getElem hd1
  have hq2:q%k<(enc ys[q/k]).cells.toList.length:=by rw [Array.length_toList,he.cells];exact Nat.mod_lt _ hpos
  have hu:=List.getElem?_eq_getElem hq2
  have h4:=Ie he.cells ys _ _ hget _ _ hu
  have h5:=h3 _ _ hget _ _ hu
  have hqq:q/k*k+q%k=q:=by rw [Nat.mul_comm];exact Nat.div_add_mod q k
  rw [hqq]at h4
  rw [Nat.add_assoc,hqq]at h5
  rw [hq]at h4
  cases h4
  rw [Pq]
  exact h5
 have hone:∀u∈cellsOf enc ys,u.oneCell'=true:=fun u hu=>by
  obtain⟨y,_,hy⟩:=List.mem_flatMap.1 hu
  exact he.one y u hy
 have hle:xs.length+ys.length≤140737488355328:=Nat.le_trans (Nat.le_mul_of_pos_right _ hby1) hb
 obtain⟨v',w',hrun,ho',hg',hb'⟩:=Zce (P:=P) t o.type e ti z k by_ ht hi hz hks hby hzs he.pos v xs.length (cellsOf enc xs) hrow ⟨g,off,none⟩ ys.length c (cellsOf enc ys)
  (Xe he.cells ys) hyc hone (by simp only [maxLen];omega) hb
 have hr2:(execOp a.eval o).run P w= .ok (.value v') w':=by
  simp only [execOp,ho,resolve,invoke,builtin,Sem.run_bind,Sem.run_pure,Result.andThen_ok,List.map_toArray,List.map_cons,List.map_nil,hs.ev hx,hs.ev hy,hrun]
 unfold Oper.wp
 rw [hr2]
 show K (a.put o.dst _) _
 rw [hd]
 have hchg:Chg (fun b=>v.ownBlock=some b) w w':=⟨hg'.os,hg'.tape,hg'.output,hg'.size,fun b hb hn=>hg'.block b hb (fun e=>hn e.symm)⟩
 refine hK v' _ _ trivial ((hs.upd hH rfl hi0 (q:=Oa k e enc v' (xs ++ ys)) hchg ?_ (fun b hb=>hb' b hb) h0 hw).put d _ hN) ⟨hg'.os,hg'.tape,hg'.output,hg'.size,fun b hb hn=>hg'.block b hb (fun e=>hn (hM b e.symm))⟩
 show w'.ownsRow 0 e k v' (xs ++ ys).length (cellsOf enc (xs ++ ys))
 rw [Lz,List.length_append]
 exact ho'
theorem Zt5 {α:Type} {o:Oper} {x y:Operand} {t e:TypeId} {i j k by_ d:Nat} {v u:Value} {enc:α→Value} {xs ys:List α} {p:Pc} {ti:TypeInfo} {z:Value} {w0:World} {M0:Nat→Prop}
  (ho:o.op= .call { callee:= .builtin .append,args:=#[x,y],argTypes:=#[t,t] }) (hd:o.dst=some d) (hN:Nat.blt d N=true)
  (hx:ev env x=some v) (hy:ev env y=some u) (hH:lk H i=some (Oa k e enc v xs)) (hi0:i≠0) (hj:lk H j=some p) (hr:Rd p k enc u ys)
  (ht:P.underlying t=some (.slice e)) (hi:P.info? e=some ti) (hz:ti.zero=some z) (he:Enc P e k enc) (hks:ti.size=k) (hby:ti.bytes=by_) (hzs:z.cells.size=k)
  (hb:(xs.length+ys.length)*by_≤140737488355328) (hby1:0<by_)
  (h0:lk H 0=some (Xm w0 M0)) (hw:∀b,w0.heap.size≤b→sc b) (hM:∀b,(Oa k e enc v xs).fp b→M b) :
  T P N sc M o env H (G:=Value) (fun _=>True) (fun v'=>(d,v') :: env) (fun v'=>(i,Oa k e enc v' (xs ++ ys)) :: H):=by
 by_cases hys:ys=[]
 ·subst hys
  intro a w hs K Q hK
  have hrow:w.ownsRow 0 e k v xs.length (cellsOf enc xs):=hs.hold i _ hH
  obtain⟨ad,c,rfl,h1,h2,h3⟩:=hr w (hs.hold j p hj)
  have hown:∃a0 n c0,v= .slice a0 n c0∧n=xs.length∧n≤c0:=by
   rcases hrow.2 with⟨rfl,hn⟩ | ⟨g,cap,cur,rfl,_,_,hle,_⟩
   ·exact⟨none,0,0,rfl,hn.symm,Nat.le_refl _⟩
   ·exact⟨_,_,cap,rfl,rfl,hle⟩
  obtain⟨a0,n,c0,rfl,rfl,hle⟩:=hown
  have hrun:(Builtin.append_ #[t,t] o.type #[.slice a0 xs.length c0,.slice ad ([]:List α).length c]).run P w= .ok (.slice a0 xs.length c0) w:=by
   have hfc:(Builtin.firstCells ti.size 0 (.slice ad 0 c)).run P w= .ok #[] w:=by
    cases ad with
    | none=>rfl
    | some q=>simp [Builtin.firstCells,loadCells,loadCellsFrom]
   cases a0 with
   | none=>simp [Builtin.append_,run_underlying ht,sizeOf,typeInfo,hi,Builtin.lenOf,hfc,hle]
   | some q=>simp [Builtin.append_,run_underlying ht,sizeOf,typeInfo,hi,Builtin.lenOf,hfc,hle,storeCells]
  have hr2:(execOp a.eval o).run P w= .ok (.value (.slice a0 xs.length c0)) w:=by
   simp only [execOp,ho,resolve,invoke,builtin,Sem.run_bind,Sem.run_pure,Result.andThen_ok,List.map_toArray,List.map_cons,List.map_nil,hs.ev hx,hs.ev hy,hrun]
  unfold Oper.wp
  rw [hr2]
  show K (a.put o.dst _) _
  rw [hd]
  refine hK _ _ _ trivial ((Sat.upd hs hH rfl hi0 (q:=Oa k e enc (.slice a0 xs.length c0) (xs ++ [])) (Chg.refl _ w) ?_ (fun b hb=> .inl hb) h0 hw).put d _ hN) (Chg.refl _ w)
  rw [List.append_nil];exact hrow
 ·exact t_appM (i2:=0) ho hd hN hx hy hH hi0 hj hr hys ht hi hz he hks hby hzs hb hby1 h0 hw hM
theorem Zzi {o:Oper} {G:Type} {φ:G→Prop} {genv:G→Qw} {gH:G→Hp} {H0:Hp} {ks:List Nat} {p:Pc} (i:Nat) (hi:lk H i=some p) (ho:p.own=true) (hn:ks.all (fun k=>!Nat.beq k i)=true) (ha:Agr H0 H ks)
  (h:(∀b,p.fp b→Off H0 ks b)→T P N sc (Off H0 ks) o env H φ genv gH):T P N sc (Off H0 ks) o env H φ genv gH:=fun a w hs=>
 h (fun b hb k hk q hq hf=>by
  rw [←ha.mem k hk]at hq
  have hne:i≠k:=fun e=>by
   subst e
   have:=List.all_eq_true.1 hn i hk
   simp at this
  exact hs.sep i k p q hne hi hq ho b hb hf) a w hs
def eaf(v:Value)(i k q:Nat):Addr:=(ead v i k).add q
theorem Zep {α:Type} {o:Oper} {x:Operand} {t:TypeId} {f:Nat} {fs:Array Field} {fd:Field} {k k1 i ii q:Nat} {v:Value} {p:Pc} {enc:α→Value} {xs:List α} (ho:o.op= .fieldAddr t x f)
  (hx:ev env x=some (.pointer (some (ead v i k)))) (hH:lk H ii=some p) (hr:Rd p k enc v xs) (ht:P.underlying t=some (.struct fs)) (hf:fs[f]? = some fd) (hk:∀w,(sizeOf fd.type).run P w= .ok (k1+1) w) (hq:fd.offset=q) (hlt:i<xs.length:=by omega) :
  Nt P N sc o env H (.pointer (some (eaf v i k q))):=fun a w hs=>by
 obtain⟨ad,c,rfl,h1,h2,h3⟩:=hr w (hs.hold ii p hH)
 rcases h3 with rfl | ⟨g,off,rfl,h3⟩
 ·simp at hlt
 ·subst hq
  simp only [ead,Pq]at hx
  simp [execOp,ho,hs.ev hx,Instr.fieldAt,run_underlying ht,hf,Instr.sureAddr,fieldPlace,hk,Pq,eaf,ead]
theorem Zeo {α:Type} {o:Oper} {x:Operand} {t:TypeId} {k i ii q:Nat} {v u:Value} {p:Pc} {enc:α→Value} {xs:List α} (d0:α) (ho:o.op= .load t x)
  (hx:ev env x=some (.pointer (some (eaf v i k q)))) (hH:lk H ii=some p) (hr:Rd p k enc v xs) (ha:∀w,(isAgg t).run P w= .ok false w) (hu:(enc (xs.getD i d0)).cells.toList[q]? = some u) (hlt:i<xs.length:=by omega):Nt P N sc o env H u:=fun a w hs=>by
 obtain⟨ad,c,rfl,h1,h2,h3⟩:=hr w (hs.hold ii p hH)
 rcases h3 with rfl | ⟨g,off,rfl,h3⟩
 ·simp at hlt
 ·have hi:xs[i]? = some (xs.getD i d0):=by simp [List.getD,List.getElem?_eq_getElem hlt]
  have h:=h3 i _ hi q u hu
  simp only [eaf,ead,Pq]at hx
  simp [execOp,ho,hs.ev hx,Instr.loadAt,Instr.sureAddr,loadVar,ha,load,Sem.run,h]
end Go.Sky
namespace Go.Sky
abbrev rq (z:Int×Int):Value:= .agg #[.bool (decide (z.1<0)),.string (Xz z.1.natAbs),.bool (decide (z.2<0)),.string (Xz z.2.natAbs)]
abbrev encQ (z:(Bool×ByteArray)×(Bool×ByteArray)):Value:= .agg #[.bool z.1.1,.string z.1.2,.bool z.2.1,.string z.2.2]
theorem Zw{P:Program}{N:Nat}{sc:Nat→Prop}{o:Oper}{env:Qw}{H:Hp}{r r':Value}(h:Nt P N sc o env H r)(e:r=r'):Nt P N sc o env H r':=e▸h
open Go.RowKit (Below)
variable {P:Program} {N:Nat} {sc:Nat→Prop} {env env':Qw} {H H':Hp} {Q Q':Exit→Act→World→Prop} {M:Nat→Prop}
theorem d_mkc{o:Oper}{f:FuncId}{xs ys:List Operand}{vs us:List Value}(ho:o.op= .makeFunc (.func f) xs.toArray ys.toArray)(hv:EvL env xs vs)(hu:EvL env ys us):Nt P N sc o env H (.func (.func f) vs.toArray us.toArray):=fun a w hs=>by
 have hm:=hv.map hs
 have hn:=hu.map hs
 simp [execOp,ho,Instr.makeFunc,hm,hn]
theorem Zj3 {a:Act} {w:World} (hs:Sat N sc env H a w) {o:Oper} {f:FuncId} {c:Operand} {xs:List Operand} {ats:Array TypeId} {fs vs us:List Value} (ho:o.op= .call { callee:= .value c,args:=xs.toArray,argTypes:=ats })
  (hc:ev env c=some (.func (.func f) fs.toArray us.toArray)) (hargs:EvL env xs vs):(execOp a.eval o).run P w=(callFunc f (fs ++ vs ++ us).toArray).run P w:=by
 have hm:=hargs.map hs
 simp [execOp,ho,resolve,invoke,hs.ev hc,Deferred.ofValue,hm]
theorem Zfe{b:Nat}{t:TypeId}{cs:Array Value}{r:List Pc}(i:Nat)(hi:lk H i=some (box b t cs))(hi0:Nat.beq i 0=false)(h:PreOk H false r):PreOk H false (Hg b t cs :: r):=
 ⟨⟨i,_,fun e=>by subst e;simp at hi0,hi,fun w h=>h,fun b hb=>hb,fun h=>by cases h⟩,h⟩
theorem Sat.rboxc{a:Act}{w:World}(hs:Sat N sc env H a w){i b:Nat}{t:TypeId}{cs:Array Value}(hH:lk H i=some (Hg b t cs))(j:Nat):w.cell? ⟨b,j,none⟩=cs[j]?:=by
 have h:w.heap[b]? = some (.cells cs t (0,0)):=hs.hold i _ hH
 simp [World.cell?,h]
theorem d_lra {o:Oper} {x:Operand} {t tb:TypeId} {i b j k:Nat} {cs:Array Value} {vs:List Value} (ho:o.op= .load t x)
  (hx:ev env x=some (.pointer (some ⟨b,j,none⟩))) (hH:lk H i=some (Hg b tb cs)) (ht:∀w,(isAgg t).run P w= .ok true w) (hk:∀w,(sizeOf t).run P w= .ok k w)
  (hl:vs.length=k) (hv:∀n u,vs[n]? = some u→cs[j+n]? = some u):Nt P N sc o env H (.agg vs.toArray):=fun a w hs=>by
 have hr:=run_loadCells_list (P:=P) w ⟨b,j,none⟩ vs (fun n u hu=>by rw [Pq,hs.rboxc hH];exact hv n u hu)
 rw [hl]at hr
 simp [execOp,ho,hs.ev hx,Instr.loadAt,Instr.sureAddr,loadVar,ht,hk,hr]
theorem d_negi{o:Oper}{t:TypeId}{x:Operand}{m:Int}(ho:o.op= .unOp .neg t x)(hx:ev env x=some (.int .i64 m))(h:Xx (-m)):Nt P N sc o env H (.int .i64 (-m)):=fun a w hs=>by
 simp [execOp,ho,hs.ev hx,Op.unary,Op.intArith,Ae h]
theorem fill24(u0 u1 u2 u3 a0 a1 a2 a3 b0 b1 b2 b3:Value):Instr.fill (fun i=>some (i*4,4)) ((List.range (2*4)).map ((Value.agg #[u0,u1,u2,u3]).cells[· % (Value.agg #[u0,u1,u2,u3]).cells.size]!)).toArray [(0,.agg #[a0,a1,a2,a3]),(1,.agg #[b0,b1,b2,b3])]=some #[a0,a1,a2,a3,b0,b1,b2,b3]:=by
 simp [Instr.fill,Value.cells,List.range,List.range.loop]
 try rfl
end Go.Sky
namespace Go.Sky
open Go.RowKit (Below)
variable {P:Program} {N:Nat} {sc:Nat→Prop} {env env':Qw} {H H':Hp} {Q Q':Exit→Act→World→Prop} {M:Nat→Prop}
abbrev iq (z:(Int×Int)×(Int×Int)):Value:= .agg #[.bool (decide (z.1.1<0)),.string (Xz z.1.1.natAbs),.bool (decide (z.1.2<0)),.string (Xz z.1.2.natAbs),.bool (decide (z.2.1<0)),.string (Xz z.2.1.natAbs),.bool (decide (z.2.2<0)),.string (Xz z.2.2.natAbs)]
def Yi8(P:Program)(f:FuncId)(args:Array Value)(pre:List Pc)(p:Pc){G:Type}(φ:G→Prop)(Ye:G→Value)(q:G→Pc):Prop:=
 ∀w,(∀r∈pre,r.holds w∧∀k,p.fp k→¬r.fp k)→p.holds w→Calls P f args w fun e w'=>∃g,e= .returned (Ye g)∧φ g∧Chg p.fp w w'∧(q g).holds w'∧∀k,(q g).fp k→p.fp k∨w.heap.size≤k
theorem Zt4 {o:Oper} {f:FuncId} {c:Operand} {xs:List Operand} {ats:Array TypeId} {d i:Nat} {p:Pc} {fs vs us:List Value} {pre:List Pc} {G:Type} {φ:G→Prop} {Ye:G→Value} {q:G→Pc} {w0:World} {M0:Nat→Prop}
  (hc:Yi8 P f (fs ++ vs ++ us).toArray pre p φ Ye q)
  (ho:o.op= .call { callee:= .value c,args:=xs.toArray,argTypes:=ats }) (hcv:ev env c=some (.func (.func f) fs.toArray us.toArray)) (hd:o.dst=some d) (hN:Nat.blt d N=true)
  (hargs:EvL env xs vs) (hcall:∀args w,(callFunc f args).run P w= .ok (.enter f args) w) (hH:lk H i=some p) (hown:p.own=true) (hi0:i≠0) (hpre:PreOk (drp i H) false pre)
  (h0:lk H 0=some (Xm w0 M0)) (hw:∀b,w0.heap.size≤b→sc b) (hM:∀b,p.fp b→M b) :
  T P N sc M o env H φ (fun g=>(d,Ye g) :: env) (fun g=>(i,q g) :: H):=fun a w hs K Q hK=>by
 have hr:(execOp a.eval o).run P w= .ok (.enter f (fs ++ vs ++ us).toArray) w:=by rw [Zj3 hs ho hcv hargs,hcall]
 unfold Oper.wp
 rw [hr]
 refine(hc w (fun r hp=>by
  obtain⟨j,it,_,hj,himp,hfp,_⟩:=hpre.mem r hp
  obtain⟨hne,hj⟩:=Fi _ _ _ _ hj
  exact⟨himp w (hs.hold j it hj),fun k hk hb=>hs.sep i j _ it (Ne.symm hne) hH hj hown k hk (hfp k hb)⟩) (hs.hold i _ hH)).mono ?_
 rintro e w' ⟨g,rfl,hg,hchg,hq,hfp⟩
 show K (a.put o.dst (Ye g)) w'
 rw [hd]
 exact hK g _ _ hg (Sat.put (hs.upd hH hown hi0 hchg hq hfp h0 hw) d _ hN) ⟨hchg.os,hchg.tape,hchg.output,hchg.size,fun k hk hn=>hchg.block k hk (fun e=>hn (hM k e))⟩
def Ye9(P:Program)(fn:Func)(w0:World)(p:Pc){G:Type}(φ:G→Prop)(Ye:G→Value)(q:G→Pc):Exit→Act→World→Prop:=
 bodyPost P fn fun e w'=>∃g,e= .returned (Ye g)∧φ g∧Chg p.fp w0 w'∧(q g).holds w'∧∀k,(q g).fp k→p.fp k∨w0.heap.size≤k
theorem Zwl {f:FuncId} {fn:Func} {c:Code} {vs:List Value} {pre:List Pc} {p:Pc} {G:Type} {φ:G→Prop} {Ye:G→Value} {q:G→Pc} {N:Nat}
  (hf:P.funcs[f]? = some fn) (hb:fn.body=some c) (hN:fn.ntmps=N) (hle:Nat.ble vs.length N=true) (hro:AllRo pre)
  (h:∀w0 (sc:Nat→Prop),(∀k,w0.heap.size≤k→sc k)→(∀k,sc k→w0.heap.size≤k∨p.fp k∨∃q∈pre,q.fp k)→
   E P N sc c (Ye9 P fn w0 p φ Ye q) (Pa 0 vs) ((0,Xm w0 p.fp) :: (1,p) :: Xu 2 pre)) :
  Yi8 P f vs.toArray pre p φ Ye q:=fun w hp hbx=>by
 refine calls_of_wp hf hb (h w (fun k=>w.heap.size≤k∨p.fp k∨∃q∈pre,q.fp k) (fun k hk=> .inl hk) (fun k hk=>hk) _ w ?_)
 have hle:vs.length≤N:=by simpa using hle
 have hpre:∀i r,lk ((0,Xm w p.fp) :: (1,p) :: Xu 2 pre) i=some r→(i=0∧r=Xm w p.fp)∨(i=1∧r=p)∨(i≠0∧i≠1∧r∈pre∧r.own=false):=fun i r hi=>by
   by_cases h0:0=i
   ·subst h0;rw [Yb]at hi;cases hi;exact .inl ⟨rfl,rfl⟩
   ·rw [Zl _ _ h0]at hi
    by_cases h1:1=i
    ·subst h1;rw [Yb]at hi;cases hi;exact .inr (.inl ⟨rfl,rfl⟩)
    ·rw [Zl _ _ h1]at hi
     obtain⟨_,hm⟩:=Oy pre 2 i r hi
     exact .inr (.inr ⟨fun e=>h0 e.symm,fun e=>h1 e.symm,hm,hro.mem r hm⟩)
 refine⟨by simp [hN];omega,rfl,fun t v ht=>?_,fun i r hi=>?_,fun i j r r' hne hi hj ho k hk hk'=>?_,fun i r hi0 hi k hk=>?_⟩
 ·have h1:vs.toArray[t]? = some v:=by simpa using(Hk vs 0 t v ht).2
  have hlt:=(Array.getElem?_eq_some_iff.1 h1).1
  rw [Array.getD_eq_getD_getElem?,Array.getElem?_append_left hlt,h1];rfl
 ·rcases hpre i r hi with⟨_,rfl⟩ | ⟨_,rfl⟩ | ⟨_,_,hm,_⟩
  ·exact Chg.refl _ w
  ·exact hbx
  ·exact(hp r hm).1
 ·rcases hpre i r hi with⟨_,rfl⟩ | ⟨h1,rfl⟩ | ⟨_,_,hm,hown⟩
  ·cases ho
  ·rcases hpre j r' hj with⟨_,rfl⟩ | ⟨h2,rfl⟩ | ⟨_,_,hm,_⟩
   ·exact hk'.2 hk
   ·exact hne (h1.trans h2.symm)
   ·exact(hp r' hm).2 k hk hk'
  ·rw [hown]at ho;cases ho
 ·rcases hpre i r hi with⟨h0,_⟩ | ⟨_,rfl⟩ | ⟨_,_,hm,_⟩
  ·exact absurd h0 hi0
  ·exact .inr (.inl hk)
  ·exact .inr (.inr ⟨r,hm,hk⟩)
theorem Zy3 {fn:Func} {p:Pc} {pre:List Pc} {G:Type} {φ:G→Prop} {Ye:G→Value} {q:G→Pc} {w0:World} {e:Exit} (he:e= .ret∨e= .normal) (hsc:∀k,sc k→w0.heap.size≤k∨p.fp k∨∃q∈pre,q.fp k)
  (g:G) (v:Value) (hres:∀a w,Sat N sc env H a w→(results fn a.tmps).run P w= .ok v w) (hv:Ye g=v) (hg:φ g) (i:Nat) (hi:lk H i=some (q g)) (h0:lk H 0=some (Xm w0 p.fp)) (hi0:Nat.beq i 0=false) (hown:(q g).own=true) (hpre:PreOk (drp i H) false pre) :
  X N sc e (Ye9 P fn w0 p φ Ye q) env H:=fun a w hs=>by
 have hi0:i≠0:=fun e=>by subst e;simp at hi0
 have key:a.defers=[]∧∃v,(results fn a.tmps).run P w= .ok v w∧(∃g,Ending.returned v= .returned (Ye g)∧φ g∧Chg p.fp w0 w∧(q g).holds w∧∀k,(q g).fp k→p.fp k∨w0.heap.size≤k):=by
  refine⟨hs.defers,v,hres a w hs,g,by rw [hv],hg,hs.hold 0 _ h0,hs.hold i _ hi,fun k hk=>?_⟩
  rcases hsc k (hs.scope i _ hi0 hi k hk)with h | h | ⟨r,hr,hrk⟩
  ·exact .inr h
  ·exact .inl h
  ·obtain⟨j,it,_,hj,_,hfp,_⟩:=hpre.mem r hr
   obtain⟨hne,hj⟩:=Fi _ _ _ _ hj
   exact(hs.sep i j _ it (Ne.symm hne) hi hj hown k hk (hfp k hrk)).elim
 rcases he with rfl | rfl<;>exact key
def gb{α:Type}(b:Nat)(t:TypeId)(k:Nat)(e:TypeId)(enc:α→Value)(v:Value)(xs:List α):Pc:=
 {own:=true,fp:=fun c=>c=b∨v.ownBlock=some c,holds:=fun w=>(box b t #[v]).holds w∧(Oa k e enc v xs).holds w∧v.ownBlock≠some b
  lt:=fun w c h hc=>by
   rcases hc with rfl | hc
   ·exact(box c t #[v]).lt w c h.1 rfl
   ·exact(Oa k e enc v xs).lt w c h.2.1 hc
  stable:=fun w w' h hc=>⟨(box b t #[v]).stable w w' h.1 ⟨hc.os,hc.tape,hc.output,hc.size,fun k hk hn=>hc.block k hk (fun hf=>hn (fun hq=>hf (.inl hq)))⟩,
   (Oa k e enc v xs).stable w w' h.2.1 ⟨hc.os,hc.tape,hc.output,hc.size,fun k hk hn=>hc.block k hk (fun hf=>hn (fun hq=>hf (.inr hq)))⟩,h.2.2⟩ }
end Go.Sky

