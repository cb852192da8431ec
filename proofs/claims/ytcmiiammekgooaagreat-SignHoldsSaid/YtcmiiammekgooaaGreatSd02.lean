/- rules, arithmetic and contracts: part 3
   Proved without conditions of its own: each theorem bears its own. -/
import Derived.Test.YtcmiiammekgooaaGreatSd01
import Derived.Laws.StructEq
import Derived.Test.YtcmiiammekgooaaGreatSd00
set_option linter.all false
namespace Go.Sky
set_option maxRecDepth 20000
theorem Zda{n:Nat}(h:n<U):tz [n]=dg U n:=by
 rw [←Ky Qt [n] (by simpa using h)]
 simp [val]
theorem Zgs{N:Nat}{sc:Nat→Prop}{env:Env}{H:Hp}{α:Type}{k:Nat}{e:TypeId}{enc:α→Value}{v:Value}{xs ys:List α}(i:Nat)(h:xs=ys)(hi:lk H i=some (osl k e enc v xs))(hi0:Nat.beq i 0=false) :
  ∀a w,Sat N sc env H a w→Sat N sc env ((i,osl k e enc v ys) :: H) a w:=by
 subst h
 exact Zl6 i hi rfl (fun w h=>h) (fun b hb=>hb) hi0
theorem Zgd(R:List Nat)(j:Nat)(hj:j≤R.length):val U R=val U (R.take j)+U^j*val U (R.drop j):=by
 have:=Nh U (R.take j) (R.drop j)
 rw [List.take_append_drop,List.length_take,Nat.min_eq_left hj]at this
 exact this
theorem Zh4{R:List Nat}(hR:∀d∈R,d<U)(j:Nat)(hj:j≤R.length):val U (R.take j)=val U R%U^j∧val U (R.drop j)=val U R/U^j:=by
 have h1:=Zgd R j hj
 have h2:=Zfd Pb (R.take j) (fun d hd=>hR d (List.mem_of_mem_take hd))
 rw [List.length_take,Nat.min_eq_left hj]at h2
 have hp:0<U^j:=Nat.pow_pos Pb
 constructor
 ·rw [h1,Nat.add_comm,Nat.mul_add_mod,Nat.mod_eq_of_lt h2]
 ·rw [h1,Nat.add_comm,Nat.mul_add_div hp,Nat.div_eq_of_lt h2,Nat.add_zero]
theorem Zbt{R:List Nat}(hR:∀d∈R,d<U){n:Nat}(hn:n≤R.length)(h:val U R<U^n):val U (R.drop n)=0∧val U (R.take n)=val U R:=by
 obtain⟨h1,h2⟩:=Zh4 hR n hn
 rw [h2,h1,Nat.mod_eq_of_lt h]
 exact⟨Nat.div_eq_of_lt h,rfl⟩
theorem win_val{R:List Nat}(hR:∀d∈R,d<U){j n:Nat}(hn:j+n≤R.length)(h:val U R<U^(j+n)):tz ((R.drop j).take n)=dg U (val U R/U^j):=by
 have hd:∀d∈R.drop j,d<U:=fun d hd=>hR d (List.mem_of_mem_drop hd)
 rw [←(Zh4 hR j (by omega)).2,←Ky Qt _ (fun d hd'=>hd d (List.mem_of_mem_take hd'))]
 congr 1
 refine(Zbt hd (by rw [List.length_drop];omega) ?_).2
 rw [(Zh4 hR j (by omega)).2,Nat.div_lt_iff_lt_mul (Nat.pow_pos Pb),←Nat.pow_add,Nat.add_comm]
 exact h
theorem Zlm{R ys:List Nat}(hR:∀d∈R,d<U)(hy:∀d∈ys,d<U)(lo:Nat):∀d∈spl R lo ys,d<U:=fun d hd=>by
 simp only [spl,List.mem_append]at hd
 rcases hd with(hd | hd) | hd
 ·exact hR d (List.mem_of_mem_take hd)
 ·exact hy d hd
 ·exact hR d (List.mem_of_mem_drop hd)
theorem Zlu(L:Nat)(ys:List Nat):val U (spl (List.replicate L 0) 0 ys)=val U ys:=by
 simp [spl,Nh,List.drop_replicate,Kv]
theorem val_win{R ys:List Nat}(hR:∀d∈R,d<U){j n:Nat}(hn:j+n≤R.length)(h:val U R<U^(j+n))(hy:ys.length≤n) :
  val U (spl (spl R j (List.replicate n 0)) j ys)=val U R%U^j+U^j*val U ys:=by
 have e1:(spl R j (List.replicate n 0)).take j=R.take j:=by
  simp only [spl,List.append_assoc]
  rw [List.take_append_of_le_length (by rw [List.length_take];omega),List.take_take,Nat.min_self]
 have e2:(spl R j (List.replicate n 0)).drop (j+ys.length)=List.replicate (n-ys.length) 0 ++ R.drop (j+n):=by
  simp only [spl,List.append_assoc,List.length_replicate]
  rw [←List.drop_drop,List.drop_left' (by rw [List.length_take];omega),List.drop_append_of_le_length (by rw [List.length_replicate];exact hy),List.drop_replicate]
 rw [spl,e1,e2,Nh,Nh,Nh,Kv,(Zbt hR hn h).1,(Zh4 hR j (by omega)).1,List.length_take,Nat.min_eq_left (by omega)]
 simp
theorem norm_dg{y b k:Nat}(hy:0<y)(hk:k=(dg U y).length)(hb:b=64-bl ((dg U y).getD (k-1) 0)):(dg U (y*2^b)).length=k∧2^b*U^k≤y*2^b*U*2^b∧1≤k∧y*2^b<U^k∧b≤63∧U^(k-1)*9223372036854775808≤y*2^b:=by
 obtain⟨z1,z2,z3,z4⟩:=Zpx hy
 rw [←hk]at z1 z2 z3 z4
 obtain⟨h1,h2⟩:=Znv hy
 have h3:=Fj y
 have e:bl y+b=64*k:=by omega
 have h4:y*2^b<U^k:=by
  rw [Zca,←e,Nat.pow_add];exact Nat.mul_lt_mul_of_pos_right h3 (Nat.two_pow_pos b)
 have h5:U^(k-1)*9223372036854775808≤y*2^b:=by
  have:U^(k-1)*9223372036854775808=2^(bl y-1)*2^b:=by
   rw [Zca,←Nat.pow_add,show 9223372036854775808=2^63 from rfl,←Nat.pow_add]
   congr 1;omega
  rw [this];exact Nat.mul_le_mul_right _ h1
 have h6:U^k=U^(k-1)*U:=by rw [←Nat.pow_succ];congr 1;omega
 refine⟨?_,?_,z3,h4,by omega,h5⟩
 ·refine Nat.le_antisymm ((Xy Qt _ _).2 h4) ?_
  have:k-1<(dg U (y*2^b)).length:=(Oq Qt _ _).2 (Nat.le_trans (Nat.le_mul_of_pos_right _ (by omega)) h5)
  omega
 ·rw [h6,Nat.mul_comm (2^b)]
  refine Nat.mul_le_mul_right _ ?_
  refine Nat.mul_le_mul_right _ (Nat.le_trans (Nat.le_mul_of_pos_right _ (by omega)) h5)
theorem Zv1{W D k w1 w0 t:Nat}(hD:t*U^k≤D)(ht:0<t)(hW:W/U^k=w1*U+w0):W/D≤(w1*U+w0)/t:=by
 have hp:0<U^k:=Nat.pow_pos Pb
 rw [←hW,Nat.div_div_eq_div_mul,Nat.mul_comm]
 exact Nat.div_le_div_left hD (Nat.mul_pos ht hp)
theorem top_two{R:List Nat}(hR:∀d∈R,d<U){j k:Nat}(hk:1≤k)(h:val U R<U^(j+k+1))(hn:j+k+1≤R.length):val U R/U^j/U^(k-1)=R.getD (j+k) 0*U+R.getD (j+k-1) 0:=by
 have h1:∀i,R.getD i 0=val U R/U^i%U:=fun i=>by
  rcases Nat.lt_or_ge i R.length with hi | hi
  ·have h2:=(Zh4 hR i (by omega)).2
   rw [Zcw 0 R i hi]at h2
   simp only [val]at h2
   rw [←h2,Nat.add_mul_mod_self_left,Nat.mod_eq_of_lt (Qj Pb hR i)]
  ·rw [show R.getD i 0=0 by simp [List.getD,List.getElem?_eq_none hi],Nat.div_eq_of_lt (Nat.lt_of_lt_of_le (Zfd Pb R hR) (Nat.pow_le_pow_right Pb hi))];rfl
 rw [h1,h1,Nat.div_div_eq_div_mul,←Nat.pow_add,show j+(k-1)=j+k-1 by omega]
 have h3:val U R/U^(j+k)<U:=by
  rw [Nat.div_lt_iff_lt_mul (Nat.pow_pos Pb),←Nat.pow_succ',Nat.add_comm (j+k)]at *
  rw [Nat.add_comm 1]at *
  exact h
 have h4:val U R/U^(j+k)=val U R/U^(j+k-1)/U:=by
  rw [Nat.div_div_eq_div_mul,←Nat.pow_succ];congr 2;omega
 rw [Nat.mod_eq_of_lt h3,h4,Nat.mul_comm,Nat.div_add_mod]
theorem Zwc{x b k lx D:Nat}(hx:x<U^lx)(hb:b≤63)(hk:1≤k)(hkl:k≤lx+1)(hD:U^(k-1)*9223372036854775808≤D):x*2^b<D*U^(lx+1-k):=by
 have h1:x*2^b<U^lx*2^b:=Nat.mul_lt_mul_of_pos_right hx (Nat.two_pow_pos b)
 have h2:U^lx*2^b≤U^lx*9223372036854775808:=Nat.mul_le_mul_left _ (by
  rw [show 9223372036854775808=2^63 from rfl];exact Nat.pow_le_pow_right (by omega) hb)
 have h3:U^lx*9223372036854775808=U^(k-1)*9223372036854775808*U^(lx+1-k):=by
  rw [Nat.mul_right_comm,←Nat.pow_add];congr 2;omega
 have h4:U^(k-1)*9223372036854775808*U^(lx+1-k)≤D*U^(lx+1-k):=Nat.mul_le_mul_right _ hD
 omega
theorem Zwb{V D j Q Vq N:Nat}(hD:0<D)(hQ:Q=V/U^j/D)(hN:Vq*U^(j+1)*D+V=N) :
  V%U^j+U^j*(V/U^j-D*Q)<D*U^j∧(Q+U*Vq)*U^j*D+(V%U^j+U^j*(V/U^j-D*Q))=N:=by
 have hp:0<U^j:=Nat.pow_pos Pb
 have h1:=Nat.mod_lt V hp
 have h2:=Nat.div_add_mod V (U^j)
 have h3:=Nat.div_add_mod (V/U^j) D
 have h4:=Nat.mod_lt (V/U^j) hD
 have h5:V/U^j-D*Q=V/U^j%D:=by rw [hQ];omega
 rw [h5]
 constructor
 ·have h6:U^j*(V/U^j%D+1)≤U^j*D:=Nat.mul_le_mul_left _ h4
  rw [Nat.mul_add]at h6
  rw [Nat.mul_comm D];omega
 ·rw [←hN]
  have e1:(Q+U*Vq)*U^j*D=U^j*(D*Q)+Vq*U^(j+1)*D:=by
   rw [Nat.add_mul,Nat.add_mul,Nat.pow_succ]
   congr 1
   ·rw [Nat.mul_comm Q,Nat.mul_assoc,Nat.mul_comm Q]
   ·rw [Nat.mul_comm U Vq,Nat.mul_assoc Vq,Nat.mul_comm U]
  have e2:U^j*(D*Q)+U^j*(V/U^j%D)=U^j*(V/U^j):=by rw [←Nat.mul_add,hQ,h3]
  omega
def sg(s:Bool)(x:Int):Prop:=(s=true→x≤0)∧(s=false→0≤x)
theorem sg_neg{s:Bool}{x:Int}(h:sg s x):sg (!s) (-x):=by
 cases s<;>simp [sg]at*<;>omega
theorem sg_mul{s t:Bool}{x y:Int}(hs:sg s x)(ht:sg t y):sg (s != t) (x*y):=by
 cases s<;>cases t<;>simp [sg]at *
 ·exact Int.mul_nonneg hs ht
 ·exact Int.mul_nonpos_of_nonneg_of_nonpos hs ht
 ·exact Int.mul_nonpos_of_nonpos_of_nonneg hs ht
 ·exact Int.mul_nonneg_of_nonpos_of_nonpos hs ht
theorem Zpy{x:Int}(h:(((dg U x.natAbs).length:Nat):Int)=0):Value.int .i64 x.sign= .int .i64 0:=by
 have h1:=(Po Qt x.natAbs).1 (by omega)
 have:x=0:=by omega
 subst this;rfl
theorem Zun{s:Bool}{x:Int}(hs:sg s x)(h1:s=true)(h:¬(((dg U x.natAbs).length:Nat):Int)=0):Value.int .i64 x.sign= .int .i64 (-1):=by
 have h2:¬x.natAbs=0:=fun e=>h (by rw [(Po Qt x.natAbs).2 e];rfl)
 have h3:=hs.1 h1
 rw [Int.sign_eq_neg_one_of_neg (by omega)]
theorem Zum{s:Bool}{x:Int}(hs:sg s x)(h1:s=false)(h:¬(((dg U x.natAbs).length:Nat):Int)=0):Value.int .i64 x.sign= .int .i64 1:=by
 have h2:¬x.natAbs=0:=fun e=>h (by rw [(Po Qt x.natAbs).2 e];rfl)
 have h3:=hs.2 h1
 rw [Int.sign_eq_one_of_pos (by omega)]
theorem Zp4{s:Bool}{x y:Int}(hs:sg s x)(ht:sg s y):sg s (x+y):=by
 cases s<;>simp [sg]at*<;>omega
theorem Zc2{s:Bool}{x y:Int}(hs:sg s x)(ht:sg s y):(x+y).natAbs=x.natAbs+y.natAbs:=by
 cases s<;>simp [sg]at*<;>omega
theorem Zgq{s t:Bool}{x y:Int}(hs:sg s x)(ht:sg t y)(h:s≠t)(hge:y.natAbs≤x.natAbs):sg s (x+y):=by
 cases s<;>cases t<;>simp [sg]at*<;>omega
theorem Bh{s t:Bool}{x y:Int}(hs:sg s x)(ht:sg t y)(h:s≠t)(hge:y.natAbs≤x.natAbs):(x+y).natAbs=x.natAbs-y.natAbs:=by
 cases s<;>cases t<;>simp [sg]at*<;>omega
abbrev wv (x:Int):Value:= .agg #[.bool (decide (x<0)),.string (Qc x.natAbs)]
def Zf2(x:Int):Int:=if 65536<bl x.natAbs then 0 else x
def Zow(x:Int):Int:=if 65536<bl x.natAbs then 7 else 0
theorem clip_bl(x:Int):bl (Zf2 x).natAbs≤65536:=by
 unfold Zf2
 split
 ·decide
 ·omega
theorem Ok{x:Int}(h:bl x.natAbs≤65536):Zf2 x=x:=by unfold Zf2;rw [if_neg (by omega)]
theorem Da{x:Int}(h:bl x.natAbs≤65536):Zow x=0:=by unfold Zow;rw [if_neg (by omega)]
theorem clip_no{x:Int}(h:65536<bl x.natAbs):Zf2 x=0:=by unfold Zf2;rw [if_pos h]
theorem full_no{x:Int}(h:65536<bl x.natAbs):Zow x=7:=by unfold Zow;rw [if_pos h]
abbrev Zcb (x:Int):Value:= .tuple #[wv (Zf2 x),.int .i64 (Zow x)]
theorem Zpc{x:Int}(h:((65536:Int)<((bl x.natAbs:Nat):Int))):Zcb x= .tuple #[.agg #[.bool false,.string ⟨#[]⟩],.int .i64 7]:=by
 unfold Zcb;rw [clip_no (by omega),full_no (by omega)];rfl
theorem Zpb{x:Int}(h:¬((65536:Int)<((bl x.natAbs:Nat):Int))):Zcb x= .tuple #[wv x,.int .i64 0]:=by
 unfold Zcb;rw [Ok (by omega),Da (by omega)]
theorem Zls{x:Int}(hs:sg false x)(h:¬((65536:Int)<((bl x.natAbs:Nat):Int))):Zcb x= .tuple #[.agg #[.bool false,.string (Qc x.natAbs)],.int .i64 0]:=by
 rw [Zpb h,wv,decide_eq_false (by have:=hs.2 rfl;omega)]
theorem Zlr{x:Int}(hs:sg true x)(h:¬((65536:Int)<((bl x.natAbs:Nat):Int))):Zcb x= .tuple #[.agg #[.bool (decide ((0:Int)<(((dg U x.natAbs).length:Nat):Int))),.string (Qc x.natAbs)],.int .i64 0]:=by
 have h1:=hs.1 rfl
 have h2:=Po Qt x.natAbs
 rw [Zpb h,wv,show decide (x<0)=decide ((0:Int)<(((dg U x.natAbs).length:Nat):Int))from decide_eq_decide.2 ⟨fun h=>by omega,fun h=>by omega⟩]
theorem Zsi{x y q r:Int}(hy:y≠0)(h:x=y*q+r)(h0:0≤r)(h1:r<(y.natAbs:Int)):x/y=q∧x%y=r:=by
 have e:=Int.mul_ediv_add_emod x y
 have e0:=Int.emod_nonneg x hy
 have e1:=Int.emod_lt x hy
 have hq:x/y=q:=by
  have hk:y*(x/y-q)=r-x%y:=by rw [Int.mul_sub];omega
  have habs:(y*(x/y-q)).natAbs<y.natAbs:=by rw [hk];omega
  rw [Int.natAbs_mul]at habs
  rcases Nat.eq_zero_or_pos (x/y-q).natAbs with h | h
  ·omega
  ·exact absurd (Nat.le_mul_of_pos_right y.natAbs h) (by omega)
 refine⟨hq,?_⟩
 rw [hq]at e;omega
theorem Zp5{s:Bool}{x:Int}(h:sg s x):x=if s then -(x.natAbs:Int)else(x.natAbs:Int):=by
 cases s<;>simp [sg]at*<;>omega
theorem Zss{s t:Bool}{x y:Int}(hs:sg s x)(ht:sg t y)(hy:y≠0)(Q R:Nat)(hR:R<y.natAbs)(h:x=(if s then -1 else 1)*((y.natAbs:Int)*Q)+R) :
  sg (s != t) (x/y)∧(x/y).natAbs=Q∧(x%y).natAbs=R:=by
 have hy2:=Zp5 ht
 have key:x/y=(if s != t then -(Q:Int)else Q)∧x%y=R:=by
  refine Zsi hy ?_ (by omega) (by omega)
  conv=>lhs;rw [h]
  conv=>rhs;rw [hy2]
  cases s<;>cases t<;>simp [Int.neg_mul,Int.mul_neg]
 rw [key.1,key.2]
 cases s<;>cases t<;>simp [sg]
theorem divB{s t:Bool}{x y:Int}(hs:sg s x)(ht:sg t y)(hy:y≠0)(hc:s=false∨x.natAbs%y.natAbs=0):sg (s != t) (x/y)∧(x/y).natAbs=x.natAbs/y.natAbs∧(x%y).natAbs=x.natAbs%y.natAbs:=by
 have hx:=Zp5 hs
 have e:=Nat.div_add_mod x.natAbs y.natAbs
 refine Zss hs ht hy _ _ (Nat.mod_lt _ (by omega)) ?_
 have e2:((y.natAbs:Int)*((x.natAbs/y.natAbs:Nat):Int))+((x.natAbs%y.natAbs:Nat):Int)=x.natAbs:=by rw [←Int.natCast_mul,←Int.natCast_add,e]
 rcases hc with rfl | h0
 ·simp at hx ⊢;simp at e2;omega
 ·rw [h0]at e2 ⊢
  cases s<;>simp at hx e2 ⊢<;>omega
theorem divA{t:Bool}{x y:Int}(hs:sg true x)(ht:sg t y)(hy:y≠0)(h0:0<x.natAbs%y.natAbs):sg (true != t) (x/y)∧(x/y).natAbs=x.natAbs/y.natAbs+1∧(x%y).natAbs=y.natAbs-x.natAbs%y.natAbs:=by
 have hx:=Zp5 hs
 have e:=Nat.div_add_mod x.natAbs y.natAbs
 have hl:=Nat.mod_lt x.natAbs (show 0<y.natAbs by omega)
 refine Zss hs ht hy _ _ (by omega) ?_
 have e2:((y.natAbs:Int)*((x.natAbs/y.natAbs:Nat):Int))+((x.natAbs%y.natAbs:Nat):Int)=x.natAbs:=by rw [←Int.natCast_mul,←Int.natCast_add,e]
 rw [Int.natCast_sub (by omega),Int.natCast_add,Int.mul_add]
 generalize ((y.natAbs:Int)*((x.natAbs/y.natAbs:Nat):Int))=P at *
 generalize ((x.natAbs%y.natAbs:Nat):Int)=R at *
 simp only [if_true]at *
 omega
def okW(b:Bool)(s:ByteArray):Bool:=if s.size=0 then !b else decide ((s.data.toList.getD 0 0).toNat≠0) && decide (s.size≤8192)
theorem bl256{n k:Nat} : (dg 256 n).length≤k↔bl n≤8*k:=by rw [Zed];omega
theorem Zaa{x:Int}(h:bl x.natAbs≤65536):okW (decide (x<0)) (Qc x.natAbs)=true:=by
 unfold okW
 rw [Lm]
 split
 ·rename_i h0
  have:=(Po (by omega:2≤256) x.natAbs).1 h0
  simp;omega
 ·rename_i h0
  have hp:0<x.natAbs:=by
   rcases Nat.eq_zero_or_pos x.natAbs with h1 | h1
   ·rw [h1]at h0;simp [Iu]at h0
   ·exact h1
  have h1:=Zhr x.natAbs 0 (by omega)
  have h2:=dg_top (by omega:2≤256) hp
  rw [Hj (by omega)]at h2
  have h3:=(bl256 (n:=x.natAbs) (k:=8192)).2 (by omega)
  rw [Bool.and_eq_true]
  refine⟨decide_eq_true (by rw [h1];simpa using h2),decide_eq_true h3⟩
theorem Zet{a b:ByteArray}(h:a.data.toList=b.data.toList):a=b:=by
 cases a;cases b;simp at h;rw [h]
theorem bstr_of{s:ByteArray}(h0:s.size≠0)(h:(s.data.toList.getD 0 0).toNat≠0):s=Qc (val 256 (s.data.toList.reverse.map UInt8.toNat)):=by
 have hl:s.data.toList.length=s.size:=rfl
 have hb:∀d∈s.data.toList.reverse.map UInt8.toNat,d<256:=fun d hd=>by
  obtain⟨u,_,rfl⟩:=List.mem_map.1 hd
  exact u.toNat_lt
 refine Zet ?_
 unfold Qc
 rw [Ky (by omega) _ hb,tz_eq]
 ·simp [List.map_reverse,Function.comp_def]
 ·refine .inr ?_
  rw [List.length_map,List.length_reverse,List.getD_eq_getElem?_getD,List.getElem?_map,List.getElem?_reverse (by omega)]
  rw [show s.data.toList.length-1-(s.data.toList.length-1)=0 by omega]
  rw [List.getD_eq_getElem?_getD]at h
  cases hx:s.data.toList[0]? with
  | none=>rw [hx]at h;simp at h
  | some u=>rw [hx]at h;simpa using h
theorem Zms{b:Bool}{s:ByteArray}(h:okW b s=true):∃x:Int,bl x.natAbs≤65536∧b=decide (x<0)∧s=Qc x.natAbs:=by
 unfold okW at h
 split at h
 ·rename_i h0
  refine⟨0,by simp [Lf],?_,?_⟩
  ·cases b<;>simp_all
  ·refine Zet ?_
   have:s.data.toList.length=0:=h0
   rw [List.eq_nil_of_length_eq_zero this];rfl
 ·rename_i h0
  rw [Bool.and_eq_true]at h
  have h1:=of_decide_eq_true h.1
  have h2:=of_decide_eq_true h.2
  have hs:=bstr_of h0 h1
  generalize val 256 (s.data.toList.reverse.map UInt8.toNat)=n at hs
  have hsz:(dg 256 n).length=s.size:=by rw [hs,Lm]
  have hn:0<n:=by
   rcases Nat.eq_zero_or_pos n with h | h
   ·subst h;simp [Iu]at hsz;omega
   ·exact h
  have hbl:bl n≤65536:=by have:=(bl256 (n:=n) (k:=8192)).1 (by omega);omega
  cases b with
  | true=>exact⟨-(n:Int),by simpa using hbl,by simp;omega,by simpa using hs⟩
  | false=>exact⟨n,by simpa using hbl,by simp,by simpa using hs⟩
def eqW(a:Bool)(s:ByteArray)(b:Bool)(t:ByteArray):Bool:=(a == b) && (s.toList == t.toList)
theorem Zo9{x y:Int}(h:decide (x<0)=decide (y<0))(h2:Qc x.natAbs=Qc y.natAbs):x=y:=by
 have h3:x.natAbs=y.natAbs:=by
  have h4:(dg 256 x.natAbs).reverse.map UInt8.ofNat=(dg 256 y.natAbs).reverse.map UInt8.ofNat:=by
   have:=congrArg (fun b:ByteArray=>b.data.toList) h2
   simpa [Qc]using this
  have h5:∀n:Nat,((dg 256 n).reverse.map UInt8.ofNat).map UInt8.toNat=(dg 256 n).reverse:=fun n=>by
   rw [List.map_map]
   conv=>rhs;rw [←List.map_id (dg 256 n).reverse]
   refine List.map_congr_left fun d hd=>?_
   have:=Lh (by omega:2≤256) n d (List.mem_reverse.1 hd)
   simp [UInt8.toNat_ofNat',Nat.mod_eq_of_lt this]
  have h6:=congrArg (List.map UInt8.toNat) h4
  rw [h5,h5]at h6
  exact(Zek (by omega:2≤256)).1 (List.reverse_inj.1 h6)
 have h4:=decide_eq_decide.1 h
 omega
theorem Zse{a b:Bool}{s t:ByteArray} : eqW a s b t=true↔a=b∧s=t:=by
 unfold eqW
 rw [Bool.and_eq_true,ByteArray.toList_eq,ByteArray.toList_eq,beq_iff_eq,beq_iff_eq]
 exact⟨fun h=>⟨h.1,Zet h.2⟩,fun h=>⟨h.1,by rw [h.2]⟩⟩
theorem Xh(x:Int):sg (decide (x<0)) x:=by
 unfold sg
 simp;omega
theorem Lv(x y:Int):bl (x+y).natAbs≤max (bl x.natAbs) (bl y.natAbs)+1:=
 Nat.le_trans (Nu (Int.natAbs_add_le x y)) (bl_add _ _)
theorem Qb(x y:Int):bl (x*y).natAbs≤bl x.natAbs+bl y.natAbs:=by
 rw [Int.natAbs_mul];exact Znx _ _
theorem Ah(x y:Int):bl (x-y).natAbs≤max (bl x.natAbs) (bl y.natAbs)+1:=by
 have:=Lv x (-y)
 rwa [Int.natAbs_neg,←Int.sub_eq_add_neg]at this
theorem Znw(x:Int):bl (-x).natAbs=bl x.natAbs:=by rw [Int.natAbs_neg]
theorem Zhv(x y:Int):bl (x/y).natAbs≤bl x.natAbs+1:=by
 have h:(x/y).natAbs≤x.natAbs:=Int.natAbs_ediv_le_natAbs x y
 have:=Nu h;omega
theorem Ztk(x y:Int)(hy:y≠0):bl (x%y).natAbs≤bl y.natAbs:=by
 have e0:=Int.emod_nonneg x hy
 have e1:=Int.emod_lt x hy
 exact Nu (by omega)
theorem Ztl(x y:Nat):bl (Nat.gcd x y)≤max (bl x) (bl y):=by
 rcases Nat.eq_zero_or_pos x with h | h
 ·subst h;rw [Nat.gcd_zero_left];omega
 ·have:=Nu (Nat.le_of_dvd h (Nat.gcd_dvd_left x y));omega
theorem sg_emod(x:Int){y:Int}(h:y≠0):sg false (x%y):=⟨fun h0=>Bool.noConfusion h0,fun _=>Int.emod_nonneg x h⟩
def Ga(x y:Int):Int:=if y<0 then -(Int.gcd x y:Int)else(Int.gcd x y:Int)
theorem Zaf(x y:Int):(Ga x y).natAbs=Nat.gcd x.natAbs y.natAbs:=by
 unfold Ga;split<;>simp [Int.gcd]
theorem lgcd_ne{x y:Int}(h:y≠0):Ga x y≠0:=fun e=>by
 have h1:=Zaf x y
 rw [e]at h1
 have:=(Nat.gcd_eq_zero_iff.1 h1.symm).2
 omega
theorem sg_lgcd{t:Bool}{x y:Int}(ht:sg t y)(hy:y≠0):sg t (Ga x y):=by
 unfold Ga sg at *
 refine⟨fun h=>?_,fun h=>?_⟩
 ·rw [if_pos (by have:=ht.1 h;omega)];omega
 ·rw [if_neg (by have:=ht.2 h;omega)];omega
theorem Zrp(v:Value)(x y:Int):dgp v (Nat.gcd x.natAbs y.natAbs)=dgp v (Ga x y).natAbs:=by rw [Zaf]
def Ik(x y:Int):Prop:=65536<bl (x/Ga x y).natAbs∨65536<bl (y/Ga x y).natAbs
instance (x y:Int):Decidable (Ik x y):=by unfold Ik;infer_instance
def Zcn(x y:Int):Int:=if Ik x y then 0 else x/Ga x y
def Zb0(x y:Int):Int:=if Ik x y then 0 else y/Ga x y
def rerr(x y:Int):Int:=if Ik x y then 7 else 0
abbrev Zb1 (x y:Int):Value:= .tuple #[.agg #[.bool (decide (Zcn x y<0)),.string (Qc (Zcn x y).natAbs),.bool (decide (Zb0 x y<0)),.string (Qc (Zb0 x y).natAbs)],.int .i64 (rerr x y)]
theorem Cs{x y:Int}(h:Ik x y):Zb1 x y= .tuple #[.agg #[.bool false,.string ⟨#[]⟩,.bool false,.string ⟨#[]⟩],.int .i64 7]:=by
 unfold Zb1 Zcn Zb0 rerr;rw [if_pos h,if_pos h,if_pos h];rfl
theorem Cb{x:Int}(h:Zow x≠0):65536<bl x.natAbs:=by
 unfold Zow at h;split at h
 ·assumption
 ·exact absurd rfl h
theorem Zhg{x:Int}(h:Zow x=0):bl x.natAbs≤65536:=by
 unfold Zow at h;split at h
 ·omega
 ·omega
theorem Zme{x y:Int}(h1:Zow (x/Ga x y)=0)(h2:Zow (y/Ga x y)=0):Zb1 x y= .tuple #[.agg #[.bool (decide (Zf2 (x/Ga x y)<0)),.string (Qc (Zf2 (x/Ga x y)).natAbs),.bool (decide (Zf2 (y/Ga x y)<0)),.string (Qc (Zf2 (y/Ga x y)).natAbs)],.int .i64 0]:=by
 have h3:¬Ik x y:=fun h=>by have:=Zhg h1;have:=Zhg h2;unfold Ik at h;omega
 unfold Zb1 Zcn Zb0 rerr
 rw [if_neg h3,if_neg h3,if_neg h3,Ok (Zhg h1),Ok (Zhg h2)]
def okR(b:Bool)(s:ByteArray)(c:Bool)(t:ByteArray):Bool:=okW b s && okW c t && (!c && decide (0<t.size))
theorem Zj7(z:Int):(!decide (z<0) && decide (0<(Qc z.natAbs).size))=decide (0<z):=by
 rw [Bool.eq_iff_iff,Bool.and_eq_true,Lm,decide_eq_true_iff,decide_eq_true_iff]
 have:=Po (by omega:2≤256) z.natAbs
 simp only [Bool.not_eq_true',decide_eq_false_iff_not]
 omega
theorem Zbw(z:Int):decide (0<z.sign)=decide (0<z):=by
 rw [decide_eq_decide]
 rcases Int.lt_trichotomy z 0 with h | h | h
 ·rw [Int.sign_eq_neg_one_of_neg h];omega
 ·subst h;simp
 ·rw [Int.sign_eq_one_of_pos h];omega
theorem Zmt{b:Bool}{s:ByteArray}{z:Int}(h1:okW b s=true)(hz:bl z.natAbs≤65536):okR b s (decide (z<0)) (Qc z.natAbs)=decide (0<z.sign):=by
 unfold okR;rw [h1,Zaa hz,Zj7,Zbw];rfl
theorem okR_wv{x y:Int}(hx:bl x.natAbs≤65536)(hy:bl y.natAbs≤65536)(hy0:0<y):okR (decide (x<0)) (Qc x.natAbs) (decide (y<0)) (Qc y.natAbs)=true:=by
 unfold okR;rw [Zaa hx,Zaa hy,Zj7];simp [hy0]
theorem Zq2{b c:Bool}{s t:ByteArray}(h:okR b s c t=true):∃x y:Int,bl x.natAbs≤65536∧bl y.natAbs≤65536∧0<y∧b=decide (x<0)∧s=Qc x.natAbs∧c=decide (y<0)∧t=Qc y.natAbs:=by
 unfold okR at h
 rw [Bool.and_eq_true,Bool.and_eq_true]at h
 obtain⟨⟨h1,h2⟩,h3⟩:=h
 obtain⟨x,hx,rfl,rfl⟩:=Zms h1
 obtain⟨y,hy,rfl,rfl⟩:=Zms h2
 rw [Zj7]at h3
 exact⟨x,y,hx,hy,of_decide_eq_true h3,rfl,rfl,rfl,rfl⟩
open Go.RowKit (Below)
def Sz(n:Nat)(p:List Int):Prop:=∀i,bl (cf p i).natAbs≤n
theorem Sz.getD{n:Nat}{p:List Int}(h:Sz n p)(i:Nat):bl (p.getD i 0).natAbs≤n:=h i
theorem Sz.mono{n m:Nat}{p:List Int}(h:Sz n p)(hm:n≤m):Sz m p:=fun i=>Nat.le_trans (h i) hm
theorem Sz.tzl{n:Nat}{p:List Int}(h:Sz n p):Sz n (tzl p):=fun i=>by rw [Kq];exact h i
theorem Sz.nil(n:Nat):Sz n []:=fun i=>by simp [cf,Lf]
theorem Sz.take{n:Nat}{p:List Int}(h:Sz n p)(k:Nat):Sz n (p.take k):=fun i=>by
 rw [Gg];split
 ·exact h i
 ·simp [Lf]
theorem Sz.mem{n:Nat}{p:List Int}(h:Sz n p){x:Int}(hx:x∈p):bl x.natAbs≤n:=by
 obtain⟨i,hi,rfl⟩:=List.mem_iff_getElem.1 hx
 have:=h i
 rwa [Zep hi]at this
theorem Sz.of_mem{n:Nat}{p:List Int}(h:∀x∈p,bl x.natAbs≤n):Sz n p:=fun i=>by
 rcases Nat.lt_or_ge i p.length with hi | hi
 ·rw [Zep hi];exact h _ (List.getElem_mem hi)
 ·rw [Qe hi];simp [Lf]
structure Vp (p:List Int):Prop where
 sz:Sz 65536 p
 tr:Tr p
 len:p.length≤25
def wr(x:Int):Bool×ByteArray:=(decide (x<0),Qc x.natAbs)
def okP(r:List (Bool×ByteArray)):Bool:=r.all (fun w=>okW w.1 w.2) && (decide (r.length≤25) && (decide (r.length=0) || decide ((r.getD (r.length-1) (false,⟨#[]⟩)).2.size≠0)))
theorem Zbp{x:Int} : (Qc x.natAbs).size=0↔x=0:=by
 rw [Lm]
 have:=Po (by omega:2≤256) x.natAbs
 omega
theorem Bz(xs:List Int)(i:Nat)(h:i<xs.length):(xs.map wr).getD i (false,⟨#[]⟩)=wr (cf xs i):=by
 rw [Zep h];simp [List.getD,h]
theorem okP_wr{xs:List Int}(h:Vp xs):okP (xs.map wr)=true:=by
 unfold okP
 rw [Bool.and_eq_true,Bool.and_eq_true,Bool.or_eq_true]
 refine⟨List.all_eq_true.2 fun w hw=>?_,by simpa using h.len,?_⟩
 ·obtain⟨x,hx,rfl⟩:=List.mem_map.1 hw
  exact Zaa (h.sz.mem hx)
 ·rcases h.tr with h0 | h0
  ·left;simp [h0]
  ·right
   have hl:0<xs.length:=by
    rcases Nat.eq_zero_or_pos xs.length with h1 | h1
    ·rw [Qe (by omega)]at h0;exact absurd rfl h0
    ·exact h1
   rw [List.length_map,Bz _ _ (by omega)]
   refine decide_eq_true fun he=>h0 (Zbp.1 he)
theorem Zmr{r:List (Bool×ByteArray)}(h:∀w∈r,okW w.1 w.2=true):∃xs:List Int,(∀x∈xs,bl x.natAbs≤65536)∧r=xs.map wr:=by
 induction r with
 | nil=>exact⟨[],by simp,rfl⟩
 | cons w r ih=>
  obtain⟨xs,h1,h2⟩:=ih fun u hu=>h u (List.mem_cons_of_mem _ hu)
  obtain⟨x,hx,h3,h4⟩:=Zms (h w (List.mem_cons_self ..))
  refine⟨x :: xs,fun y hy=>?_,?_⟩
  ·rcases List.mem_cons.1 hy with rfl | hy
   ·exact hx
   ·exact h1 y hy
  ·rw [List.map_cons,←h2,wr,←h3,←h4]
theorem okP_ex{r:List (Bool×ByteArray)}(h:okP r=true):∃xs:List Int,Vp xs∧r=xs.map wr:=by
 unfold okP at h
 rw [Bool.and_eq_true,Bool.and_eq_true,Bool.or_eq_true]at h
 obtain⟨h1,h2,h3⟩:=h
 obtain⟨xs,h4,rfl⟩:=Zmr (List.all_eq_true.1 h1)
 refine⟨xs,⟨Sz.of_mem h4,?_,by simpa using h2⟩,rfl⟩
 rcases h3 with h3 | h3
 ·left;exact List.eq_nil_of_length_eq_zero (by simpa using h3)
 ·rcases Nat.eq_zero_or_pos xs.length with h5 | h5
  ·left;exact List.eq_nil_of_length_eq_zero h5
  ·right
   rw [List.length_map,Bz _ _ (by omega)]at h3
   exact fun he=>of_decide_eq_true h3 (Zbp.2 he)
theorem Zfe{xs:List Int}{k j:Nat}(h:j<k)(h0:(xs.take k).getD j 0=0):cf xs j=0:=by rw [Zak _ _ _ _ h]at h0;exact h0
theorem Zck{xs:List Int}{k j:Nat}(h:j<k)(h0:¬((xs.take k).getD j 0).sign=0):cf xs j≠0:=fun e=>h0 (by rw [Zak _ _ _ _ h];rw [show xs.getD j 0=0 from e];rfl)
theorem Zq3{r:List (Bool×ByteArray)}{w:Bool×ByteArray}(hw:w∈r)(h:okW w.1 w.2=false):okP r=false:=by
 unfold okP
 rw [show r.all (fun w=>okW w.1 w.2)=false from List.all_eq_false.2 ⟨w,hw,by simp [h]⟩];rfl
theorem Zkg{xs:List Int}(h:∀x∈xs,bl x.natAbs≤65536):okP (xs.map wr)=(decide (xs.length≤25) && (decide (xs.length=0) || decide (¬(xs.getD (xs.length-1) 0).sign=0))):=by
 unfold okP
 rw [show(xs.map wr).all (fun w=>okW w.1 w.2)=true from List.all_eq_true.2 fun w hw=>by
  obtain⟨x,hx,rfl⟩:=List.mem_map.1 hw
  exact Zaa (h x hx)]
 rw [List.length_map,Bool.true_and]
 congr 1
 by_cases h0:xs.length=0
 ·simp [h0]
 ·rw [decide_eq_false h0,Bool.false_or,Bool.false_or,Bz _ _ (by omega)]
  rw [decide_eq_decide,Int.sign_eq_zero_iff_zero]
  exact not_congr Zbp
def err(e x:Int):Int:=if e=0 then Zow x else e
theorem Zsd{x:Int}(h:bl x.natAbs≤65536):err 0 x=0:=by unfold err;rw [if_pos rfl,Da h]
def msz:List Int→Nat
 | []=>0
 | x :: r=>max (bl x.natAbs) (msz r)
theorem Kn(p:List Int):Sz (msz p) p:=by
 refine Sz.of_mem fun x hx=>?_
 induction p with
 | nil=>cases hx
 | cons y r ih=>
  rcases List.mem_cons.1 hx with rfl | h
  ·simp only [msz];omega
  ·have:=ih h;simp only [msz];omega
theorem Oo{n:Nat}{p:List Int}(h:Sz n p):msz p≤n:=by
 have h2:∀x∈p,bl x.natAbs≤n:=fun x hx=>h.mem hx
 clear h
 induction p with
 | nil=>exact Nat.zero_le _
 | cons y r ih=>
  have:=h2 y (List.mem_cons_self ..)
  have:=ih fun x hx=>h2 x (List.mem_cons_of_mem _ hx)
  simp only [msz];omega
theorem Zvr(p:List Int)(x:Int):msz (p ++ [x])=max (msz p) (bl x.natAbs):=by
 induction p with
 | nil=>simp [msz]
 | cons y r ih=>simp only [List.cons_append,msz,ih];omega
variable {P:Program} {N:Nat} {sc:Nat→Prop} {env env':Env} {H H':Hp} {Q Q':Exit→Act→World→Prop} {M:Nat→Prop}
theorem Zpw(v:Value)(xs:List Int)(w:World)(h:(slp 2 wv v xs).holds w):(slp 2 (fun w:Bool×ByteArray=>Value.agg #[.bool w.1,.string w.2]) v (xs.map wr)).holds w:=by
 obtain⟨⟨a,c,h0,h1,h2,h3⟩,hb⟩:=h
 refine⟨⟨a,c,by rw [List.length_map];exact h0,by rw [List.length_map];exact h1,h2,?_⟩,hb⟩
 rcases h3 with h3 | ⟨g,off,h3,h4⟩
 ·left;rw [h3];rfl
 ·right
  refine⟨g,off,h3,fun i x hi j u hu=>?_⟩
  rw [List.getElem?_map]at hi
  cases hx:xs[i]? with
  | none=>rw [hx]at hi;cases hi
  | some y=>rw [hx]at hi;cases hi;exact h4 i y hx j u hu
theorem Zpv(v:Value)(xs:List Int)(w:World)(h:(slp 2 (fun w:Bool×ByteArray=>Value.agg #[.bool w.1,.string w.2]) v (xs.map wr)).holds w):(slp 2 wv v xs).holds w:=by
 obtain⟨⟨a,c,h0,h1,h2,h3⟩,hb⟩:=h
 rw [List.length_map]at h0 h1
 refine⟨⟨a,c,h0,h1,h2,?_⟩,hb⟩
 rcases h3 with h3 | ⟨g,off,h3,h4⟩
 ·left;simpa using h3
 ·right
  refine⟨g,off,h3,fun i x hi j u hu=>?_⟩
  exact h4 i (wr x) (by rw [List.getElem?_map,hi];rfl) j u hu
theorem Cal.imp{f:FuncId}{args:Array Value}{p q:Pc}{pre:List Pc}{al:Bool}{G:Type}{φ:G→Prop}{val:G→Value}{its:G→List Pc}(h:Cal P f args (p :: pre) al φ val its)(hh:∀w,q.holds w→p.holds w)(hf:∀b,p.fp b→q.fp b) :
  Cal P f args (q :: pre) al φ val its:=fun w hp=>by
 refine(h w fun r hr=>?_).mono ?_
 ·rcases List.mem_cons.1 hr with rfl | hr
  ·exact hh w (hp q (List.mem_cons_self ..))
  ·exact hp r (List.mem_cons_of_mem _ hr)
 ·rintro e w' ⟨g,he,hg,hb,hits⟩
  refine⟨g,he,hg,hb,fun p' hp'=>?_⟩
  obtain⟨h1,h2,h3⟩:=hits p' hp'
  refine⟨h1,h2,fun b hb=>?_⟩
  rcases h3 b hb with h | ⟨h,r,hr,hrb⟩
  ·exact .inl h
  ·refine .inr ⟨h,?_⟩
   rcases List.mem_cons.1 hr with rfl | hr
   ·exact⟨q,List.mem_cons_self ..,hf b hrb⟩
   ·exact⟨r,List.mem_cons_of_mem _ hr,hrb⟩
end Go.Sky
namespace Go.Sky
def fill(n k:Nat)(f:Nat→Int):List Int:=mk n fun i=>if i<k then f i else 0
theorem Od(n k:Nat)(f:Nat→Int):(fill n k f).length=n:=Xi _ _
theorem Zcu{n k:Nat}{f:Nat→Int}(h:k<n):(fill n k f).set k (f k)=fill n (k+1) f:=Lq (by simp [Od]) fun i hi=>by
 rw [List.length_set,Od]at hi
 rw [Zjb _ _ _ _ (by rw [Od];exact h)]
 unfold fill
 rw [Ib,Ib,if_pos hi,if_pos hi]
 by_cases hk:i=k
 ·subst hk;rw [if_pos rfl,if_pos (by omega)]
 ·rw [if_neg hk]
  by_cases h2:i<k
  ·rw [if_pos h2,if_pos (by omega)]
  ·rw [if_neg h2,if_neg (by omega)]
theorem Cd(n:Nat)(f:Nat→Int):List.replicate n 0=fill n 0 f:=Lq (by simp [Od]) fun i hi=>by
 rw [List.length_replicate]at hi
 unfold fill;rw [Ib,if_pos hi,if_neg (by omega),Zep (by simpa using hi)];simp
theorem Db(n:Nat)(f:Nat→Int):fill n n f=mk n f:=Iw fun i hi=>by rw [if_pos hi]
theorem mk_map(xs:List Int)(g:Int→Int):mk xs.length (fun i=>g (cf xs i))=xs.map g:=Lq (by simp [Xi]) fun i hi=>by
 rw [Xi]at hi
 rw [Ib,if_pos hi,Zep hi,Zep (p:=xs.map g) (by simpa using hi)];simp
theorem Zeb{n m:Nat}{f:Nat→Int}(h:∀i,i<n→bl (f i).natAbs≤m):Sz m (mk n f):=fun i=>by
 rw [Ib];split
 ·exact h i ‹_›
 ·simp [Lf]
theorem Mh{p:List Int}(h:Tr p):Tr (Pi p):=by
 unfold Pi
 rcases Nat.lt_or_ge 1 p.length with h1 | h1
 ·right
  rw [Xi,Ib,if_pos (by omega)]
  have h2:=h.mem (by intro e;rw [e]at h1;simp at h1)
  rw [show p.length-1-1+1=p.length-1 by omega]
  intro h3
  rcases Int.mul_eq_zero.1 h3 with h4 | h4
  ·exact h2 h4
  ·omega
 ·left
  exact List.eq_nil_of_length_eq_zero (by rw [Xi];omega)
theorem Zqr(xs:List Int)(c:Int):tzl (fill xs.length xs.length fun i=>cf xs i*c)=Xr xs c:=by
 rw [Db,mk_map xs (· * c)];rfl
theorem pder_mk{xs:List Int}(h:Tr xs):tzl (fill (xs.length-1) (xs.length-1) fun i=>cf xs (i+1)*((i:Int)+1))=Pi xs:=by
 rw [Db];exact Zbv (Mh h)
theorem Zvg{p:List Int}(h:p.length=0):Pi p=[]:=List.eq_nil_of_length_eq_zero (by unfold Pi;rw [Xi];omega)
theorem Zfr(p:List Int)(x:Int):Ql (p ++ [x])=(Int.gcd (Ql p) x:Int):=by unfold Ql;rw [List.foldl_append];rfl
theorem Nf(p:List Int):0≤Ql p:=by
 rcases Zgk p with rfl | ⟨ys,y,rfl⟩
 ·exact Int.le_refl _
 ·rw [Zfr];omega
theorem Ll{p:List Int}{k:Nat}(h:k<p.length):Ql (p.take (k+1))=(Int.gcd (Ql (p.take k)) (p.getD k 0):Int):=by rw [On 0 _ _ h,Zfr]
theorem Zmo{n:Nat} : ∀(p:List Int),Sz n p→bl (Ql p).natAbs≤n:=fun p=>by
 have key:∀k,k≤p.length→Sz n p→bl (Ql (p.take k)).natAbs≤n:=by
  intro k
  induction k with
  | zero=>intro _ _;rw [List.take_zero];exact Nat.zero_le _
  | succ k ih=>
   intro hk hs
   rw [Ll hk]
   have h1:=ih (by omega) hs
   have h2:=hs k
   have:=Ztl (Ql (p.take k)).natAbs (p.getD k 0).natAbs
   have h4:bl (p.getD k 0).natAbs≤n:=h2
   show bl (Nat.gcd _ _)≤n
   omega
 intro hs
 have:=key p.length (Nat.le_refl _) hs
 rwa [List.take_length]at this
theorem Ml(p:List Int):∀i,Ql p∣cf p i:=by
 have key:∀k,k≤p.length→∀i,i<k→Ql (p.take k)∣cf p i:=by
  intro k
  induction k with
  | zero=>intro _ i hi;omega
  | succ k ih=>
   intro hk i hi
   rw [Ll hk]
   rcases Nat.lt_or_ge i k with h | h
   ·exact Int.dvd_trans (Int.gcd_dvd_left ..) (ih (by omega) i h)
   ·have:i=k:=by omega
    subst this
    exact Int.gcd_dvd_right ..
 intro i
 rcases Nat.lt_or_ge i p.length with h | h
 ·have:=key p.length (Nat.le_refl _) i h
  rwa [List.take_length]at this
 ·rw [Qe h];exact Int.dvd_zero _
theorem Bo(p:List Int):Ql p=0↔∀i,cf p i=0:=by
 refine⟨fun h i=>by have:=Ml p i;rw [h]at this;exact Int.zero_dvd.1 this,fun h=>?_⟩
 have key:∀k,k≤p.length→Ql (p.take k)=0:=by
  intro k
  induction k with
  | zero=>intro _;rfl
  | succ k ih=>
   intro hk
   rw [Ll hk,ih (by omega)]
   have:=h k
   rw [show p.getD k 0=0 from this];rfl
 have:=key p.length (Nat.le_refl _)
 rwa [List.take_length]at this
theorem He{p:List Int}{d:Int}(h:∀i,d∣cf p i):d∣Ql p:=by
 have key:∀k,k≤p.length→d∣Ql (p.take k):=by
  intro k
  induction k with
  | zero=>intro _;exact Int.dvd_zero _
  | succ k ih=>
   intro hk
   rw [Ll hk]
   exact Int.dvd_coe_gcd (ih (by omega)) (h k)
 have:=key p.length (Nat.le_refl _)
 rwa [List.take_length]at this
theorem Bf(p:List Int)(i:Nat):cf (Xg p) i=cf p i/Ql p:=by
 unfold Xg
 rw [Zf3 _ _ (by simp)]
theorem Ym(p:List Int):(Xg p).length=p.length:=by simp [Xg]
theorem Be{x y:Int}{n:Nat}(h:y∣x)(hx:bl x.natAbs≤n):bl (x/y).natAbs≤n:=by
 have h1:(x/y).natAbs≤x.natAbs:=Int.natAbs_ediv_le_natAbs x y
 exact Nat.le_trans (Nu h1) hx
theorem Xn{p:List Int}(h:Tr p):Tr (Xg p):=by
 rcases h with rfl | h
 ·left;rfl
 ·right
  rw [Bf,Ym]
  intro h0
  have hd:=Ml p (p.length-1)
  have:=Int.mul_ediv_cancel' hd
  rw [h0,Int.mul_zero]at this
  exact h this.symm
theorem Gq{n:Nat}{p:List Int}(h:Sz n p):Sz n (Xg p):=fun i=>by rw [Bf];exact Be (Ml p i) (h i)
theorem Ku{p:List Int}(h:Vp p):Vp (Xg p):=⟨Gq h.sz,Xn h.tr,by rw [Ym];exact h.len⟩
theorem Vp.ne{p:List Int}(h:Vp p)(h0:p≠[]):Ql p≠0:=fun e=>h.tr.mem h0 ((Bo p).1 e _)
def hor(p:List Int)(n d:Int)(i:Nat):Int:=Qa (fun m=>cf p (i+m)*(n^m*d^(p.length-1-(i+m)))) (p.length-i)
theorem Zm3(p:List Int)(n d:Int):hor p n d 0=pev p n d:=by unfold hor pev;simp only [Nat.zero_add,Nat.sub_zero]
theorem hor_top{p:List Int}(n d:Int)(h:0<p.length):hor p n d (p.length-1)=cf p (p.length-1):=by
 unfold hor
 rw [show p.length-(p.length-1)=0+1 by omega,Xj,Kl]
 simp
theorem Zvz{p:List Int}(n d:Int){i:Nat}(h:i<p.length):hor p n d i=hor p n d (i+1)*n+cf p i*d^(p.length-1-i):=by
 unfold hor
 rw [show p.length-i=p.length-(i+1)+1 by omega,Kh]
 rw [←Cp]
 have:Qa (fun m=>cf p (i+(m+1))*(n^(m+1)*d^(p.length-1-(i+(m+1))))) (p.length-(i+1))=Qa (fun m=>cf p (i+1+m)*(n^m*d^(p.length-1-(i+1+m)))*n) (p.length-(i+1)):=
  Xe fun m hm=>by rw [show i+(m+1)=i+1+m by omega,Int.pow_succ];grind
 rw [this]
 simp only [Nat.add_zero,Int.pow_zero,Int.one_mul]
 omega
theorem Zti{K:Nat}{f:Nat→Int} : ∀{n:Nat},(∀i,i<n→bl (f i).natAbs≤K)→(Qa f n).natAbs≤n*(2^K-1)
 | 0,_=>by simp [Qa]
 | n+1,h=>by
  have ih:=Zti (n:=n) fun i hi=>h i (by omega)
  have h1:=(Md K _).1 (h n (by omega))
  rw [Xj,Nat.add_mul]
  have:=Int.natAbs_add_le (Qa f n) (f n)
  omega
theorem Zlk{K:Nat}{f:Nat→Int}{n:Nat}(h:∀i,i<n→bl (f i).natAbs≤K)(hn:n≤31):bl (Qa f n).natAbs≤K+5:=by
 rw [Md]
 have h1:=Zti h
 have h2:n*(2^K-1)≤31*(2^K-1):=Nat.mul_le_mul_right _ hn
 have h3:0<2^K:=Nat.two_pow_pos K
 rw [Nat.pow_add]
 omega
theorem Dg(x:Int){m:Nat}(h:bl x.natAbs≤m):∀k,0<k→bl (x^k).natAbs≤k*m
 | 0,h0=>by omega
 | 1,_=>by rw [Int.pow_succ,Int.pow_zero,Int.one_mul,Nat.one_mul];exact h
 | k+2,_=>by
  have ih:=Dg x h (k+1) (by omega)
  rw [Int.pow_succ,show k+2=(k+1)+1 from rfl,Nat.add_mul (k+1) 1 m]
  have:=Qb (x^(k+1)) x
  omega
theorem Zht{a n d:Int}{A m i j:Nat}(ha:bl a.natAbs≤A)(hn:bl n.natAbs≤m)(hd:bl d.natAbs≤m):bl (a*(n^i*d^j)).natAbs≤A+(i+j)*m:=by
 rcases Nat.eq_zero_or_pos i with rfl | hi
 ·rcases Nat.eq_zero_or_pos j with rfl | hj
  ·simp;exact ha
  ·have h1:=Dg d hd j hj
   have h2:=Qb a (n^0*d^j)
   rw [Int.pow_zero,Int.one_mul]at h2 ⊢
   rw [Nat.zero_add];omega
 ·rcases Nat.eq_zero_or_pos j with rfl | hj
  ·have h1:=Dg n hn i hi
   have h2:=Qb a (n^i*d^0)
   rw [Int.pow_zero,Int.mul_one]at h2 ⊢
   rw [Nat.add_zero];omega
  ·have h1:=Dg n hn i hi
   have h2:=Dg d hd j hj
   have h3:=Qb (n^i) (d^j)
   have h4:=Qb a (n^i*d^j)
   rw [Nat.add_mul];omega
theorem bl_hor{p:List Int}{n d:Int}{A m:Nat}(hp:Sz A p)(hn:bl n.natAbs≤m)(hd:bl d.natAbs≤m)(hl:p.length≤31)(i:Nat):bl (hor p n d i).natAbs≤A+(p.length-1-i)*m+5:=by
 unfold hor
 refine Zlk (fun k hk=>?_) (by omega)
 have h1:=Zht (i:=k) (j:=p.length-1-(i+k)) (hp (i+k)) hn hd
 rw [show k+(p.length-1-(i+k))=p.length-1-i by omega]at h1
 exact h1
def Ka(p:List Int)(n d:Int):Prop:=p≠[]∧65536<msz p+(p.length-1)*msz [n,d]+8
instance (p:List Int) (n d:Int):Decidable (Ka p n d):=by unfold Ka;infer_instance
def evv(p:List Int)(n d:Int):Int:=if Ka p n d then 0 else pev p n d
def eve(p:List Int)(n d:Int):Int:=if Ka p n d then 7 else 0
abbrev wc (x:Int):Array Value:=#[.bool (decide (x<0)),.string (Qc x.natAbs)]
section
variable {p:List Int} {n d:Int} (hF:msz p+(p.length-1)*msz [n,d]+8≤65536) (hl:p.length≤25)
include hF
theorem Zi3:bl n.natAbs≤msz [n,d]∧bl d.natAbs≤msz [n,d]:=by simp only [msz];omega
theorem Zna{k:Nat} : bl (d^(p.length-1-k)).natAbs≤65536:=by
 rcases Nat.eq_zero_or_pos (p.length-1-k)with h | h
 ·rw [h,Int.pow_zero];decide
 ·have h1:=Dg d (Zi3 hF).2 _ h
  have h2:(p.length-1-k)*msz [n,d]≤(p.length-1)*msz [n,d]:=Nat.mul_le_mul_right _ (by omega)
  omega
theorem Zk0{k:Nat} : bl (cf p k*d^(p.length-1-k)).natAbs≤65536:=by
 have h1:=Zht (i:=0) (j:=p.length-1-k) (Kn p k) (Zi3 hF).1 (Zi3 hF).2
 have h2:(0+(p.length-1-k))*msz [n,d]≤(p.length-1)*msz [n,d]:=Nat.mul_le_mul_right _ (by omega)
 rw [Int.pow_zero,Int.one_mul]at h1
 omega
include hl
theorem Znb(k:Nat):bl (hor p n d k).natAbs≤65536:=by
 have h1:=bl_hor (Kn p) (Zi3 hF).1 (Zi3 hF).2 (by omega) k
 have h2:(p.length-1-k)*msz [n,d]≤(p.length-1)*msz [n,d]:=Nat.mul_le_mul_right _ (by omega)
 omega
theorem Zr8{k:Nat}(h1:1≤k)(h2:k≤p.length-1):bl (hor p n d k*n).natAbs≤65536:=by
 have h3:=bl_hor (Kn p) (Zi3 hF).1 (Zi3 hF).2 (by omega) k
 have h4:=Qb (hor p n d k) n
 have h5:=(Zi3 hF).1
 have h6:(p.length-1-k)*msz [n,d]+msz [n,d]≤(p.length-1)*msz [n,d]:=by
  rw [←Nat.succ_mul];exact Nat.mul_le_mul_right _ (by omega)
 omega
end
theorem evv_bl{p:List Int}{n d:Int}(hl:p.length≤25):bl (evv p n d).natAbs≤65536:=by
 unfold evv
 split
 ·decide
 ·rename_i h
  rcases Nat.eq_zero_or_pos p.length with h0 | h0
  ·rw [List.eq_nil_of_length_eq_zero h0,show pev [] n d=0 from rfl];decide
  ·rw [←Zm3]
   have hne:p≠[]:=fun e=>by rw [e]at h0;simp at h0
   exact Znb (Nat.le_of_not_lt fun hlt=>h ⟨hne,hlt⟩) hl 0
theorem Zu8(d:Int){L k:Nat}(h1:1≤k)(h2:k≤L):d^(L-k)*d=d^(L-(k-1)):=by
 rw [show L-(k-1)=L-k+1 by omega,Int.pow_succ]
theorem Zry{p:List Int}(n d:Int){k:Nat}(h1:1≤k)(h2:k≤p.length-1):hor p n d k*n+cf p (k-1)*d^(p.length-1-(k-1))=hor p n d (k-1):=by
 rw [Zvz n d (i:=k-1) (by omega),show k-1+1=k by omega]
end Go.Sky
namespace Go.Sky
def acc(p q:List Int)(i t:Nat):Int:=Qa (fun k=>if k≤t then cf p k*cf q (t-k)else 0) i
def Zf6(p q:List Int)(i j t:Nat):Int:=acc p q i t+if i≤t∧t<i+j then cf p i*cf q (t-i)else 0
theorem Zts(p q:List Int)(i:Nat):Zf6 p q i 0=acc p q i:=funext fun t=>by
 unfold Zf6;rw [if_neg (by omega),Int.add_zero]
theorem Zws(p q:List Int)(i:Nat):Zf6 p q i q.length=acc p q (i+1):=funext fun t=>by
 unfold Zf6 acc
 rw [Xj]
 by_cases h:i≤t
 ·rw [if_pos h]
  by_cases h2:t<i+q.length
  ·rw [if_pos ⟨h,h2⟩]
  ·rw [if_neg (fun h=>h2 h.2),Qe (p:=q) (by omega),Int.mul_zero]
 ·rw [if_neg h,if_neg (fun h2=>h h2.1)]
theorem Ziu{L k:Nat}{f g:Nat→Int}(hk:k<L)(h:∀t,t<L→t≠k→f t=g t)(x:Int)(hx:x=g k):(mk L f).set k x=mk L g:=Lq (by simp [Xi]) fun t ht=>by
 rw [List.length_set,Xi]at ht
 rw [Zjb _ _ _ _ (by rw [Xi];exact hk),Ib,Ib,if_pos ht]
 by_cases htk:t=k
 ·rw [if_pos htk,htk,hx,if_pos hk]
 ·rw [if_neg htk,if_pos ht,h t ht htk]
theorem Zwr{p q:List Int}{L i j:Nat}(h:i+j<L):(mk L (Zf6 p q i j)).set (i+j) (Zf6 p q i j (i+j)+cf p i*cf q j)=mk L (Zf6 p q i (j+1)):=by
 refine Ziu h (fun t ht hne=>?_) _ ?_
 ·unfold Zf6
  by_cases h1:i≤t∧t<i+j
  ·rw [if_pos h1,if_pos (by omega)]
  ·rw [if_neg h1,if_neg (by omega)]
 ·unfold Zf6
  rw [if_neg (by omega),if_pos (by omega),Int.add_zero,show i+j-i=j by omega]
theorem Zn2(p q:List Int)(t:Nat):acc p q p.length t=(ps p*ps q).c t:=by
 rw [PS.mul_c]
 unfold acc
 have h1:Qa (fun k=>if k≤t then cf p k*cf q (t-k)else 0) (max (t+1) p.length)=Qa (fun k=>if k≤t then cf p k*cf q (t-k)else 0) p.length:=
  Fq (by omega) fun k h1 _=>by rw [Qe h1,Int.zero_mul];split<;>rfl
 have h2:Qa (fun k=>if k≤t then cf p k*cf q (t-k)else 0) (max (t+1) p.length)=Qa (fun k=>if k≤t then cf p k*cf q (t-k)else 0) (t+1):=
  Fq (by omega) fun k h1 _=>by rw [if_neg (by omega)]
 rw [←h1,h2]
 exact Xe fun k hk=>by rw [if_pos (by omega)];rfl
theorem Zqf(L:Nat):List.replicate L 0=mk L fun _=>0:=by
 rw [Cd L fun _=>0];unfold fill;exact Iw fun i _=>by split<;>rfl
theorem Zvc(p q:List Int):tzl (mk (p.length+q.length-1) (acc p q p.length))=Nr p q:=by
 unfold Nr;congr 1;exact Iw fun i _=>Zn2 p q i
theorem bl_acc2{p q:List Int}{A B i j t:Nat}(hp:Sz A p)(hq:Sz B q)(hi:i<31):bl (Zf6 p q i j t).natAbs≤A+B+5:=by
 have h:Zf6 p q i j t=Qa (fun k=>if k<i then(if k≤t then cf p k*cf q (t-k)else 0)else if i≤t∧t<i+j then cf p i*cf q (t-i)else 0) (i+1):=by
  rw [Xj]
  rw [if_neg (Nat.lt_irrefl i)]
  unfold Zf6 acc
  congr 1
  exact Xe fun k hk=>by rw [if_pos hk]
 rw [h]
 have hm:∀a b,bl (cf p a*cf q b).natAbs≤A+B:=fun a b=>by have:=Qb (cf p a) (cf q b);have:=hp a;have:=hq b;omega
 refine Zlk (fun k hk=>?_) (by omega)
 split
 ·split
  ·exact hm _ _
  ·simp [Lf]
 ·split
  ·exact hm _ _
  ·simp [Lf]
theorem bl_acc{p q:List Int}{A B i t:Nat}(hp:Sz A p)(hq:Sz B q)(hi:i≤31):bl (acc p q i t).natAbs≤A+B+5:=by
 refine Zlk (fun k hk=>?_) hi
 split
 ·have:=Qb (cf p k) (cf q (t-k));have:=hp k;have:=hq (t-k);omega
 ·simp [Lf]
def Zd9(p q:List Int):Prop:=p≠[]∧q≠[]∧(24<p.length+q.length-2∨65536<msz p+msz q+5)
instance (p q:List Int):Decidable (Zd9 p q):=by unfold Zd9;infer_instance
theorem Zbg{L i:Nat}{f:Nat→Int}(h:i<L):(mk L f).getD i 0=f i:=by
 have:=Ib L f i;rw [if_pos h]at this;exact this
def dlow(p q:List Int):Bool:=decide (q≠[]) && decide (p.length<q.length)
def Zcz(p q:List Int):Int:=if q.length=0 then 3 else if p.length<q.length then 0 else if 65536<msz p+(p.length-q.length+1)*(msz q+1)then 7 else 0
def Zie(q r:List Int)(top:Nat):List Int:=
 mk r.length fun t=>cf r t*cf q (q.length-1)-if top-(q.length-1)≤t∧t<top-(q.length-1)+q.length then cf r top*cf q (t-(top-(q.length-1)))else 0
def Oc(p q:List Int):Nat→List Int
 | 0=>p
 | j+1=>Zie q (Oc p q j) (p.length-1-j)
theorem Zb4(q r:List Int)(top:Nat):(Zie q r top).length=r.length:=Xi _ _
theorem Nv(p q:List Int):∀j,(Oc p q j).length=p.length
 | 0=>rfl
 | j+1=>by unfold Oc;rw [Zb4,Nv p q j]
def Pz(p q:List Int):List Int:=if p.length<q.length then p else tzl (Oc p q (p.length-q.length+1))
theorem Zns{q r:List Int}{top t:Nat}(ht:t<r.length):cf (Zie q r top) t=cf r t*cf q (q.length-1)-if top-(q.length-1)≤t∧t<top-(q.length-1)+q.length then cf r top*cf q (t-(top-(q.length-1)))else 0:=by
 unfold Zie;rw [Ib,if_pos ht]
theorem Ztj{a b c d:Int}{A B:Nat}(ha:bl a.natAbs≤A)(hb:bl b.natAbs≤B)(hc:bl c.natAbs≤A)(hd:bl d.natAbs≤B):bl (a*b-c*d).natAbs≤A+(B+1):=by
 have h1:=Qb a b
 have h2:=Qb c d
 have h3:=Ah (a*b) (c*d)
 omega
theorem Zua{q r:List Int}{A B:Nat}(hr:Sz A r)(hq:Sz B q)(top:Nat):Sz (A+(B+1)) (Zie q r top):=by
 unfold Zie
 refine Zeb fun t ht=>?_
 split
 ·exact Ztj (hr t) (hq _) (hr _) (hq _)
 ·rw [Int.sub_zero]
  have:=Qb (cf r t) (cf q (q.length-1));have:=hr t;have:=hq (q.length-1);omega
theorem Zdd(p q:List Int):∀j,Sz (msz p+j*(msz q+1)) (Oc p q j)
 | 0=>by rw [Nat.zero_mul];exact Kn p
 | j+1=>by
  unfold Oc
  rw [Nat.succ_mul,←Nat.add_assoc]
  exact Zua (Zdd p q j) (Kn q) _
def dq(q r:List Int)(k:Nat):Int:=cf r (k+q.length-1)/cf q (q.length-1)
def Zk5(q r:List Int)(k:Nat):List Int:=mk r.length fun t=>cf r t-if k≤t∧t<k+q.length then dq q r k*cf q (t-k)else 0
def Of(p q:List Int):Nat→List Int
 | 0=>p
 | j+1=>Zk5 q (Of p q j) (p.length-q.length-j)
theorem Ey(p q:List Int):∀j,(Of p q j).length=p.length
 | 0=>rfl
 | j+1=>by unfold Of Zk5;rw [Xi,Ey p q j]
def Zwe(p q:List Int)(k:Nat):Int:=dq q (Of p q (p.length-q.length-k)) k
def Ic(p q:List Int)(k:Nat):Prop:=cf (Of p q (p.length-q.length-k)) (k+q.length-1)%cf q (q.length-1)=0
def pquo(p q:List Int):List Int:=tzl (mk (p.length-q.length+1) (Zwe p q))
def pdivs(p q:List Int):Prop:=p=[]∨(q.length≤p.length∧(∀k,k≤p.length-q.length→Ic p q k)∧∀i,cf (Of p q (p.length-q.length+1)) i=0)
theorem Zub{q r:List Int}{A B:Nat}(hr:Sz A r)(hq:Sz B q)(k:Nat)(he:cf r (k+q.length-1)%cf q (q.length-1)=0):Sz (A+(B+1)) (Zk5 q r k):=by
 unfold Zk5
 refine Zeb fun t ht=>?_
 split
 ·have h1:bl (dq q r k).natAbs≤A:=Be (Int.dvd_of_emod_eq_zero he) (hr _)
  have h2:=Qb (dq q r k) (cf q (t-k))
  have h3:=Ah (cf r t) (dq q r k*cf q (t-k))
  have:=hr t;have:=hq (t-k);omega
 ·rw [Int.sub_zero];have:=hr t;omega
theorem Zdg(p q:List Int):∀j,j≤p.length-q.length+1→(∀k,p.length-q.length<k+j→k≤p.length-q.length→Ic p q k)→Sz (msz p+j*(msz q+1)) (Of p q j)
 | 0,_,_=>by rw [Nat.zero_mul];exact Kn p
 | j+1,hj,h=>by
  unfold Of
  rw [Nat.succ_mul,←Nat.add_assoc]
  refine Zub (Zdg p q j (by omega) fun k h1 h2=>h k (by omega) h2) (Kn q) _ ?_
  have:=h (p.length-q.length-j) (by omega) (by omega)
  unfold Ic at this
  rw [show p.length-q.length-(p.length-q.length-j)=j by omega]at this
  exact this
theorem Zv4{x y:Bool×ByteArray}(h:eqW x.1 x.2 y.1 y.2=true):x=y:=by
 obtain⟨h1,h2⟩:=Zse.1 h
 exact Prod.ext h1 h2
theorem Bd(a:Bool)(s:ByteArray):eqW a s a s=true:=Zse.2 ⟨rfl,rfl⟩
theorem Ztt(p q:List Int)(i j:Nat):Zf6 p q i (j+1) (i+j)=Zf6 p q i j (i+j)+cf p i*cf q j:=by
 unfold Zf6
 rw [if_pos (by omega),if_neg (by omega),Int.add_zero,show i+j-i=j by omega]
theorem Cx{p q:List Int}(h:p.length=0∨q.length=0):Nr p q=[]:=by
 unfold Nr
 refine(Ms _).2 fun i=>?_
 rw [Ib]
 split
 ·rw [PS.mul_c]
  refine Fc fun k _=>?_
  rcases h with h | h
  ·rw [Ip,Qe (by omega),Int.zero_mul]
  ·rw [Ip,Ip,Qe (p:=q) (by omega),Int.mul_zero]
 ·rfl
def Zo4(R:List Int)(l:Int)(i:Nat):List Int:=mk R.length fun t=>if t<i then cf R t*l else cf R t
def Ztx(q R:List Int)(l c:Int)(s i:Nat):List Int:=mk R.length fun t=>cf R t*l-if s≤t∧t<s+i then c*cf q (t-s)else 0
theorem Zks(R:List Int)(l:Int)(i:Nat):(Zo4 R l i).length=R.length:=Xi _ _
theorem Zkr(q R:List Int)(l c:Int)(s i:Nat):(Ztx q R l c s i).length=R.length:=Xi _ _
theorem Zrh(R:List Int)(l:Int):Zo4 R l 0=R:=by
 unfold Zo4
 refine Eq.trans (Iw fun i hi=>?_) (Zhb R)
 rw [if_neg (by omega)]
theorem Zvq{R:List Int}{l:Int}{i:Nat}(h:i<R.length):(Zo4 R l i).getD i 0=cf R i:=by
 unfold Zo4;rw [Zbg h,if_neg (by omega)]
theorem Zvp{R:List Int}{l:Int}{i:Nat}(h:i<R.length):(Zo4 R l i).set i (cf R i*l)=Zo4 R l (i+1):=by
 unfold Zo4
 refine Ziu h (fun t ht hne=>?_) _ (by rw [if_pos (by omega)])
 by_cases h2:t<i
 ·rw [if_pos h2,if_pos (by omega)]
 ·rw [if_neg h2,if_neg (by omega)]
theorem Zpq(q R:List Int)(l c:Int)(s:Nat):Zo4 R l R.length=Ztx q R l c s 0:=by
 unfold Zo4 Ztx
 exact Iw fun i hi=>by rw [if_pos hi,if_neg (by omega),Int.sub_zero]
theorem Zuf{q R:List Int}{l c:Int}{s i:Nat}(h:s+i<R.length):(Ztx q R l c s i).getD (s+i) 0=cf R (s+i)*l:=by
 unfold Ztx;rw [Zbg h,if_neg (by omega),Int.sub_zero]
theorem Zue{q R:List Int}{l c:Int}{s i:Nat}(h:s+i<R.length):(Ztx q R l c s i).set (s+i) (cf R (s+i)*l-c*cf q i)=Ztx q R l c s (i+1):=by
 unfold Ztx
 refine Ziu h (fun t ht hne=>?_) _ (by rw [if_pos (by omega),show s+i-s=i by omega])
 by_cases h2:s≤t∧t<s+i
 ·rw [if_pos h2,if_pos (by omega)]
 ·rw [if_neg h2,if_neg (by omega)]
theorem rest_b{p q:List Int}{j:Nat}(hF:msz p+(p.length-q.length+1)*(msz q+1)≤65536)(hj:j<p.length-q.length+1) :
  (∀t,bl (cf (Oc p q j) t).natAbs≤65536)∧(∀t i,bl (cf (Oc p q j) t*cf q i).natAbs≤65536)∧(∀t i t2 i2,bl (cf (Oc p q j) t*cf q i-cf (Oc p q j) t2*cf q i2).natAbs≤65536):=by
 have h1:=Zdd p q j
 have h2:j*(msz q+1)+(msz q+1)≤(p.length-q.length+1)*(msz q+1):=by rw [←Nat.succ_mul];exact Nat.mul_le_mul_right _ (by omega)
 refine⟨fun t=>by have:=h1 t;omega,fun t i=>?_,fun t i t2 i2=>?_⟩
 ·have:=h1 t;have:=Kn q i;have:=Qb (cf (Oc p q j) t) (cf q i);omega
 ·have:=Ztj (h1 t) (Kn q i) (h1 t2) (Kn q i2);omega
theorem Zlz{p q:List Int}(hF:msz p+(p.length-q.length+1)*(msz q+1)≤65536):Sz 65536 (Oc p q (p.length-q.length+1)):=(Zdd p q _).mono hF
theorem Zbn{p q:List Int}(h:Zcz p q=0):q.length≠0∧(q.length≤p.length→msz p+(p.length-q.length+1)*(msz q+1)≤65536):=by
 unfold Zcz at h
 split at h
 ·omega
 ·refine⟨‹_›,fun hle=>?_⟩
  rw [if_neg (by omega)]at h
  split at h
  ·omega
  ·omega
theorem Zej{p q:List Int}(h:q.length≠0):dlow p q=decide (p.length<q.length):=by
 unfold dlow
 have h2:q≠[]:=fun e=>h (by rw [e];rfl)
 simp [h2]
def Ztz(q R:List Int)(c:Int)(k i:Nat):List Int:=mk R.length fun t=>cf R t-if k≤t∧t<k+i then c*cf q (t-k)else 0
theorem Zkt(q R:List Int)(c:Int)(k i:Nat):(Ztz q R c k i).length=R.length:=Xi _ _
theorem Zsm(q R:List Int)(c:Int)(k:Nat):R=Ztz q R c k 0:=by
 unfold Ztz
 refine Eq.trans (Zhb R).symm (Iw fun i hi=>?_)
 rw [if_neg (by omega),Int.sub_zero]
theorem Zv7{q R:List Int}{c:Int}{k i:Nat}(h:k+i<R.length):(Ztz q R c k i).getD (k+i) 0=cf R (k+i):=by
 unfold Ztz;rw [Zbg h,if_neg (by omega),Int.sub_zero]
theorem Zv6{q R:List Int}{c:Int}{k i:Nat}(h:k+i<R.length):(Ztz q R c k i).set (k+i) (cf R (k+i)-c*cf q i)=Ztz q R c k (i+1):=by
 unfold Ztz
 refine Ziu h (fun t ht hne=>?_) _ (by rw [if_pos (by omega),show k+i-k=i by omega])
 by_cases h2:k≤t∧t<k+i
 ·rw [if_pos h2,if_pos (by omega)]
 ·rw [if_neg h2,if_neg (by omega)]
def Zox(p q:List Int)(j:Nat):List Int:=mk (p.length-q.length+1) fun t=>if p.length-q.length<t+j then Zwe p q t else 0
theorem Bv(p q:List Int)(j:Nat):(Zox p q j).length=p.length-q.length+1:=Xi _ _
theorem Zsq(p q:List Int):List.replicate (p.length-q.length+1) 0=Zox p q 0:=by
 rw [Zqf];unfold Zox
 exact Iw fun i hi=>by rw [if_neg (by omega)]
theorem Zwa{p q:List Int}{j:Nat}(hj:j<p.length-q.length+1):(Zox p q j).set (p.length-q.length-j) (dq q (Of p q j) (p.length-q.length-j))=Zox p q (j+1):=by
 unfold Zox
 refine Ziu (by omega) (fun t ht hne=>?_) _ ?_
 ·by_cases h2:p.length-q.length<t+j
  ·rw [if_pos h2,if_pos (by omega)]
  ·rw [if_neg h2,if_neg (by omega)]
 ·rw [if_pos (by omega)];unfold Zwe;rw [show p.length-q.length-(p.length-q.length-j)=j by omega]
theorem Zcx(p q:List Int):tzl (Zox p q (p.length-q.length+1))=pquo p q:=by
 unfold Zox pquo
 congr 1
 exact Iw fun i hi=>by rw [if_pos (by omega)]
def pdv(p q:List Int):Prop:=p=[]∨(q.length≤p.length∧(∀k,k≤p.length-q.length→Ic p q k)∧tzl (Of p q (p.length-q.length+1))=[])
instance (p q:List Int) (k:Nat):Decidable (Ic p q k):=by unfold Ic;infer_instance
instance (p q:List Int):Decidable (pdv p q):=by unfold pdv;infer_instance
theorem div_b{p q:List Int}{j:Nat}(hF:msz p+(p.length-q.length+1)*(msz q+1)≤65536)(hj:j<p.length-q.length+1)(hx:∀k,p.length-q.length<k+j→k≤p.length-q.length→Ic p q k) :
  (∀t,bl (cf (Of p q j) t).natAbs≤65536)∧(Ic p q (p.length-q.length-j)→bl (dq q (Of p q j) (p.length-q.length-j)).natAbs≤65536∧(∀i,bl (dq q (Of p q j) (p.length-q.length-j)*cf q i).natAbs≤65536)∧
   ∀t i,bl (cf (Of p q j) t-dq q (Of p q j) (p.length-q.length-j)*cf q i).natAbs≤65536):=by
 have h1:=Zdg p q j (by omega) hx
 have h2:j*(msz q+1)+(msz q+1)≤(p.length-q.length+1)*(msz q+1):=by rw [←Nat.succ_mul];exact Nat.mul_le_mul_right _ (by omega)
 refine⟨fun t=>by have:=h1 t;omega,fun he=>?_⟩
 unfold Ic at he
 rw [show p.length-q.length-(p.length-q.length-j)=j by omega]at he
 have h3:bl (dq q (Of p q j) (p.length-q.length-j)).natAbs≤msz p+j*(msz q+1):=Be (Int.dvd_of_emod_eq_zero he) (h1 _)
 have h4:∀i,bl (dq q (Of p q j) (p.length-q.length-j)*cf q i).natAbs≤msz p+j*(msz q+1)+msz q:=fun i=>by
  have:=Qb (dq q (Of p q j) (p.length-q.length-j)) (cf q i);have:=Kn q i;omega
 refine⟨by omega,fun i=>by have:=h4 i;omega,fun t i=>?_⟩
 have:=Ah (cf (Of p q j) t) (dq q (Of p q j) (p.length-q.length-j)*cf q i)
 have:=h4 i
 have:=h1 t
 omega
theorem Zpl{p q:List Int}(hF:msz p+(p.length-q.length+1)*(msz q+1)≤65536)(hx:∀k,k≤p.length-q.length→Ic p q k)(j:Nat):Sz 65536 (Zox p q j):=by
 unfold Zox
 refine Zeb fun t ht=>?_
 split
 ·have h1:=(div_b hF (j:=p.length-q.length-t) (by omega) (fun k _ hk=>hx k hk)).2
  rw [show p.length-q.length-(p.length-q.length-t)=t by omega]at h1
  exact(h1 (hx t (by omega))).1
 ·simp [Lf]
theorem Zuc{p q:List Int}(hF:msz p+(p.length-q.length+1)*(msz q+1)≤65536)(hx:∀k,k≤p.length-q.length→Ic p q k):Sz 65536 (Of p q (p.length-q.length+1)):=
 (Zdg p q _ (Nat.le_refl _) fun k _ hk=>hx k hk).mono hF
def Ho(p:List Int)(a b d:Int):Nat→List Int
 | 0=>[cf p (p.length-1)]
 | j+1=>mk ((Ho p a b d j).length+1) fun t=>cf (Ho p a b d j) t*a+(if t=0 then cf p (p.length-2-j)*d^(j+1)else cf (Ho p a b d j) (t-1)*b)
theorem Gf(p:List Int)(a b d:Int):Ho p a b d 0=[cf p (p.length-1)]:=rfl
theorem Ztb(p:List Int)(a b d:Int)(j:Nat):Ho p a b d (j+1)=mk ((Ho p a b d j).length+1) (fun t=>cf (Ho p a b d j) t*a+(if t=0 then cf p (p.length-2-j)*d^(j+1)else cf (Ho p a b d j) (t-1)*b)):=rfl
theorem Bw(p:List Int)(a b d:Int):∀j,(Ho p a b d j).length=j+1
 | 0=>rfl
 | j+1=>by unfold Ho;rw [Xi,Bw p a b d j]
def Az(p:List Int)(a b d:Int):List Int:=if p.length=0 then []else tzl (Ho p a b d (p.length-1))
def Znn(p:List Int)(a b d:Int):Prop:=p≠[]∧65536<msz p+(p.length-1)*(msz [a,b,d]+1)+8
instance (p:List Int) (a b d:Int):Decidable (Znn p a b d):=by unfold Znn;infer_instance
def Iq(p q:List Int):List Int:=if p=[]then []else pquo p q
theorem Zmi{p q:List Int}(h:p≠[]):Iq p q=pquo p q:=if_neg h
theorem Znj{p q:List Int}{j:Nat}(hj:j≤p.length-q.length):Ic p q (p.length-q.length-j)↔cf (Of p q j) (p.length-q.length-j+q.length-1)%cf q (q.length-1)=0:=by
 unfold Ic;rw [show p.length-q.length-(p.length-q.length-j)=j by omega]
theorem Znq{x y:Int}(hy:y≠0)(hb:bl y.natAbs≤65536):Zf2 (x%y)=x%y:=Ok (Nat.le_trans (Ztk x y hy) hb)
def cnx(c:List Int)(a b:Int)(i:Nat):List Int:=mk (c.length+1) fun t=>if t<i then cf c t*a+(if t=0 then 0 else cf c (t-1)*b)else if t=i∧0<i then cf c (t-1)*b else 0
theorem Ko(c:List Int)(a b:Int)(i:Nat):(cnx c a b i).length=c.length+1:=Xi _ _
theorem Zwi(c:List Int)(a b:Int):List.replicate (c.length+1) 0=cnx c a b 0:=by
 rw [Zqf];unfold cnx
 exact Iw fun i hi=>by rw [if_neg (by omega),if_neg (by omega)]
theorem Zs4{c:List Int}{a b:Int}{i:Nat}(h:i<c.length):(cnx c a b i).getD i 0=if i=0 then 0 else cf c (i-1)*b:=by
 unfold cnx
 rw [Zbg (by omega),if_neg (by omega)]
 by_cases h0:i=0
 ·rw [if_neg (by omega),if_pos h0]
 ·rw [if_pos (by omega),if_neg h0]
theorem cnx_set{c:List Int}{a b:Int}{i:Nat}(h:i<c.length):((cnx c a b i).set i ((cnx c a b i).getD i 0+cf c i*a)).set (i+1) (cf c i*b)=cnx c a b (i+1):=Lq (by simp [Ko]) fun t ht=>by
 rw [List.length_set,List.length_set,Ko]at ht
 rw [Zjb _ _ _ _ (by rw [List.length_set,Ko];omega),Zjb _ _ _ _ (by rw [Ko];omega),Zs4 h]
 unfold cnx
 rw [Ib,Ib,if_pos ht,if_pos ht]
 by_cases h1:t=i+1
 ·subst h1;rw [if_pos rfl,if_neg (by omega),if_pos (by omega),show i+1-1=i by omega]
 ·rw [if_neg h1]
  by_cases h2:t=i
  ·subst h2
   rw [if_pos rfl,if_pos (Nat.lt_succ_self t)]
   split<;>omega
  ·rw [if_neg h2]
   by_cases h3:t<i
   ·simp [h3,show t<i+1 by omega]
   ·simp [h3,h2,h1,show ¬t<i+1 by omega]
theorem Zno{c:List Int}{a b:Int}(h:0<c.length):(cnx c a b c.length).getD 0 0=cf c 0*a:=by
 unfold cnx
 rw [Zbg (by omega),if_pos h,if_pos rfl,Int.add_zero]
theorem cnx_fin{c:List Int}{a b w:Int}(h:0<c.length):(cnx c a b c.length).set 0 ((cnx c a b c.length).getD 0 0+w)=mk (c.length+1) fun t=>cf c t*a+(if t=0 then w else cf c (t-1)*b):=Lq (by simp [Ko,Xi]) fun t ht=>by
 rw [List.length_set,Ko]at ht
 rw [Zjb _ _ _ _ (by rw [Ko];omega),Zno h,Ib,if_pos ht]
 unfold cnx
 rw [Ib,if_pos ht]
 by_cases h1:t=0
 ·rw [if_pos h1,if_pos h1,h1]
 ·rw [if_neg h1,if_neg h1,if_neg h1]
  by_cases h2:t<c.length
  ·rw [if_pos h2]
  ·rw [if_neg h2,if_pos (show t=c.length∧0<c.length by omega),Qe (i:=t) (by omega)];omega
theorem Zgi{p:List Int}{x y z:Int}{A m:Nat}(hp:Sz A p)(hx:bl x.natAbs≤m)(hy:bl y.natAbs≤m)(hz:bl z.natAbs≤m):∀j,Sz (A+j*(m+1)) (Ho p x y z j)
 | 0=>Sz.of_mem fun w hw=>by
  have hw:w∈[cf p (p.length-1)]:=hw
  rw [List.mem_singleton.1 hw];have:=hp (p.length-1);omega
 | j+1=>by
  have ih:=Zgi hp hx hy hz j
  unfold Ho
  refine Zeb fun t ht=>?_
  have h1:=Qb (cf (Ho p x y z j) t) x
  have h2:=ih t
  have e:(j+1)*(m+1)=j*(m+1)+m+1:=by rw [Nat.succ_mul];omega
  split
  ·have h3:=Zht (i:=0) (j:=j+1) (hp (p.length-2-j)) hx hz
   rw [Int.pow_zero,Int.one_mul]at h3
   have h4:(0+(j+1))*m≤j*(m+1)+m:=by rw [Nat.zero_add,Nat.succ_mul];have:j*m≤j*(m+1):=Nat.mul_le_mul_left _ (by omega);omega
   have h5:=Lv (cf (Ho p x y z j) t*x) (cf p (p.length-2-j)*z^(j+1))
   omega
  ·have h3:=Qb (cf (Ho p x y z j) (t-1)) y
   have h4:=ih (t-1)
   have h5:=Lv (cf (Ho p x y z j) t*x) (cf (Ho p x y z j) (t-1)*y)
   omega
section
variable {p:List Int} {x y z:Int} (hF:msz p+(p.length-1)*(msz [x,y,z]+1)+8≤65536) {j:Nat} (hj:j<p.length-1)
include hF hj
theorem cp_all:bl (z^j).natAbs≤65536∧bl (z^(j+1)).natAbs≤65536∧(∀t,bl (cf (Ho p x y z j) t).natAbs≤65536)∧(∀t,bl (cf (Ho p x y z j) t*x).natAbs≤65536)∧(∀t,bl (cf (Ho p x y z j) t*y).natAbs≤65536)∧
  (∀t,bl ((if t=0 then 0 else cf (Ho p x y z j) (t-1)*y)).natAbs≤65536)∧(∀t,bl ((if t=0 then 0 else cf (Ho p x y z j) (t-1)*y)+cf (Ho p x y z j) t*x).natAbs≤65536)∧
  bl (cf p (p.length-2-j)*z^(j+1)).natAbs≤65536∧bl (cf (Ho p x y z j) 0*x+cf p (p.length-2-j)*z^(j+1)).natAbs≤65536:=by
 have hx:bl x.natAbs≤msz [x,y,z]:=by simp only [msz];omega
 have hy:bl y.natAbs≤msz [x,y,z]:=by simp only [msz];omega
 have hz:bl z.natAbs≤msz [x,y,z]:=by simp only [msz];omega
 have hc:=Zgi (Kn p) hx hy hz j
 generalize msz [x,y,z]=m at *
 have e:j*(m+1)+(m+1)≤(p.length-1)*(m+1):=by rw [←Nat.succ_mul];exact Nat.mul_le_mul_right _ (by omega)
 have hjm:j*m≤j*(m+1):=Nat.mul_le_mul_left _ (by omega)
 have h3:=Zht (i:=0) (j:=j+1) (Kn p (p.length-2-j)) hx hz
 rw [Int.pow_zero,Int.one_mul,Nat.zero_add,Nat.succ_mul]at h3
 have hz1:=Dg z hz (j+1) (by omega)
 rw [Nat.succ_mul]at hz1
 have hp0:bl (z^j).natAbs≤65536:=by
  rcases Nat.eq_zero_or_pos j with h | h
  ·rw [h,Int.pow_zero];decide
  ·have:=Dg z hz j h;omega
 have g1:∀t,bl (cf (Ho p x y z j) t*x).natAbs≤msz p+j*(m+1)+m:=fun t=>by have:=Qb (cf (Ho p x y z j) t) x;have:=hc t;omega
 have g2:∀t,bl (cf (Ho p x y z j) t*y).natAbs≤msz p+j*(m+1)+m:=fun t=>by have:=Qb (cf (Ho p x y z j) t) y;have:=hc t;omega
 have g3:∀t,bl ((if t=0 then 0 else cf (Ho p x y z j) (t-1)*y)).natAbs≤msz p+j*(m+1)+m:=fun t=>by
  split
  ·simp [Lf]
  ·exact g2 _
 refine⟨hp0,by omega,fun t=>by have:=hc t;omega,fun t=>by have:=g1 t;omega,fun t=>by have:=g2 t;omega,fun t=>by have:=g3 t;omega,fun t=>?_,by omega,?_⟩
 ·have:=Lv (if t=0 then 0 else cf (Ho p x y z j) (t-1)*y) (cf (Ho p x y z j) t*x)
  have:=g1 t;have:=g3 t;omega
 ·have:=Lv (cf (Ho p x y z j) 0*x) (cf p (p.length-2-j)*z^(j+1))
  have:=g1 0;omega
end
theorem cp_last{p:List Int}{x y z:Int}(hF:msz p+(p.length-1)*(msz [x,y,z]+1)+8≤65536):Sz 65536 (Ho p x y z (p.length-1)):=by
 have hx:bl x.natAbs≤msz [x,y,z]:=by simp only [msz];omega
 have hy:bl y.natAbs≤msz [x,y,z]:=by simp only [msz];omega
 have hz:bl z.natAbs≤msz [x,y,z]:=by simp only [msz];omega
 exact(Zgi (Kn p) hx hy hz _).mono (by omega)
theorem Zec(p q:List Int):(Pz p q).length≤p.length:=by
 unfold Pz
 split
 ·exact Nat.le_refl _
 ·have:=Gp (Oc p q (p.length-q.length+1));rw [Nv]at this;exact this
theorem Am{p q:List Int}(hp:Vp p)(hd:Zcz p q=0):Vp (Pz p q):=by
 have hl:=Zec p q
 refine⟨?_,?_,by have:=hp.len;omega⟩
 ·unfold Pz
  split
  ·exact hp.sz
  ·exact(Zlz ((Zbn hd).2 (by omega))).tzl
 ·unfold Pz
  split
  ·exact hp.tr
  ·exact Om _
def Zov(p q:List Int):Prop:=p.length≠0∧q.length≠0∧65536<(max p.length q.length+2)*(max p.length q.length+2)*(max (msz p) (msz q)+8)
instance (p q:List Int):Decidable (Zov p q):=by unfold Zov;infer_instance
def gA(p q:List Int):List Int:=if p.length<q.length then Xg q else Xg p
def gB(p q:List Int):List Int:=if p.length<q.length then Xg p else Xg q
def eok:Nat→List Int→List Int→Prop
 | 0,_,b=>b=[]
 | f+1,a,b=>b=[]∨(Zcz a b=0∧eok f b (Xg (Pz a b)))
def eu:Nat→List Int→List Int→List Int
 | 0,a,_=>a
 | f+1,a,b=>if b=[]then a else eu f b (Xg (Pz a b))
theorem Zv5{f:Nat}{a b:List Int}(h:eok f a b)(hb:b≠[]):∃g,f=g+1∧Zcz a b=0∧eok g b (Xg (Pz a b))∧eu f a b=eu g b (Xg (Pz a b)):=by
 cases f with
 | zero=>exact absurd h hb
 | succ g=>
  rcases h with h | h
  ·exact absurd h hb
  ·exact⟨g,rfl,h.1,h.2,by show(if b=[]then a else _)=_;rw [if_neg hb]⟩
theorem Zf0(f:Nat)(a:List Int):eu f a []=a:=by cases f<;>rfl
def Gb(g:List Int):List Int:=if g.length≠0∧cf g (g.length-1)<0 then Xr g (-1)else g
def Hc(f:Nat)(p q:List Int):List Int:=Gb (eu f (gA p q) (gB p q))
theorem vp_gA{p q:List Int}(hp:Vp p)(hq:Vp q):Vp (gA p q):=by unfold gA;split<;>exact Ku ‹_›
theorem vp_gB{p q:List Int}(hp:Vp p)(hq:Vp q):Vp (gB p q):=by unfold gB;split<;>exact Ku ‹_›
theorem Ag{p:List Int}(h:Sz 65536 p)(i:Nat):bl (cf p i * -1).natAbs≤65536:=by
 rw [Int.mul_neg,Int.mul_one,Int.natAbs_neg];exact h i
theorem Ph(z:Int):z.sign<0↔z<0:=by
 rcases Int.lt_trichotomy z 0 with h | h | h
 ·rw [Int.sign_eq_neg_one_of_neg h];omega
 ·subst h;simp
 ·rw [Int.sign_eq_one_of_pos h];omega
end Go.Sky
namespace Go.Sky
theorem Zdf{l:List Int}(h:∀x∈l,inI x):Sz 65536 l:=Sz.of_mem fun x hx=>by
 obtain⟨h1,h2⟩:=h x hx
 have:bl x.natAbs≤64:=(Md 64 _).2 (by omega)
 omega
open Go.RowKit (Below)
set_option maxRecDepth 20000
theorem Ni:2≤1000000000:=by decide
theorem Hr:0<1000000000:=by decide
abbrev d9p (v:Value) (x:Nat):Pc:=slp 1 Ab v (dg 1000000000 x)
theorem Hi(x:Nat):(dg 1000000000 x).length≤bl x:=by
 rw [Xy Ni]
 exact Nat.lt_of_lt_of_le (Fj x) (Nat.pow_le_pow_left (by decide) _)
theorem Zpi{b:Nat}(hb:2≤b){o:List Nat}(ho:∀d∈o,d<b){x:Nat}(hv:val b o=x)(h:o.length=0∨b^(o.length-1)≤x):o=dg b x:=by
 rw [←hv,Ky hb o ho]
 have h1:(tz o).length≤o.length:=(Fo o).1
 have h2:o.length≤(tz o).length:=by
  rw [←Ky hb o ho,hv]
  rcases h with h | h
  ·omega
  ·have:=(Oq hb (o.length-1) x).2 h;omega
 have h3:=(Fo o).2
 rw [List.take_of_length_le h2]at h3
 exact h3
theorem Zqw{b:Nat}{o xs ys:List Nat}{k c:Nat}(hl:o.length=k)(h:val b o+c*b^k=val b (xs.take k)+val b (ys.take k)) :
  val b (o ++ [(c+xs.getD k 0+ys.getD k 0)%b])+(c+xs.getD k 0+ys.getD k 0)/b*b^(k+1)=val b (xs.take (k+1))+val b (ys.take (k+1)):=by
 rw [Nh,Qk,Qk,hl]
 have e:=Nat.div_add_mod (c+xs.getD k 0+ys.getD k 0) b
 generalize (c+xs.getD k 0+ys.getD k 0)/b=q at *
 generalize (c+xs.getD k 0+ys.getD k 0)%b=r at *
 simp only [val,Nat.pow_succ]
 generalize b^k=B at *
 have:(b*q+r)*B=(c+xs.getD k 0+ys.getD k 0)*B:=by rw [e]
 grind
def d9s(a b c:Nat):Nat:=if a<b+c then a+1000000000-(b+c)else a-(b+c)
theorem Zsz{a b c:Nat}(ha:a<1000000000)(hb:b<1000000000)(hc:c≤1):d9s a b c<1000000000∧d9s a b c+(b+c)=a+brw a b c*1000000000:=by
 unfold d9s brw
 split<;>omega
theorem Zor{o xs ys:List Nat}{k c:Nat}(hc:c≤1)(hx:xs.getD k 0<1000000000)(hy:ys.getD k 0<1000000000)(hl:o.length=k)(h:val 1000000000 o+val 1000000000 (ys.take k)=val 1000000000 (xs.take k)+c*1000000000^k) :
  val 1000000000 (o ++ [d9s (xs.getD k 0) (ys.getD k 0) c])+val 1000000000 (ys.take (k+1))=val 1000000000 (xs.take (k+1))+brw (xs.getD k 0) (ys.getD k 0) c*1000000000^(k+1):=by
 rw [Nh,Qk,Qk,hl]
 have e:=(Zsz hx hy hc).2
 generalize d9s (xs.getD k 0) (ys.getD k 0) c=r at *
 generalize brw (xs.getD k 0) (ys.getD k 0) c=q at *
 simp only [val,Nat.pow_succ]
 generalize 1000000000^k=B at *
 have:(r+(ys.getD k 0+c))*B=(xs.getD k 0+q*1000000000)*B:=by rw [e]
 grind
theorem Zhw{p:Nat→Prop}{o:List Nat}(h:∀d∈o,p d){x:Nat}(hx:p x):∀d∈o ++ [x],p d:=fun d hd=>by
 rcases List.mem_append.1 hd with h1 | h1
 ·exact h d h1
 ·rw [List.mem_singleton.1 h1];exact hx
theorem Dq{b x k:Nat}(hb:2≤b)(h:k<(dg b x).length):b^k≤x:=(Oq hb k x).1 h
theorem Ig{b x k:Nat}(hb:2≤b)(h:(dg b x).length≤k):val b ((dg b x).take k)=x:=by rw [Nd _ _ _ h,Mw hb]
theorem Zjq{a b o c:Nat}(ha:a<1000000000)(hb:b<1000000000)(ho:o<1000000000)(hc:c<1000000000):(o+c+a*b)/1000000000<1000000000∧o+c+a*b≤9223372036854775807:=by
 have h:a*b≤999999999*999999999:=Nat.mul_le_mul (by omega) (by omega)
 refine⟨?_,by omega⟩
 rw [Nat.div_lt_iff_lt_mul Hr];omega
theorem Zn9{o xs ys:List Nat}{i k c V:Nat}(h:val 1000000000 o+c*1000000000^(i+k)=V+xs.getD i 0*1000000000^i*val 1000000000 (ys.take k))(hp:i+k<o.length) :
  val 1000000000 (o.set (i+k) ((o.getD (i+k) 0+c+xs.getD i 0*ys.getD k 0)%1000000000))+(o.getD (i+k) 0+c+xs.getD i 0*ys.getD k 0)/1000000000*1000000000^(i+(k+1))=V+xs.getD i 0*1000000000^i*val 1000000000 (ys.take (k+1)):=by
 have h1:=Zge 1000000000 o o.length (i+k) ((o.getD (i+k) 0+c+xs.getD i 0*ys.getD k 0)%1000000000) hp hp
 rw [List.take_of_length_le (by rw [List.length_set];exact Nat.le_refl _),List.take_of_length_le (Nat.le_refl _)]at h1
 rw [Qk]
 have e:=Nat.div_add_mod (o.getD (i+k) 0+c+xs.getD i 0*ys.getD k 0) 1000000000
 generalize (o.getD (i+k) 0+c+xs.getD i 0*ys.getD k 0)/1000000000=q at *
 generalize (o.getD (i+k) 0+c+xs.getD i 0*ys.getD k 0)%1000000000=r at *
 generalize val 1000000000 (o.set (i+k) r)=W at *
 rw [show i+(k+1)=(i+k)+1 by omega,Nat.pow_succ]
 have e2:1000000000^(i+k)=1000000000^i*1000000000^k:=Nat.pow_add _ _ _
 rw [e2]at h h1 ⊢
 generalize 1000000000^i=A at *
 generalize 1000000000^k=B at *
 have h3:(1000000000*q+r)*(A*B)=(o.getD (i+k) 0+c+xs.getD i 0*ys.getD k 0)*(A*B):=by rw [e]
 simp only [Nat.add_mul]at h3
 have t1:q*(A*B*1000000000)=1000000000*q*(A*B):=by grind
 have t2:xs.getD i 0*A*(val 1000000000 (ys.take k)+ys.getD k 0*B)=xs.getD i 0*A*val 1000000000 (ys.take k)+xs.getD i 0*ys.getD k 0*(A*B):=by grind
 rw [t1,t2]
 omega
def cmpI(x y:Nat):Int:=if x<y then -1 else if y<x then 1 else 0
section
variable {P:Program} {N:Nat} {sc:Nat→Prop} {env env':Env} {H H':Hp} {Q Q':Exit→Act→World→Prop} {M:Nat→Prop}
variable {o:Oper} {t t':TypeId} {x y:Operand} {m n:Nat}
theorem Zkl(ho:o.op= .binOp .add t x y t')(hx:ev env x=some (.int .i64 (m:Int)))(hy:ev env y=some (.int .i64 (n:Int)))(h:m+n≤9223372036854775807):Det P N sc o env H (.int .i64 ((m+n:Nat):Int)):=by
 have:=Yu (P:=P) (N:=N) (sc:=sc) (H:=H) ho hx hy ⟨by omega,by omega⟩
 rwa [←Int.natCast_add]at this
theorem n_mul(ho:o.op= .binOp .mul t x y t')(hx:ev env x=some (.int .i64 (m:Int)))(hy:ev env y=some (.int .i64 (n:Int)))(h:m*n≤9223372036854775807):Det P N sc o env H (.int .i64 ((m*n:Nat):Int)):=by
 have:=Cf (P:=P) (N:=N) (sc:=sc) (H:=H) ho hx hy (by rw [←Int.natCast_mul];exact⟨by omega,by omega⟩)
 rwa [←Int.natCast_mul]at this
theorem Zoq(ho:o.op= .binOp .quo t x y t')(hx:ev env x=some (.int .i64 (m:Int)))(hy:ev env y=some (.int .i64 (n:Int)))(h:m≤9223372036854775807)(hn:0<n):Det P N sc o env H (.int .i64 ((m/n:Nat):Int)):=by
 have:=Zk9 (P:=P) (N:=N) (sc:=sc) (H:=H) ho hx hy   
 rwa [←Int.natCast_ediv]at this
theorem Zrf(ho:o.op= .binOp .rem t x y t')(hx:ev env x=some (.int .i64 (m:Int)))(hy:ev env y=some (.int .i64 (n:Int)))(hn:0<n):Det P N sc o env H (.int .i64 ((m%n:Nat):Int)):=by
 have:=Zk8 (P:=P) (N:=N) (sc:=sc) (H:=H) ho hx hy  
 rwa [←Int.natCast_emod]at this
end
end Go.Sky
namespace Go.Sky
theorem Zam{l:List Nat}{i:Nat}(h:l.length≤i):l.getD i 0=0:=by simp [List.getD,List.getElem?_eq_none h]
theorem Zk6{b x y:Nat}(hb:2≤b)(h:x≤y):(dg b x).length≤(dg b y).length:=by
 rcases Nat.lt_or_ge (dg b y).length (dg b x).length with h1 | h1
 ·have:=Ce hb h1;omega
 ·exact h1
theorem Zwd{b n:Nat}(hb:2≤b)(h:n<b)(h0:n≠0):dg b n=[n]:=by
 rw [Zb8 hb (by omega),Nat.mod_eq_of_lt h,Nat.div_eq_of_lt h,Iu]
theorem Zs5{a b:Nat} : 0≤cmpI a b↔b≤a:=by unfold cmpI;split<;>(try split)<;>omega
theorem Znu{y n:Nat}(hn:n<1000000000):bl (y*n)≤bl y+30:=by
 have h3:=Znx y n
 have h4:bl n≤30:=(Md 30 _).2 (by omega)
 omega
theorem Zi5{q:List Nat}{k d:Nat}(hk:0<k)(h:k≤q.length):val 1000000000 ((q.set (k-1) d).drop (k-1))=d+1000000000*val 1000000000 (q.drop k):=by
 rw [drop_set _ _ _ (by omega),show k-1+1=k by omega];rfl
theorem tz_one{b n:Nat}(hb:2≤b)(h:n<b):tz [n]=dg b n:=by
 have:=Ky hb [n] (by simpa using h)
 simpa [val]using this.symm
theorem Zlx{m:Nat}(h:m<9223372036854775809):tz [m%1000000000,m/1000000000%1000000000,m/1000000000/1000000000]=dg 1000000000 m:=by
 rw [←Ky Ni [m%1000000000,m/1000000000%1000000000,m/1000000000/1000000000] (by intro d hd;simp at hd;omega)]
 congr 1
 simp only [val]
 omega
theorem sign9{x:Int}(h:(((dg 1000000000 x.natAbs).length:Nat):Int)=0):Value.int .i64 x.sign= .int .i64 0:=by
 have h1:=(Po Ni x.natAbs).1 (by omega)
 have:x=0:=by omega
 subst this;rfl
theorem Zm0{x:Nat}(h:¬(((dg 1000000000 x).length:Nat):Int)=0):0<x:=by
 rcases Nat.eq_zero_or_pos x with h1 | h1
 ·subst h1;simp [Iu]at h
 ·exact h1
theorem made_b{s:Bool}{n:Nat}{z:Int}(hn:n=z.natAbs)(hs:sg s z):(s && decide (0<n))=decide (z<0):=by
 subst hn
 cases s
 ·have:=hs.2 rfl;rw [Bool.false_and,decide_eq_false (by omega)]
 ·have:=hs.1 rfl;rw [Bool.true_and,decide_eq_decide];omega
theorem Zmz(n:Nat):decide ((0:Int)<(((dg 1000000000 n).length:Nat):Int))=decide (0<n):=by
 rw [decide_eq_decide]
 have:=Po Ni n
 omega
theorem beq_dec{a b:Bool}(h:(a == b)=true):a=b:=by simpa using h
section
variable {P:Program} {N:Nat} {sc:Nat→Prop} {env env':Env} {H H':Hp} {Q Q':Exit→Act→World→Prop} {M:Nat→Prop}
variable {o:Oper} {t t':TypeId} {x y:Operand} {m n:Nat}
theorem Zq9(ho:o.op= .binOp .quo t x y t')(hx:ev env x=some (.int .i64 (-(m:Int))))(hy:ev env y=some (.int .i64 (n:Int)))(h:m≤9223372036854775808)(hn:1<n):Det P N sc o env H (.int .i64 (-((m/n:Nat):Int))):=Eh ho hx hy fun w=>by
 have h1:(-(m:Int)).tdiv (n:Int)=-((m/n:Nat):Int):=by rw [Int.neg_tdiv,Int.ofNat_tdiv]
 have h2:m/n≤9223372036854775807:=by
  have:=Nat.div_le_div_left (show 2≤n from hn) (by omega:0<2) (a:=m)
  omega
 generalize m/n=q at *
 have hw:inI (-(q:Int)):=⟨by omega,by omega⟩
 simp [binOp,Op.intDiv,h1,Zbq hw];omega
theorem nn_rem(ho:o.op= .binOp .rem t x y t')(hx:ev env x=some (.int .i64 (-(m:Int))))(hy:ev env y=some (.int .i64 (n:Int)))(hn:0<n):Det P N sc o env H (.int .i64 (-((m%n:Nat):Int))):=Eh ho hx hy fun w=>by
 have h1:(-(m:Int)).tmod (n:Int)=-((m%n:Nat):Int):=by rw [Int.neg_tmod,Int.ofNat_tmod]
 simp [binOp,Op.intDiv,h1];omega
theorem n_neg(ho:o.op= .unOp .neg t x)(hx:ev env x=some (.int .i64 (-(m:Int))))(h:m≤9223372036854775807):Det P N sc o env H (.int .i64 (m:Int)):=fun a w hs=>by
 have hw:inI (m:Int):=⟨by omega,by omega⟩
 simp [execOp,ho,hs.ev hx,Op.unary,Op.intArith,Zbq hw]
end
end Go.Sky
namespace Go.Sky
theorem Zr2(n:Nat):n/256^((dg 256 n).length-0)=0:=Nat.div_eq_of_lt ((Xy (by omega) _ n).1 (by omega))
theorem Zi2{n i:Nat}(h:i<(dg 256 n).length):n/256^((dg 256 n).length-i)*256+n/256^((dg 256 n).length-1-i)%256=n/256^((dg 256 n).length-(i+1)):=by
 rw [show(dg 256 n).length-1-i=(dg 256 n).length-(i+1) by omega]
 have h2:n/256^((dg 256 n).length-i)=n/256^((dg 256 n).length-(i+1))/256:=by
  rw [Nat.div_div_eq_div_mul,←Nat.pow_succ,show((dg 256 n).length-(i+1)).succ=(dg 256 n).length-i by omega]
 rw [h2,Nat.mul_comm];exact Nat.div_add_mod _ _
theorem to_step{p xs:List Nat}{k r:Nat}(hk:0<k)(hp:k≤p.length)(hx:k≤xs.length)(hv:val 1000000000 (p.drop k)*256+r=val 1000000000 (xs.drop k)) :
  val 1000000000 ((p.set (k-1) ((r*1000000000+xs.getD (k-1) 0)/256)).drop (k-1))*256+(r*1000000000+xs.getD (k-1) 0)%256=val 1000000000 (xs.drop (k-1)):=by
 rw [Zi5 hk hp,Zcw 0 xs (k-1) (by omega),show k-1+1=k by omega]
 simp only [val]
 have e:=Nat.div_add_mod (r*1000000000+xs.getD (k-1) 0) 256
 generalize (r*1000000000+xs.getD (k-1) 0)/256=q at *
 generalize (r*1000000000+xs.getD (k-1) 0)%256=s at *
 generalize val 1000000000 (p.drop k)=A at *
 generalize val 1000000000 (xs.drop k)=B at *
 rw [←hv,Nat.add_mul,Nat.mul_add,Nat.mul_assoc 1000000000 A 256]
 generalize 1000000000*(A*256)=Z
 clear hv
 omega
theorem Zt7{r a:Nat}(hr:r<256)(ha:a<1000000000):(r*1000000000+a)/256<1000000000:=by
 have h:r*1000000000+a<256*1000000000:=by
  have h1:r*1000000000≤255*1000000000:=Nat.mul_le_mul_right _ (by omega)
  omega
 exact Nat.div_lt_of_lt_mul h
theorem to_push{bs:List Nat}{m n:Nat}(hv:val 256 bs+256^bs.length*m=n):val 256 (bs ++ [m%256])+256^(bs ++ [m%256]).length*(m/256)=n:=by
 rw [Nh,List.length_append]
 simp only [val,List.length_cons,List.length_nil,Nat.pow_succ,Nat.zero_add,Nat.mul_zero,Nat.add_zero,Nat.pow_zero,Nat.mul_one]
 have e:=Nat.div_add_mod m 256
 generalize m/256=q at *
 generalize m%256=s at *
 rw [←hv,←e]
 generalize 256^bs.length=P at *
 grind
theorem to_ge{bs:List Nat}{m n:Nat}(hv:val 256 bs+256^bs.length*m=n)(hm:0<m):256^bs.length≤n:=by
 have:=Nat.le_mul_of_pos_right (256^bs.length) hm
 omega
theorem to_len{bs:List Nat}{n:Nat}(h:256^bs.length≤n):bs.length≤bl n:=by
 have h1:=Dq (b:=256) (x:=n) (k:=bs.length) (by omega) ((Oq (by omega) _ _).2 h)
 have h2:=(Oq (by omega:2≤256) bs.length n).2 h
 have h3:=Zed n
 omega
theorem Zv9{bs:List Nat}{k:Nat}(hk:0<k)(h:k≤bs.length):(bs.drop k).reverse ++ [bs.getD (k-1) 0]=(bs.drop (k-1)).reverse:=by
 rw [Zcw 0 bs (k-1) (by omega),show k-1+1=k by omega];simp
theorem bstr_bs{bs:List Nat}{n:Nat}(h:bs=dg 256 n):(⟨((bs.drop 0).reverse.map UInt8.ofNat).toArray⟩:ByteArray)=Qc n:=by rw [h,List.drop_zero];rfl
def Zqq(a b:Int):Prop:=65536<bl a.natAbs∨65536<bl b.natAbs
instance (a b:Int):Decidable (Zqq a b):=by unfold Zqq;infer_instance
def qn(a b:Int):Int:=if Zqq a b then 0 else a
def qd(a b:Int):Int:=if Zqq a b then 0 else b
def qe(a b:Int):Int:=if Zqq a b then 7 else 0
theorem lgcd_ge{x y:Int}(h:¬y<0):Ga x y=(Int.gcd x y:Int):=if_neg h
open Go.RowKit (Below)
variable {P:Program} {N:Nat} {sc:Nat→Prop} {env env':Env} {H H':Hp} {Q Q':Exit→Act→World→Prop} {M:Nat→Prop}
abbrev Zeg (w:Bool×ByteArray):Value:= .agg #[.bool w.1,.string w.2]
abbrev Zk3 (z:Int×SL):Value:= .agg #[.bool (decide (z.1<0)),svv z.2]
abbrev Zaz {α:Type} (z:SL×α):Value:=svv z.1
abbrev qI (z:Int×SL):Pc:=d9p (svv z.2) z.1.natAbs
abbrev pp (v:Value) (zs:List (Int×SL)):Pc:=Zan 2 Zk3 qI v zs
abbrev Oz (zs:List (Int×SL)):List Int:=zs.map Prod.fst
abbrev I0:Int×SL:=(0,none,0,0)
theorem Yz(zs:List (Int×SL)):(Oz zs).length=zs.length:=by simp
theorem Zeq(zs:List (Int×SL))(i:Nat):(zs.getD i I0).1=cf (Oz zs) i:=by
 simp only [cf,List.getD,Oz,List.getElem?_map]
 cases zs[i]?<;>rfl
theorem Zmh{β:Type}{k:Nat}{enc:β→Value}{q:β→Pc}{v:Value}{zs:List β}{al:Bool}{r:List Pc}{z:β}(i:Nat)(hi:lk H i=some (Zan k enc q v zs))(hi0:Nat.beq i 0=false)(hz:z∈zs)(h:PreOk H al r):PreOk H al (q z :: r):=
 ⟨⟨i,_,fun e=>by subst e;simp at hi0,hi,fun w h=>h.2 z hz,fun b hb=> .inr ⟨z,hz,hb⟩,fun _=>rfl⟩,h⟩
theorem Zrz{β:Type}{k:Nat}{enc:β→Value}{q:β→Pc}{v:Value}{zs:List β}{r:List Pc}{z:β}(i:Nat)(hi:lk H i=some (Zan k enc q v zs))(hi0:Nat.beq i 0=false)(hz:z∈zs)(hq:(q z).own=false)(h:Give H true r):Give H true (q z :: r):=
 ⟨⟨hq,.inl ⟨i,_,fun e=>by subst e;simp at hi0,hi,fun w h=>h.2 z hz,fun b hb=> .inr ⟨z,hz,hb⟩,fun h=>by cases h⟩⟩,h⟩
theorem Zp7{β:Type}{k:Nat}{enc:β→Value}{q:β→Pc}{v:Value}{zs:List β}(i j n:Nat)(hi:lk H i=some (Zan k enc q v zs))(hi0:Nat.beq i 0=false)(hn:n≤zs.length):∀a w,Sat N sc env H a w→Sat N sc env ((j,Zan k enc q (Fl v n) (zs.take n)) :: H) a w:=
 Zp6 i j hi hi0 rfl (fun w h=>⟨⟨Au n hn h.1.1,fun b hb=>h.1.2 b (by rw [Oy]at hb;exact hb)⟩,fun z hz=>h.2 z (List.mem_of_mem_take hz)⟩) (fun b hb=>by
  rcases hb with hb | ⟨z,hz,hb⟩
  ·left;rw [Oy]at hb;exact hb
  ·right;exact⟨z,List.mem_of_mem_take hz,hb⟩) rfl
theorem Ztu{ops:Array Oper}{ts:List Nat}{n:Nat}{listed:Array Bool}{α:Type}{p:α→Prop}(hp:∀a w,Sat N sc env H a w→∃x,p x)(h:∀x,p x→A P N sc M ops ts Q n listed env H):A P N sc M ops ts Q n listed env H:=fun a w hs=>by
 obtain⟨x,hx⟩:=hp a w hs
 exact h x hx a w hs
theorem Zfj(i:Nat):∀a w,Sat N sc env H a w→Sat N sc env ((i,pp (.slice none 0 0) []) :: H) a w:=fun a w hs=>
 hs.add i _ ⟨Zac 2 Zk3 w,fun z hz=>by cases hz⟩ (fun j' jt _ _ hor b hb hb'=>by
  rcases hb with hb | ⟨z,hz,_⟩
  ·cases hb
  ·cases hz) (fun b hb=>by
  rcases hb with hb | ⟨z,hz,_⟩
  ·cases hb
  ·cases hz)
theorem Zkz{β:Type}{k:Nat}{enc:β→Value}{q:β→Pc}{v:Value}{zs:List β}(i:Nat)(hi:lk H i=some (Zan k enc q v zs)):∀a w,Sat N sc env H a w→Fl v zs.length=v:=fun a w hs=>by
 obtain⟨ad,c,h,_⟩:=(hs.hold i _ hi).1.1
 rw [h];rfl
theorem Zdc(zs:List (Int×SL))(k:Nat):Oz (zs.take k)=(Oz zs).take k:=by simp [Oz,List.map_take]
theorem Zqs{v:Value}{zs:List (Int×SL)}{al:Bool}{r:List Pc}{z:Int×SL}(i:Nat)(hi:lk H i=some (pp v zs))(hi0:Nat.beq i 0=false)(hz:z∈zs)(h:PreOk H al r):PreOk H al (d9p (svv z.2) z.1.natAbs :: r):=Zmh (q:=qI) (z:=z) i hi hi0 hz h
theorem give_dI{v:Value}{zs:List (Int×SL)}{r:List Pc}{z:Int×SL}{p:Pc}(i:Nat)(hi:lk H i=some (pp v zs))(hi0:Nat.beq i 0=false)(hz:z∈zs)(he:d9p (svv z.2) z.1.natAbs=p)(h:Give H true r):Give H true (p :: r):=by
 subst he;exact Zrz (q:=qI) (z:=z) i hi hi0 hz rfl h
def eaf(v:Value)(i k q:Nat):Addr:=(ead v i k).add q
theorem d_fae {α:Type} {o:Oper} {x:Operand} {t:TypeId} {f:Nat} {fs:Array Field} {fd:Field} {k k1 i ii q:Nat} {v:Value} {p:Pc} {enc:α→Value} {xs:List α} (ho:o.op= .fieldAddr t x f)
  (hx:ev env x=some (.pointer (some (ead v i k)))) (hH:lk H ii=some p) (hr:Rd p k enc v xs) (hlt:i<xs.length) (ht:P.underlying t=some (.struct fs)) (hf:fs[f]? = some fd) (hk:∀w,(sizeOf fd.type).run P w= .ok (k1+1) w) (hq:fd.offset=q) :
  Det P N sc o env H (.pointer (some (eaf v i k q))):=fun a w hs=>by
 obtain⟨ad,c,rfl,h1,h2,h3⟩:=hr w (hs.hold ii p hH)
 rcases h3 with rfl | ⟨g,off,rfl,h3⟩
 ·simp at hlt
 ·subst hq
  simp only [ead,Nw]at hx
  simp [execOp,ho,hs.ev hx,Instr.fieldAt,run_underlying ht,hf,Instr.sureAddr,fieldPlace,hk,Nw,eaf,ead]
theorem d_ldf {α:Type} {o:Oper} {x:Operand} {t:TypeId} {k i ii q:Nat} {v u:Value} {p:Pc} {enc:α→Value} {xs:List α} (d0:α) (ho:o.op= .load t x)
  (hx:ev env x=some (.pointer (some (eaf v i k q)))) (hH:lk H ii=some p) (hr:Rd p k enc v xs) (hlt:i<xs.length) (ha:∀w,(isAgg t).run P w= .ok false w) (hu:(enc (xs.getD i d0)).cells.toList[q]? = some u):Det P N sc o env H u:=fun a w hs=>by
 obtain⟨ad,c,rfl,h1,h2,h3⟩:=hr w (hs.hold ii p hH)
 rcases h3 with rfl | ⟨g,off,rfl,h3⟩
 ·simp at hlt
 ·have hi:xs[i]? = some (xs.getD i d0):=by simp [List.getD,List.getElem?_eq_getElem hlt]
  have h:=h3 i _ hi q u hu
  simp only [eaf,ead,Nw]at hx
  simp [execOp,ho,hs.ev hx,Instr.loadAt,Instr.sureAddr,loadVar,ha,load,Sem.run,h]
end Go.Sky
namespace Go.Sky
abbrev rq (z:Int×Int):Value:= .agg #[.bool (decide (z.1<0)),.string (Qc z.1.natAbs),.bool (decide (z.2<0)),.string (Qc z.2.natAbs)]
abbrev encQ (z:(Bool×ByteArray)×(Bool×ByteArray)):Value:= .agg #[.bool z.1.1,.string z.1.2,.bool z.2.1,.string z.2.2]
theorem Zs{P:Program}{N:Nat}{sc:Nat→Prop}{o:Oper}{env:Env}{H:Hp}{r r':Value}(h:Det P N sc o env H r)(e:r=r'):Det P N sc o env H r':=e▸h
open Go.RowKit (Below)
variable {P:Program} {N:Nat} {sc:Nat→Prop} {env env':Env} {H H':Hp} {Q Q':Exit→Act→World→Prop} {M:Nat→Prop}
theorem d_mkc{o:Oper}{f:FuncId}{xs ys:List Operand}{vs us:List Value}(ho:o.op= .makeFunc (.func f) xs.toArray ys.toArray)(hv:EvL env xs vs)(hu:EvL env ys us):Det P N sc o env H (.func (.func f) vs.toArray us.toArray):=fun a w hs=>by
 have hm:=hv.map hs
 have hn:=hu.map hs
 simp [execOp,ho,Instr.makeFunc,hm,hn]
theorem Zgu {a:Act} {w:World} (hs:Sat N sc env H a w) {o:Oper} {f:FuncId} {c:Operand} {xs:List Operand} {ats:Array TypeId} {fs vs us:List Value} (ho:o.op= .call { callee:= .value c,args:=xs.toArray,argTypes:=ats })
  (hc:ev env c=some (.func (.func f) fs.toArray us.toArray)) (hargs:EvL env xs vs):(execOp a.eval o).run P w=(callFunc f (fs ++ vs ++ us).toArray).run P w:=by
 have hm:=hargs.map hs
 simp [execOp,ho,resolve,invoke,hs.ev hc,Deferred.ofValue,hm]
theorem Ow{b:Nat}{t:TypeId}{cs:Array Value}{r:List Pc}(i:Nat)(hi:lk H i=some (box b t cs))(hi0:Nat.beq i 0=false)(h:PreOk H false r):PreOk H false (Zfo b t cs :: r):=
 ⟨⟨i,_,fun e=>by subst e;simp at hi0,hi,fun w h=>h,fun b hb=>hb,fun h=>by cases h⟩,h⟩
theorem Sat.rboxc{a:Act}{w:World}(hs:Sat N sc env H a w){i b:Nat}{t:TypeId}{cs:Array Value}(hH:lk H i=some (Zfo b t cs))(j:Nat):w.cell? ⟨b,j,none⟩=cs[j]?:=by
 have h:w.heap[b]? = some (.cells cs t (0,0)):=hs.hold i _ hH
 simp [World.cell?,h]
theorem d_lra {o:Oper} {x:Operand} {t tb:TypeId} {i b j k:Nat} {cs:Array Value} {vs:List Value} (ho:o.op= .load t x)
  (hx:ev env x=some (.pointer (some ⟨b,j,none⟩))) (hH:lk H i=some (Zfo b tb cs)) (ht:∀w,(isAgg t).run P w= .ok true w) (hk:∀w,(sizeOf t).run P w= .ok k w)
  (hl:vs.length=k) (hv:∀n u,vs[n]? = some u→cs[j+n]? = some u):Det P N sc o env H (.agg vs.toArray):=fun a w hs=>by
 have hr:=run_loadCells_list (P:=P) w ⟨b,j,none⟩ vs (fun n u hu=>by rw [Nw,hs.rboxc hH];exact hv n u hu)
 rw [hl]at hr
 simp [execOp,ho,hs.ev hx,Instr.loadAt,Instr.sureAddr,loadVar,ht,hk,hr]
theorem d_negi{o:Oper}{t:TypeId}{x:Operand}{m:Int}(ho:o.op= .unOp .neg t x)(hx:ev env x=some (.int .i64 m))(h:inI (-m)):Det P N sc o env H (.int .i64 (-m)):=fun a w hs=>by
 simp [execOp,ho,hs.ev hx,Op.unary,Op.intArith,Zbq h]
theorem fill24(u0 u1 u2 u3 a0 a1 a2 a3 b0 b1 b2 b3:Value):Instr.fill (fun i=>some (i*4,4)) ((List.range (2*4)).map ((Value.agg #[u0,u1,u2,u3]).cells[· % (Value.agg #[u0,u1,u2,u3]).cells.size]!)).toArray [(0,.agg #[a0,a1,a2,a3]),(1,.agg #[b0,b1,b2,b3])]=some #[a0,a1,a2,a3,b0,b1,b2,b3]:=by
 simp [Instr.fill,Value.cells,List.range,List.range.loop]
 try rfl
theorem Zm8(u0 u1 u2 u3 a0 a1 a2 a3 b0 b1 b2 b3 c0 c1 c2 c3:Value):Instr.fill (fun i=>some (i*4,4)) ((List.range (3*4)).map ((Value.agg #[u0,u1,u2,u3]).cells[· % (Value.agg #[u0,u1,u2,u3]).cells.size]!)).toArray [(0,.agg #[a0,a1,a2,a3]),(1,.agg #[b0,b1,b2,b3]),(2,.agg #[c0,c1,c2,c3])]=some #[a0,a1,a2,a3,b0,b1,b2,b3,c0,c1,c2,c3]:=by
 simp [Instr.fill,Value.cells,List.range,List.range.loop]
 try rfl
end Go.Sky
namespace Go.Sky
open Go.RowKit (Below)
variable {P:Program} {N:Nat} {sc:Nat→Prop} {env env':Env} {H H':Hp} {Q Q':Exit→Act→World→Prop} {M:Nat→Prop}
abbrev iq (z:(Int×Int)×(Int×Int)):Value:= .agg #[.bool (decide (z.1.1<0)),.string (Qc z.1.1.natAbs),.bool (decide (z.1.2<0)),.string (Qc z.1.2.natAbs),.bool (decide (z.2.1<0)),.string (Qc z.2.1.natAbs),.bool (decide (z.2.2<0)),.string (Qc z.2.2.natAbs)]
def CalP(P:Program)(f:FuncId)(args:Array Value)(pre:List Pc)(p:Pc){G:Type}(φ:G→Prop)(val:G→Value)(q:G→Pc):Prop:=
 ∀w,(∀r∈pre,r.holds w∧∀k,p.fp k→¬r.fp k)→p.holds w→Calls P f args w fun e w'=>∃g,e= .returned (val g)∧φ g∧Chg p.fp w w'∧(q g).holds w'∧∀k,(q g).fp k→p.fp k∨w.heap.size≤k
theorem Za3 {o:Oper} {f:FuncId} {c:Operand} {xs:List Operand} {ats:Array TypeId} {d i:Nat} {p:Pc} {fs vs us:List Value} {pre:List Pc} {G:Type} {φ:G→Prop} {val:G→Value} {q:G→Pc} {w0:World} {M0:Nat→Prop}
  (hc:CalP P f (fs ++ vs ++ us).toArray pre p φ val q)
  (ho:o.op= .call { callee:= .value c,args:=xs.toArray,argTypes:=ats }) (hcv:ev env c=some (.func (.func f) fs.toArray us.toArray)) (hd:o.dst=some d) (hN:Nat.blt d N=true)
  (hargs:EvL env xs vs) (hcall:∀args w,(callFunc f args).run P w= .ok (.enter f args) w) (hH:lk H i=some p) (hown:p.own=true) (hi0:i≠0) (hpre:PreOk (drp i H) false pre)
  (h0:lk H 0=some (Ix w0 M0)) (hw:∀b,w0.heap.size≤b→sc b) (hM:∀b,p.fp b→M b) :
  T P N sc M o env H φ (fun g=>(d,val g) :: env) (fun g=>(i,q g) :: H):=fun a w hs K Q hK=>by
 have hr:(execOp a.eval o).run P w= .ok (.enter f (fs ++ vs ++ us).toArray) w:=by rw [Zgu hs ho hcv hargs,hcall]
 unfold Oper.wp
 rw [hr]
 refine(hc w (fun r hp=>by
  obtain⟨j,it,_,hj,himp,hfp,_⟩:=hpre.mem r hp
  obtain⟨hne,hj⟩:=Eb _ _ _ _ hj
  exact⟨himp w (hs.hold j it hj),fun k hk hb=>hs.sep i j _ it (Ne.symm hne) hH hj hown k hk (hfp k hb)⟩) (hs.hold i _ hH)).mono ?_
 rintro e w' ⟨g,rfl,hg,hchg,hq,hfp⟩
 show K (a.put o.dst (val g)) w'
 rw [hd]
 exact hK g _ _ hg (Sat.put (hs.upd hH hown hi0 hchg hq hfp h0 hw) d _ hN) ⟨hchg.os,hchg.tape,hchg.output,hchg.size,fun k hk hn=>hchg.block k hk (fun e=>hn (hM k e))⟩
def FPostP(P:Program)(fn:Func)(w0:World)(p:Pc){G:Type}(φ:G→Prop)(val:G→Value)(q:G→Pc):Exit→Act→World→Prop:=
 bodyPost P fn fun e w'=>∃g,e= .returned (val g)∧φ g∧Chg p.fp w0 w'∧(q g).holds w'∧∀k,(q g).fp k→p.fp k∨w0.heap.size≤k
theorem Zhq {f:FuncId} {fn:Func} {c:Code} {vs:List Value} {pre:List Pc} {p:Pc} {G:Type} {φ:G→Prop} {val:G→Value} {q:G→Pc} {N:Nat}
  (hf:P.funcs[f]? = some fn) (hb:fn.body=some c) (hN:fn.ntmps=N) (hle:Nat.ble vs.length N=true) (hro:AllRo pre)
  (h:∀w0 (sc:Nat→Prop),(∀k,w0.heap.size≤k→sc k)→(∀k,sc k→w0.heap.size≤k∨p.fp k∨∃q∈pre,q.fp k)→
   E P N sc c (FPostP P fn w0 p φ val q) (Zq 0 vs) ((0,Ix w0 p.fp) :: (1,p) :: Zp 2 pre)) :
  CalP P f vs.toArray pre p φ val q:=fun w hp hbx=>by
 refine calls_of_wp hf hb (h w (fun k=>w.heap.size≤k∨p.fp k∨∃q∈pre,q.fp k) (fun k hk=> .inl hk) (fun k hk=>hk) _ w ?_)
 have hle:vs.length≤N:=by simpa using hle
 have hpre:∀i r,lk ((0,Ix w p.fp) :: (1,p) :: Zp 2 pre) i=some r→(i=0∧r=Ix w p.fp)∨(i=1∧r=p)∨(i≠0∧i≠1∧r∈pre∧r.own=false):=fun i r hi=>by
   by_cases h0:0=i
   ·subst h0;rw [Xz]at hi;cases hi;exact .inl ⟨rfl,rfl⟩
   ·rw [Xd _ _ h0]at hi
    by_cases h1:1=i
    ·subst h1;rw [Xz]at hi;cases hi;exact .inr (.inl ⟨rfl,rfl⟩)
    ·rw [Xd _ _ h1]at hi
     obtain⟨_,hm⟩:=Fz pre 2 i r hi
     exact .inr (.inr ⟨fun e=>h0 e.symm,fun e=>h1 e.symm,hm,hro.mem r hm⟩)
 refine⟨by simp [hN];omega,rfl,fun t v ht=>?_,fun i r hi=>?_,fun i j r r' hne hi hj ho k hk hk'=>?_,fun i r hi0 hi k hk=>?_⟩
 ·have h1:vs.toArray[t]? = some v:=by simpa using(Ea vs 0 t v ht).2
  have hlt:=(Array.getElem?_eq_some_iff.1 h1).1
  rw [Array.getD_eq_getD_getElem?,Array.getElem?_append_left hlt,h1];rfl
 ·rcases hpre i r hi with⟨_,rfl⟩ | ⟨_,rfl⟩ | ⟨_,_,hm,_⟩
  ·exact Chg.refl _ w
  ·exact hbx
  ·exact(hp r hm).1
 ·rcases hpre i r hi with⟨_,rfl⟩ | ⟨h1,rfl⟩ | ⟨_,_,hm,hown⟩
  ·cases ho
  ·rcases hpre j r' hj with⟨_,rfl⟩ | ⟨h2,rfl⟩ | ⟨_,_,hm,_⟩
   ·exact hk'.2 hk
   ·exact hne (h1.trans h2.symm)
   ·exact(hp r' hm).2 k hk hk'
  ·rw [hown]at ho;cases ho
 ·rcases hpre i r hi with⟨h0,_⟩ | ⟨_,rfl⟩ | ⟨_,_,hm,_⟩
  ·exact absurd h0 hi0
  ·exact .inr (.inl hk)
  ·exact .inr (.inr ⟨r,hm,hk⟩)
theorem Zln {fn:Func} {p:Pc} {pre:List Pc} {G:Type} {φ:G→Prop} {val:G→Value} {q:G→Pc} {w0:World} {e:Exit} (he:e= .ret∨e= .normal) (hsc:∀k,sc k→w0.heap.size≤k∨p.fp k∨∃q∈pre,q.fp k)
  (g:G) (v:Value) (hres:∀a w,Sat N sc env H a w→(results fn a.tmps).run P w= .ok v w) (hv:val g=v) (hg:φ g) (i:Nat) (hi:lk H i=some (q g)) (h0:lk H 0=some (Ix w0 p.fp)) (hi0:Nat.beq i 0=false) (hown:(q g).own=true) (hpre:PreOk (drp i H) false pre) :
  X N sc e (FPostP P fn w0 p φ val q) env H:=fun a w hs=>by
 have hi0:i≠0:=fun e=>by subst e;simp at hi0
 have key:a.defers=[]∧∃v,(results fn a.tmps).run P w= .ok v w∧(∃g,Ending.returned v= .returned (val g)∧φ g∧Chg p.fp w0 w∧(q g).holds w∧∀k,(q g).fp k→p.fp k∨w0.heap.size≤k):=by
  refine⟨hs.defers,v,hres a w hs,g,by rw [hv],hg,hs.hold 0 _ h0,hs.hold i _ hi,fun k hk=>?_⟩
  rcases hsc k (hs.scope i _ hi0 hi k hk)with h | h | ⟨r,hr,hrk⟩
  ·exact .inr h
  ·exact .inl h
  ·obtain⟨j,it,_,hj,_,hfp,_⟩:=hpre.mem r hr
   obtain⟨hne,hj⟩:=Eb _ _ _ _ hj
   exact(hs.sep i j _ it (Ne.symm hne) hi hj hown k hk (hfp k hrk)).elim
 rcases he with rfl | rfl<;>exact key
def gb{α:Type}(b:Nat)(t:TypeId)(k:Nat)(e:TypeId)(enc:α→Value)(v:Value)(xs:List α):Pc:=
 {own:=true,fp:=fun c=>c=b∨v.ownBlock=some c,holds:=fun w=>(box b t #[v]).holds w∧(osl k e enc v xs).holds w∧v.ownBlock≠some b
  lt:=fun w c h hc=>by
   rcases hc with rfl | hc
   ·exact(box c t #[v]).lt w c h.1 rfl
   ·exact(osl k e enc v xs).lt w c h.2.1 hc
  stable:=fun w w' h hc=>⟨(box b t #[v]).stable w w' h.1 ⟨hc.os,hc.tape,hc.output,hc.size,fun k hk hn=>hc.block k hk (fun hf=>hn (fun hq=>hf (.inl hq)))⟩,
   (osl k e enc v xs).stable w w' h.2.1 ⟨hc.os,hc.tape,hc.output,hc.size,fun k hk hn=>hc.block k hk (fun hf=>hn (fun hq=>hf (.inr hq)))⟩,h.2.2⟩ }
theorem Ze6 {o:Oper} {x:Operand} {t tb:TypeId} {i b j:Nat} {cs:Array Value} {v0 v1 v2 v3 v4 v5 v6 v7:Value} (ho:o.op= .load t x)
  (hx:ev env x=some (.pointer (some ⟨b,j,none⟩))) (hH:lk H i=some (box b tb cs)) (ht:∀w,(isAgg t).run P w= .ok true w) (hk:∀w,(sizeOf t).run P w= .ok 8 w)
  (h0:cs[j]? = some v0) (h1:cs[j+1]? = some v1) (h2:cs[j+2]? = some v2) (h3:cs[j+3]? = some v3) (h4:cs[j+4]? = some v4) (h5:cs[j+5]? = some v5) (h6:cs[j+6]? = some v6) (h7:cs[j+7]? = some v7):Det P N sc o env H (.agg #[v0,v1,v2,v3,v4,v5,v6,v7]):=
 Zwh ho hx hH ht hk (vs:=[v0,v1,v2,v3,v4,v5,v6,v7]) rfl (fun n u hu=>by
  match n,hu with
  | 0,hu=>simp at hu;subst hu;exact h0
  | 1,hu=>simp at hu;subst hu;exact h1
  | 2,hu=>simp at hu;subst hu;exact h2
  | 3,hu=>simp at hu;subst hu;exact h3
  | 4,hu=>simp at hu;subst hu;exact h4
  | 5,hu=>simp at hu;subst hu;exact h5
  | 6,hu=>simp at hu;subst hu;exact h6
  | 7,hu=>simp at hu;subst hu;exact h7
  | n+8,hu=>simp at hu)
end Go.Sky

