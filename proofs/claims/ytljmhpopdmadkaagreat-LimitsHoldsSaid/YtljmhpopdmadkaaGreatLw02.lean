/- Rules, arithmetic and contracts: part 3. No conditions but those that each theorem names. -/
import Derived.Test.YtljmhpopdmadkaaGreatLw01
set_option linter.all false
namespace Go.Sky
set_option maxRecDepth 20000
theorem Zfy{n:Nat}(h:n<U):tz [n]=dg U n:=by
 rw [←Lt Xe [n] (by simpa using h)]
 simp [Yc]
theorem Zg1{N:Nat}{sc:Nat→Prop}{env:Qt}{H:Hp}{α:Type}{k:Nat}{e:TypeId}{enc:α→Value}{v:Value}{xs ys:List α}(i:Nat)(h:xs=ys)(hi:lk H i=some (Ma k e enc v xs))(hi0:Nat.beq i 0=false) :
  ∀a w,Sat N sc env H a w→Sat N sc env ((i,Ma k e enc v ys) :: H) a w:=by
 subst h
 exact Znd i hi rfl (fun w h=>h) (fun b hb=>hb) hi0
theorem Zk7(R:List Nat)(j:Nat)(hj:j≤R.length):Yc U R=Yc U (R.take j)+U^j*Yc U (R.drop j):=by
 have:=Ox U (R.take j) (R.drop j)
 rw [List.take_append_drop,List.length_take,Nat.min_eq_left hj]at this
 exact this
theorem Zik{R:List Nat}(hR:∀d∈R,d<U)(j:Nat)(hj:j≤R.length):Yc U (R.take j)=Yc U R%U^j∧Yc U (R.drop j)=Yc U R/U^j:=by
 have h1:=Zk7 R j hj
 have h2:=Zfw Xh (R.take j) (fun d hd=>hR d (List.mem_of_mem_take hd))
 rw [List.length_take,Nat.min_eq_left hj]at h2
 have hp:0<U^j:=Nat.pow_pos Xh
 constructor
 ·rw [h1,Nat.add_comm,Nat.mul_add_mod,Nat.mod_eq_of_lt h2]
 ·rw [h1,Nat.add_comm,Nat.mul_add_div hp,Nat.div_eq_of_lt h2,Nat.add_zero]
theorem Zeb{R:List Nat}(hR:∀d∈R,d<U){n:Nat}(hn:n≤R.length)(h:Yc U R<U^n):Yc U (R.drop n)=0∧Yc U (R.take n)=Yc U R:=by
 obtain⟨h1,h2⟩:=Zik hR n hn
 rw [h2,h1,Nat.mod_eq_of_lt h]
 exact⟨Nat.div_eq_of_lt h,rfl⟩
theorem Ygr{R:List Nat}(hR:∀d∈R,d<U){j n:Nat}(hn:j+n≤R.length)(h:Yc U R<U^(j+n)):tz ((R.drop j).take n)=dg U (Yc U R/U^j):=by
 have hd:∀d∈R.drop j,d<U:=fun d hd=>hR d (List.mem_of_mem_drop hd)
 rw [←(Zik hR j O).2,←Lt Xe _ (fun d hd'=>hd d (List.mem_of_mem_take hd'))]
 congr 1
 refine(Zeb hd (by rw [List.length_drop];omega) ?_).2
 rw [(Zik hR j O).2,Nat.div_lt_iff_lt_mul (Nat.pow_pos Xh),←Nat.pow_add,Nat.add_comm]
 exact h
theorem Zpn{R ys:List Nat}(hR:∀d∈R,d<U)(hy:∀d∈ys,d<U)(lo:Nat):∀d∈spl R lo ys,d<U:=fun d hd=>by
 simp only [spl,List.mem_append]at hd
 rcases hd with(hd | hd) | hd
 ·exact hR d (List.mem_of_mem_take hd)
 ·exact hy d hd
 ·exact hR d (List.mem_of_mem_drop hd)
theorem Zpw(L:Nat)(ys:List Nat):Yc U (spl (List.replicate L 0) 0 ys)=Yc U ys:=by
 simp [spl,Ox,List.drop_replicate,Hh]
theorem Ygv{R ys:List Nat}(hR:∀d∈R,d<U){j n:Nat}(hn:j+n≤R.length)(h:Yc U R<U^(j+n))(hy:ys.length≤n) :
  Yc U (spl (spl R j (List.replicate n 0)) j ys)=Yc U R%U^j+U^j*Yc U ys:=by
 have e1:(spl R j (List.replicate n 0)).take j=R.take j:=by
  simp only [spl,List.append_assoc]
  rw [List.take_append_of_le_length (by rw [List.length_take];omega),List.take_take,Nat.min_self]
 have e2:(spl R j (List.replicate n 0)).drop (j+ys.length)=List.replicate (n-ys.length) 0 ++ R.drop (j+n):=by
  simp only [spl,List.append_assoc,List.length_replicate]
  rw [←List.drop_drop,List.drop_left' (by rw [List.length_take];omega),List.drop_append_of_le_length (by rw [List.length_replicate];exact hy),List.drop_replicate]
 rw [spl,e1,e2,Ox,Ox,Ox,Hh,(Zeb hR hn h).1,(Zik hR j O).1,List.length_take,Nat.min_eq_left O]
 simp
theorem Yic{y b k:Nat}(hy:0<y)(hk:k=(dg U y).length)(hb:b=64-bl ((dg U y).getD (k-1) 0)):(dg U (y*2^b)).length=k∧2^b*U^k≤y*2^b*U*2^b∧1≤k∧y*2^b<U^k∧b≤63∧U^(k-1)*9223372036854775808≤y*2^b:=by
 obtain⟨z1,z2,z3,z4⟩:=Zvp hy
 rw [←hk]at z1 z2 z3 z4
 obtain⟨h1,h2⟩:=Zpg hy
 have h3:=Ei y
 have e:bl y+b=64*k:=O
 have h4:y*2^b<U^k:=by
  rw [Zb5,←e,Nat.pow_add];exact Nat.mul_lt_mul_of_pos_right h3 (Nat.two_pow_pos b)
 have h5:U^(k-1)*9223372036854775808≤y*2^b:=by
  have:U^(k-1)*9223372036854775808=2^(bl y-1)*2^b:=by
   rw [Zb5,←Nat.pow_add,show 9223372036854775808=2^63 from rfl,←Nat.pow_add]
   congr 1;omega
  rw [this];exact Nat.mul_le_mul_right _ h1
 have h6:U^k=U^(k-1)*U:=by rw [←Nat.pow_succ];congr 1;omega
 refine⟨?_,?_,z3,h4,O,h5⟩
 ·refine Nat.le_antisymm ((Xg Xe _ _).2 h4) ?_
  have:k-1<(dg U (y*2^b)).length:=(Oh Xe _ _).2 (Nat.le_trans (Nat.le_mul_of_pos_right _ O) h5)
  omega
 ·rw [h6,Nat.mul_comm (2^b)]
  refine Nat.mul_le_mul_right _ ?_
  refine Nat.mul_le_mul_right _ (Nat.le_trans (Nat.le_mul_of_pos_right _ O) h5)
theorem Yeq{W D k w1 w0 t:Nat}(hD:t*U^k≤D)(ht:0<t)(hW:W/U^k=w1*U+w0):W/D≤(w1*U+w0)/t:=by
 have hp:0<U^k:=Nat.pow_pos Xh
 rw [←hW,Nat.div_div_eq_div_mul,Nat.mul_comm]
 exact Nat.div_le_div_left hD (Nat.mul_pos ht hp)
theorem Yg2{R:List Nat}(hR:∀d∈R,d<U){j k:Nat}(hk:1≤k)(h:Yc U R<U^(j+k+1))(hn:j+k+1≤R.length):Yc U R/U^j/U^(k-1)=R.getD (j+k) 0*U+R.getD (j+k-1) 0:=by
 have h1:∀i,R.getD i 0=Yc U R/U^i%U:=fun i=>by
  rcases Nat.lt_or_ge i R.length with hi | hi
  ·have h2:=(Zik hR i O).2
   rw [Zbv 0 R i hi]at h2
   simp only [Yc]at h2
   rw [←h2,Nat.add_mul_mod_self_left,Nat.mod_eq_of_lt (Xd Xh hR i)]
  ·rw [show R.getD i 0=0 by simp [List.getD,List.getElem?_eq_none hi],Nat.div_eq_of_lt (Nat.lt_of_lt_of_le (Zfw Xh R hR) (Nat.pow_le_pow_right Xh hi))];rfl
 rw [h1,h1,Nat.div_div_eq_div_mul,←Nat.pow_add,show j+(k-1)=j+k-1 by omega]
 have h3:Yc U R/U^(j+k)<U:=by
  rw [Nat.div_lt_iff_lt_mul (Nat.pow_pos Xh),←Nat.pow_succ',Nat.add_comm (j+k)]at *
  rw [Nat.add_comm 1]at *
  exact h
 have h4:Yc U R/U^(j+k)=Yc U R/U^(j+k-1)/U:=by
  rw [Nat.div_div_eq_div_mul,←Nat.pow_succ];congr 2;omega
 rw [Nat.mod_eq_of_lt h3,h4,Nat.mul_comm,Nat.div_add_mod]
theorem Yfc{x b k lx D:Nat}(hx:x<U^lx)(hb:b≤63)(hk:1≤k)(hkl:k≤lx+1)(hD:U^(k-1)*9223372036854775808≤D):x*2^b<D*U^(lx+1-k):=by
 have h1:x*2^b<U^lx*2^b:=Nat.mul_lt_mul_of_pos_right hx (Nat.two_pow_pos b)
 have h2:U^lx*2^b≤U^lx*9223372036854775808:=Nat.mul_le_mul_left _ (by
  rw [show 9223372036854775808=2^63 from rfl];exact Nat.pow_le_pow_right O hb)
 have h3:U^lx*9223372036854775808=U^(k-1)*9223372036854775808*U^(lx+1-k):=by
  rw [Nat.mul_right_comm,←Nat.pow_add];congr 2;omega
 have h4:U^(k-1)*9223372036854775808*U^(lx+1-k)≤D*U^(lx+1-k):=Nat.mul_le_mul_right _ hD
 omega
theorem Yfb{V D j Q Vq N:Nat}(hD:0<D)(hQ:Q=V/U^j/D)(hN:Vq*U^(j+1)*D+V=N) :
  V%U^j+U^j*(V/U^j-D*Q)<D*U^j∧(Q+U*Vq)*U^j*D+(V%U^j+U^j*(V/U^j-D*Q))=N:=by
 have hp:0<U^j:=Nat.pow_pos Xh
 have h1:=Nat.mod_lt V hp
 have h2:=Nat.div_add_mod V (U^j)
 have h3:=Nat.div_add_mod (V/U^j) D
 have h4:=Nat.mod_lt (V/U^j) hD
 have h5:V/U^j-D*Q=V/U^j%D:=by rw [hQ];omega
 rw [h5]
 constructor
 ·have h6:U^j*(V/U^j%D+1)≤U^j*D:=Nat.mul_le_mul_left _ h4
  rw [Nat.mul_add]at h6
  rw [Nat.mul_comm D];omega
 ·rw [←hN]
  have e1:(Q+U*Vq)*U^j*D=U^j*(D*Q)+Vq*U^(j+1)*D:=by
   rw [Nat.add_mul,Nat.add_mul,Nat.pow_succ]
   congr 1
   ·rw [Nat.mul_comm Q,Nat.mul_assoc,Nat.mul_comm Q]
   ·rw [Nat.mul_comm U Vq,Nat.mul_assoc Vq,Nat.mul_comm U]
  have e2:U^j*(D*Q)+U^j*(V/U^j%D)=U^j*(V/U^j):=by rw [←Nat.mul_add,hQ,h3]
  omega
def sg(s:Bool)(x:Int):Prop:=(s=true→x≤0)∧(s=false→0≤x)
theorem Ybu{s:Bool}{x:Int}(h:sg s x):sg (!s) (-x):=by
 cases s<;>simp [sg]at*<;>omega
theorem Ybv{s t:Bool}{x y:Int}(hs:sg s x)(ht:sg t y):sg (s != t) (x*y):=by
 cases s<;>cases t<;>simp [sg]at *
 ·exact Int.mul_nonneg hs ht
 ·exact Int.mul_nonpos_of_nonneg_of_nonpos hs ht
 ·exact Int.mul_nonpos_of_nonpos_of_nonneg hs ht
 ·exact Int.mul_nonneg_of_nonpos_of_nonpos hs ht
theorem Zyw{x:Int}(h:(((dg U x.natAbs).length:Nat):Int)=0):Value.int .i64 x.sign= .int .i64 0:=by
 have h1:=(Ph Xe x.natAbs).1 O
 have:x=0:=O
 subst this;rfl
theorem Ybp{s:Bool}{x:Int}(hs:sg s x)(h1:s=true)(h:¬(((dg U x.natAbs).length:Nat):Int)=0):Value.int .i64 x.sign= .int .i64 (-1):=by
 have h2:¬x.natAbs=0:=fun e=>h (by rw [(Ph Xe x.natAbs).2 e];rfl)
 have h3:=hs.1 h1
 rw [Int.sign_eq_neg_one_of_neg O]
theorem Ybo{s:Bool}{x:Int}(hs:sg s x)(h1:s=false)(h:¬(((dg U x.natAbs).length:Nat):Int)=0):Value.int .i64 x.sign= .int .i64 1:=by
 have h2:¬x.natAbs=0:=fun e=>h (by rw [(Ph Xe x.natAbs).2 e];rfl)
 have h3:=hs.2 h1
 rw [Int.sign_eq_one_of_pos O]
theorem Zvv{s:Bool}{x y:Int}(hs:sg s x)(ht:sg s y):sg s (x+y):=by
 cases s<;>simp [sg]at*<;>omega
theorem Zfu{s:Bool}{x y:Int}(hs:sg s x)(ht:sg s y):(x+y).natAbs=x.natAbs+y.natAbs:=by
 cases s<;>simp [sg]at*<;>omega
theorem Zhz{s t:Bool}{x y:Int}(hs:sg s x)(ht:sg t y)(h:s≠t)(hge:y.natAbs≤x.natAbs):sg s (x+y):=by
 cases s<;>cases t<;>simp [sg]at*<;>omega
theorem Al{s t:Bool}{x y:Int}(hs:sg s x)(ht:sg t y)(h:s≠t)(hge:y.natAbs≤x.natAbs):(x+y).natAbs=x.natAbs-y.natAbs:=by
 cases s<;>cases t<;>simp [sg]at*<;>omega
abbrev wv (x:Int):Value:= .agg #[.bool (decide (x<0)),.string (Xp x.natAbs)]
def Bl(x:Int):Int:=if 65536<bl x.natAbs then 0 else x
def Zhp(x:Int):Int:=if 65536<bl x.natAbs then 7 else 0
theorem Yju(x:Int):bl (Bl x).natAbs≤65536:=by
 unfold Bl
 split
 ·decide
 ·omega
theorem Mr{x:Int}(h:bl x.natAbs≤65536):Bl x=x:=by unfold Bl;rw [if_neg O]
theorem Zol{x:Int}(h:bl x.natAbs≤65536):Zhp x=0:=by unfold Zhp;rw [if_neg O]
theorem Yjt{x:Int}(h:65536<bl x.natAbs):Bl x=0:=by unfold Bl;rw [if_pos h]
theorem Yi3{x:Int}(h:65536<bl x.natAbs):Zhp x=7:=by unfold Zhp;rw [if_pos h]
abbrev Za5 (x:Int):Value:= .tuple #[wv (Bl x),.int .i64 (Zhp x)]
theorem Zym{x:Int}(h:((65536:Int)<((bl x.natAbs:Nat):Int))):Za5 x= .tuple #[.agg #[.bool false,.string ⟨#[]⟩],.int .i64 7]:=by
 unfold Za5;rw [Yjt O,Yi3 O];rfl
theorem Zu8{x:Int}(h:¬((65536:Int)<((bl x.natAbs:Nat):Int))):Za5 x= .tuple #[wv x,.int .i64 0]:=by
 unfold Za5;rw [Mr O,Zol O]
theorem Zps{x:Int}(hs:sg false x)(h:¬((65536:Int)<((bl x.natAbs:Nat):Int))):Za5 x= .tuple #[.agg #[.bool false,.string (Xp x.natAbs)],.int .i64 0]:=by
 rw [Zu8 h,wv,decide_eq_false (by have:=hs.2 rfl;omega)]
theorem Zpr{x:Int}(hs:sg true x)(h:¬((65536:Int)<((bl x.natAbs:Nat):Int))):Za5 x= .tuple #[.agg #[.bool (decide ((0:Int)<(((dg U x.natAbs).length:Nat):Int))),.string (Xp x.natAbs)],.int .i64 0]:=by
 have h1:=hs.1 rfl
 have h2:=Ph Xe x.natAbs
 rw [Zu8 h,wv,show decide (x<0)=decide ((0:Int)<(((dg U x.natAbs).length:Nat):Int))from decide_eq_decide.2 ⟨fun h=>O,fun h=>O⟩]
theorem Zcv{x y q r:Int}(hy:y≠0)(h:x=y*q+r)(h0:0≤r)(h1:r<(y.natAbs:Int)):x/y=q∧x%y=r:=by
 have e:=Int.mul_ediv_add_emod x y
 have e0:=Int.emod_nonneg x hy
 have e1:=Int.emod_lt x hy
 have hq:x/y=q:=by
  have hk:y*(x/y-q)=r-x%y:=by rw [Int.mul_sub];omega
  have habs:(y*(x/y-q)).natAbs<y.natAbs:=by rw [hk];omega
  rw [Int.natAbs_mul]at habs
  rcases Nat.eq_zero_or_pos (x/y-q).natAbs with h | h
  ·omega
  ·exact absurd (Nat.le_mul_of_pos_right y.natAbs h) O
 refine⟨hq,?_⟩
 rw [hq]at e;omega
theorem Zs8{s:Bool}{x:Int}(h:sg s x):x=if s then -(x.natAbs:Int)else(x.natAbs:Int):=by
 cases s<;>simp [sg]at*<;>omega
theorem Zxj{s t:Bool}{x y:Int}(hs:sg s x)(ht:sg t y)(hy:y≠0)(Q R:Nat)(hR:R<y.natAbs)(h:x=(if s then -1 else 1)*((y.natAbs:Int)*Q)+R) :
  sg (s != t) (x/y)∧(x/y).natAbs=Q∧(x%y).natAbs=R:=by
 have hy2:=Zs8 ht
 have key:x/y=(if s != t then -(Q:Int)else Q)∧x%y=R:=by
  refine Zcv hy ?_ O O
  conv=>lhs;rw [h]
  conv=>rhs;rw [hy2]
  cases s<;>cases t<;>simp [Int.neg_mul,Int.mul_neg]
 rw [key.1,key.2]
 cases s<;>cases t<;>simp [sg]
theorem divB{s t:Bool}{x y:Int}(hs:sg s x)(ht:sg t y)(hy:y≠0)(hc:s=false∨x.natAbs%y.natAbs=0):sg (s != t) (x/y)∧(x/y).natAbs=x.natAbs/y.natAbs∧(x%y).natAbs=x.natAbs%y.natAbs:=by
 have hx:=Zs8 hs
 have e:=Nat.div_add_mod x.natAbs y.natAbs
 refine Zxj hs ht hy _ _ (Nat.mod_lt _ O) ?_
 have e2:((y.natAbs:Int)*((x.natAbs/y.natAbs:Nat):Int))+((x.natAbs%y.natAbs:Nat):Int)=x.natAbs:=by rw [←Int.natCast_mul,←Int.natCast_add,e]
 rcases hc with rfl | h0
 ·simp at hx ⊢;simp at e2;omega
 ·rw [h0]at e2 ⊢
  cases s<;>simp at hx e2 ⊢<;>omega
theorem divA{t:Bool}{x y:Int}(hs:sg true x)(ht:sg t y)(hy:y≠0)(h0:0<x.natAbs%y.natAbs):sg (true != t) (x/y)∧(x/y).natAbs=x.natAbs/y.natAbs+1∧(x%y).natAbs=y.natAbs-x.natAbs%y.natAbs:=by
 have hx:=Zs8 hs
 have e:=Nat.div_add_mod x.natAbs y.natAbs
 have hl:=Nat.mod_lt x.natAbs (show 0<y.natAbs by omega)
 refine Zxj hs ht hy _ _ O ?_
 have e2:((y.natAbs:Int)*((x.natAbs/y.natAbs:Nat):Int))+((x.natAbs%y.natAbs:Nat):Int)=x.natAbs:=by rw [←Int.natCast_mul,←Int.natCast_add,e]
 rw [Int.natCast_sub O,Int.natCast_add,Int.mul_add]
 generalize ((y.natAbs:Int)*((x.natAbs/y.natAbs:Nat):Int))=P at *
 generalize ((x.natAbs%y.natAbs:Nat):Int)=R at *
 simp only [if_true]at *
 omega
def okW(b:Bool)(s:ByteArray):Bool:=if s.size=0 then !b else decide ((s.data.toList.getD 0 0).toNat≠0) && decide (s.size≤8192)
theorem bl256{n k:Nat} : (dg 256 n).length≤k↔bl n≤8*k:=by rw [Zj5];omega
theorem Zbj{x:Int}(h:bl x.natAbs≤65536):okW (decide (x<0)) (Xp x.natAbs)=true:=by
 unfold okW
 rw [Fx]
 split
 ·rename_i h0
  have:=(Ph (by omega:2≤256) x.natAbs).1 h0
  simp;omega
 ·rename_i h0
  have hp:0<x.natAbs:=by
   rcases Nat.eq_zero_or_pos x.natAbs with h1 | h1
   ·rw [h1]at h0;simp [Hb]at h0
   ·exact h1
  have h1:=Zsh x.natAbs 0 O
  have h2:=dg_top (by omega:2≤256) hp
  rw [Hc O]at h2
  have h3:=(bl256 (n:=x.natAbs) (k:=8192)).2 O
  rw [Bool.and_eq_true]
  refine⟨decide_eq_true (by rw [h1];simpa using h2),decide_eq_true h3⟩
theorem Zgn{a b:ByteArray}(h:a.data.toList=b.data.toList):a=b:=by
 cases a;cases b;simp at h;rw [h]
theorem Yj5{s:ByteArray}(h0:s.size≠0)(h:(s.data.toList.getD 0 0).toNat≠0):s=Xp (Yc 256 (s.data.toList.reverse.map UInt8.toNat)):=by
 have hl:s.data.toList.length=s.size:=rfl
 have hb:∀d∈s.data.toList.reverse.map UInt8.toNat,d<256:=fun d hd=>by
  obtain⟨u,_,rfl⟩:=List.mem_map.1 hd
  exact u.toNat_lt
 refine Zgn ?_
 unfold Xp
 rw [Lt O _ hb,tz_eq]
 ·simp [List.map_reverse,Function.comp_def]
 ·refine .inr ?_
  rw [List.length_map,List.length_reverse,List.getD_eq_getElem?_getD,List.getElem?_map,List.getElem?_reverse O]
  rw [show s.data.toList.length-1-(s.data.toList.length-1)=0 by omega]
  rw [List.getD_eq_getElem?_getD]at h
  cases hx:s.data.toList[0]? with
  | none=>rw [hx]at h;simp at h
  | some u=>rw [hx]at h;simpa using h
theorem Zn1{b:Bool}{s:ByteArray}(h:okW b s=true):∃x:Int,bl x.natAbs≤65536∧b=decide (x<0)∧s=Xp x.natAbs:=by
 unfold okW at h
 split at h
 ·rename_i h0
  refine⟨0,by simp [Lj],?_,?_⟩
  ·cases b<;>simp_all
  ·refine Zgn ?_
   have:s.data.toList.length=0:=h0
   rw [List.eq_nil_of_length_eq_zero this];rfl
 ·rename_i h0
  rw [Bool.and_eq_true]at h
  have h1:=of_decide_eq_true h.1
  have h2:=of_decide_eq_true h.2
  have hs:=Yj5 h0 h1
  generalize Yc 256 (s.data.toList.reverse.map UInt8.toNat)=n at hs
  have hsz:(dg 256 n).length=s.size:=by rw [hs,Fx]
  have hn:0<n:=by
   rcases Nat.eq_zero_or_pos n with h | h
   ·subst h;simp [Hb]at hsz;omega
   ·exact h
  have hbl:bl n≤65536:=by have:=(bl256 (n:=n) (k:=8192)).1 O;omega
  cases b with
  | true=>exact⟨-(n:Int),by simpa using hbl,O8,by simpa using hs⟩
  | false=>exact⟨n,by simpa using hbl,O5,by simpa using hs⟩
def eqW(a:Bool)(s:ByteArray)(b:Bool)(t:ByteArray):Bool:=(a == b) && (s.toList == t.toList)
theorem Yan{x y:Int}(h:decide (x<0)=decide (y<0))(h2:Xp x.natAbs=Xp y.natAbs):x=y:=by
 have h3:x.natAbs=y.natAbs:=by
  have h4:(dg 256 x.natAbs).reverse.map UInt8.ofNat=(dg 256 y.natAbs).reverse.map UInt8.ofNat:=by
   have:=congrArg (fun b:ByteArray=>b.data.toList) h2
   simpa [Xp]using this
  have h5:∀n:Nat,((dg 256 n).reverse.map UInt8.ofNat).map UInt8.toNat=(dg 256 n).reverse:=fun n=>by
   rw [List.map_map]
   conv=>rhs;rw [←List.map_id (dg 256 n).reverse]
   refine List.map_congr_left fun d hd=>?_
   have:=Ok (by omega:2≤256) n d (List.mem_reverse.1 hd)
   simp [UInt8.toNat_ofNat',Nat.mod_eq_of_lt this]
  have h6:=congrArg (List.map UInt8.toNat) h4
  rw [h5,h5]at h6
  exact(Zgl (by omega:2≤256)).1 (List.reverse_inj.1 h6)
 have h4:=decide_eq_decide.1 h
 omega
theorem Zox{a b:Bool}{s t:ByteArray} : eqW a s b t=true↔a=b∧s=t:=by
 unfold eqW
 rw [Bool.and_eq_true,ByteArray.toList_eq,ByteArray.toList_eq,beq_iff_eq,beq_iff_eq]
 exact⟨fun h=>⟨h.1,Zgn h.2⟩,fun h=>⟨h.1,by rw [h.2]⟩⟩
theorem Zug(x y:Int):eqW (decide (x<0)) (Xp x.natAbs) (decide (y<0)) (Xp y.natAbs)=decide (x=y):=by
 rw [Bool.eq_iff_iff,Zox,decide_eq_true_iff]
 exact⟨fun h=>Yan h.1 h.2,fun h=>by rw [h];exact⟨rfl,rfl⟩⟩
theorem Yz(x:Int):sg (decide (x<0)) x:=by
 unfold sg
 simp;omega
theorem Hy(x y:Int):bl (x+y).natAbs≤max (bl x.natAbs) (bl y.natAbs)+1:=
 Nat.le_trans (Ps (Int.natAbs_add_le x y)) (bl_add _ _)
theorem Yv(x y:Int):bl (x*y).natAbs≤bl x.natAbs+bl y.natAbs:=by
 rw [Int.natAbs_mul];exact Zkz _ _
theorem Bh(x y:Int):bl (x-y).natAbs≤max (bl x.natAbs) (bl y.natAbs)+1:=by
 have:=Hy x (-y)
 rwa [Int.natAbs_neg,←Int.sub_eq_add_neg]at this
theorem Zpi(x:Int):bl (-x).natAbs=bl x.natAbs:=by rw [Int.natAbs_neg]
theorem Zig(x y:Int):bl (x/y).natAbs≤bl x.natAbs+1:=by
 have h:(x/y).natAbs≤x.natAbs:=Int.natAbs_ediv_le_natAbs x y
 have:=Ps h;omega
theorem Zx9(x y:Int)(hy:y≠0):bl (x%y).natAbs≤bl y.natAbs:=by
 have e0:=Int.emod_nonneg x hy
 have e1:=Int.emod_lt x hy
 exact Ps O
theorem Zpj(x y:Nat):bl (Nat.gcd x y)≤max (bl x) (bl y):=by
 rcases Nat.eq_zero_or_pos x with h | h
 ·subst h;rw [Nat.gcd_zero_left];omega
 ·have:=Ps (Nat.le_of_dvd h (Nat.gcd_dvd_left x y));omega
theorem Yhk(x:Int){y:Int}(h:y≠0):sg false (x%y):=⟨fun h0=>Bool.noConfusion h0,fun _=>Int.emod_nonneg x h⟩
def Nh(x y:Int):Int:=if y<0 then -(Int.gcd x y:Int)else(Int.gcd x y:Int)
theorem Zbn(x y:Int):(Nh x y).natAbs=Nat.gcd x.natAbs y.natAbs:=by
 unfold Nh;split<;>simp [Int.gcd]
theorem Yin{x y:Int}(h:y≠0):Nh x y≠0:=fun e=>by
 have h1:=Zbn x y
 rw [e]at h1
 have:=(Nat.gcd_eq_zero_iff.1 h1.symm).2
 omega
theorem Yhi{t:Bool}{x y:Int}(ht:sg t y)(hy:y≠0):sg t (Nh x y):=by
 unfold Nh sg at *
 refine⟨fun h=>?_,fun h=>?_⟩
 ·rw [if_pos (by have:=ht.1 h;omega)];omega
 ·rw [if_neg (by have:=ht.2 h;omega)];omega
theorem Zws(v:Value)(x y:Int):Fj v (Nat.gcd x.natAbs y.natAbs)=Fj v (Nh x y).natAbs:=by rw [Zbn]
def Mz(x y:Int):Prop:=65536<bl (x/Nh x y).natAbs∨65536<bl (y/Nh x y).natAbs
instance (x y:Int):Decidable (Mz x y):=by unfold Mz;infer_instance
def Fp(x y:Int):Int:=if Mz x y then 0 else x/Nh x y
def Gt(x y:Int):Int:=if Mz x y then 0 else y/Nh x y
def Ycc(x y:Int):Int:=if Mz x y then 7 else 0
abbrev Zab (x y:Int):Value:= .tuple #[.agg #[.bool (decide (Fp x y<0)),.string (Xp (Fp x y).natAbs),.bool (decide (Gt x y<0)),.string (Xp (Gt x y).natAbs)],.int .i64 (Ycc x y)]
theorem Zaa{x y:Int}(h:Mz x y):Zab x y= .tuple #[.agg #[.bool false,.string ⟨#[]⟩,.bool false,.string ⟨#[]⟩],.int .i64 7]:=by
 unfold Zab Fp Gt Ycc;rw [if_pos h,if_pos h,if_pos h];rfl
theorem Bf{x:Int}(h:Zhp x≠0):65536<bl x.natAbs:=by
 unfold Zhp at h;split at h
 ·assumption
 ·exact absurd rfl h
theorem Zh7{x:Int}(h:Zhp x=0):bl x.natAbs≤65536:=by
 unfold Zhp at h;split at h
 ·omega
 ·omega
theorem Zqn{x y:Int}(h1:Zhp (x/Nh x y)=0)(h2:Zhp (y/Nh x y)=0):Zab x y= .tuple #[.agg #[.bool (decide (Bl (x/Nh x y)<0)),.string (Xp (Bl (x/Nh x y)).natAbs),.bool (decide (Bl (y/Nh x y)<0)),.string (Xp (Bl (y/Nh x y)).natAbs)],.int .i64 0]:=by
 have h3:¬Mz x y:=fun h=>by have:=Zh7 h1;have:=Zh7 h2;unfold Mz at h;omega
 unfold Zab Fp Gt Ycc
 rw [if_neg h3,if_neg h3,if_neg h3,Mr (Zh7 h1),Mr (Zh7 h2)]
def okR(b:Bool)(s:ByteArray)(c:Bool)(t:ByteArray):Bool:=okW b s && okW c t && (!c && decide (0<t.size))
theorem Znt(z:Int):(!decide (z<0) && decide (0<(Xp z.natAbs).size))=decide (0<z):=by
 rw [Bool.eq_iff_iff,Bool.and_eq_true,Fx,decide_eq_true_iff,decide_eq_true_iff]
 have:=Ph (by omega:2≤256) z.natAbs
 simp only [Bool.not_eq_true',decide_eq_false_iff_not]
 omega
theorem Gq(z:Int):decide (0<z.sign)=decide (0<z):=by
 rw [decide_eq_decide]
 rcases Int.lt_trichotomy z 0 with h | h | h
 ·rw [Int.sign_eq_neg_one_of_neg h];omega
 ·subst h;simp
 ·rw [Int.sign_eq_one_of_pos h];omega
theorem Zq0{b:Bool}{s:ByteArray}{z:Int}(h1:okW b s=true)(hz:bl z.natAbs≤65536):okR b s (decide (z<0)) (Xp z.natAbs)=decide (0<z.sign):=by
 unfold okR;rw [h1,Zbj hz,Znt,Gq];rfl
theorem okR_wv{x y:Int}(hx:bl x.natAbs≤65536)(hy:bl y.natAbs≤65536)(hy0:0<y):okR (decide (x<0)) (Xp x.natAbs) (decide (y<0)) (Xp y.natAbs)=true:=by
 unfold okR;rw [Zbj hx,Zbj hy,Znt];simp [hy0]
theorem Yda{b c:Bool}{s t:ByteArray}(h:okR b s c t=true):∃x y:Int,bl x.natAbs≤65536∧bl y.natAbs≤65536∧0<y∧b=decide (x<0)∧s=Xp x.natAbs∧c=decide (y<0)∧t=Xp y.natAbs:=by
 unfold okR at h
 rw [Bool.and_eq_true,Bool.and_eq_true]at h
 obtain⟨⟨h1,h2⟩,h3⟩:=h
 obtain⟨x,hx,rfl,rfl⟩:=Zn1 h1
 obtain⟨y,hy,rfl,rfl⟩:=Zn1 h2
 rw [Znt]at h3
 exact⟨x,y,hx,hy,of_decide_eq_true h3,rfl,rfl,rfl,rfl⟩
open Go.RowKit (Below)
def Sz(n:Nat)(p:List Int):Prop:=∀i,bl (cf p i).natAbs≤n
theorem Sz.getD{n:Nat}{p:List Int}(h:Sz n p)(i:Nat):bl (p.getD i 0).natAbs≤n:=h i
theorem Sz.mono{n m:Nat}{p:List Int}(h:Sz n p)(hm:n≤m):Sz m p:=fun i=>Nat.le_trans (h i) hm
theorem Sz.tzl{n:Nat}{p:List Int}(h:Sz n p):Sz n (tzl p):=fun i=>by rw [Ku];exact h i
theorem Sz.nil(n:Nat):Sz n []:=fun i=>by simp [cf,Lj]
theorem Sz.take{n:Nat}{p:List Int}(h:Sz n p)(k:Nat):Sz n (p.take k):=fun i=>by
 rw [Fb];split
 ·exact h i
 ·simp [Lj]
theorem Sz.mem{n:Nat}{p:List Int}(h:Sz n p){x:Int}(hx:x∈p):bl x.natAbs≤n:=by
 obtain⟨i,hi,rfl⟩:=List.mem_iff_getElem.1 hx
 have:=h i
 rwa [Zbz hi]at this
theorem Sz.of_mem{n:Nat}{p:List Int}(h:∀x∈p,bl x.natAbs≤n):Sz n p:=fun i=>by
 rcases Nat.lt_or_ge i p.length with hi | hi
 ·rw [Zbz hi];exact h _ (List.getElem_mem hi)
 ·rw [Yj hi];simp [Lj]
structure Vp (p:List Int):Prop where
 sz:Sz 65536 p
 tr:Tr p
 len:p.length≤25
def wr(x:Int):Bool×ByteArray:=(decide (x<0),Xp x.natAbs)
def okP(r:List (Bool×ByteArray)):Bool:=r.all (fun w=>okW w.1 w.2) && (decide (r.length≤25) && (decide (r.length=0) || decide ((r.getD (r.length-1) (false,⟨#[]⟩)).2.size≠0)))
theorem Zd1{x:Int} : (Xp x.natAbs).size=0↔x=0:=by
 rw [Fx]
 have:=Ph (by omega:2≤256) x.natAbs
 omega
theorem Zbt(xs:List Int)(i:Nat)(h:i<xs.length):(xs.map wr).getD i (false,⟨#[]⟩)=wr (cf xs i):=by
 rw [Zbz h];simp [List.getD,h]
theorem okP_wr{xs:List Int}(h:Vp xs):okP (xs.map wr)=true:=by
 unfold okP
 rw [Bool.and_eq_true,Bool.and_eq_true,Bool.or_eq_true]
 refine⟨List.all_eq_true.2 fun w hw=>?_,by simpa using h.len,?_⟩
 ·obtain⟨x,hx,rfl⟩:=List.mem_map.1 hw
  exact Zbj (h.sz.mem hx)
 ·rcases h.tr with h0 | h0
  ·left;simp [h0]
  ·right
   have hl:0<xs.length:=by
    rcases Nat.eq_zero_or_pos xs.length with h1 | h1
    ·rw [Yj O]at h0;exact absurd rfl h0
    ·exact h1
   rw [List.length_map,Zbt _ _ O]
   refine decide_eq_true fun he=>h0 (Zd1.1 he)
theorem Zqz{r:List (Bool×ByteArray)}(h:∀w∈r,okW w.1 w.2=true):∃xs:List Int,(∀x∈xs,bl x.natAbs≤65536)∧r=xs.map wr:=by
 induction r with
 | nil=>exact⟨[],O5,rfl⟩
 | cons w r ih=>
  obtain⟨xs,h1,h2⟩:=ih fun u hu=>h u (List.mem_cons_of_mem _ hu)
  obtain⟨x,hx,h3,h4⟩:=Zn1 (h w (List.mem_cons_self ..))
  refine⟨x :: xs,fun y hy=>?_,?_⟩
  ·rcases List.mem_cons.1 hy with rfl | hy
   ·exact hx
   ·exact h1 y hy
  ·rw [List.map_cons,←h2,wr,←h3,←h4]
theorem okP_ex{r:List (Bool×ByteArray)}(h:okP r=true):∃xs:List Int,Vp xs∧r=xs.map wr:=by
 unfold okP at h
 rw [Bool.and_eq_true,Bool.and_eq_true,Bool.or_eq_true]at h
 obtain⟨h1,h2,h3⟩:=h
 obtain⟨xs,h4,rfl⟩:=Zqz (List.all_eq_true.1 h1)
 refine⟨xs,⟨Sz.of_mem h4,?_,by simpa using h2⟩,rfl⟩
 rcases h3 with h3 | h3
 ·left;exact List.eq_nil_of_length_eq_zero (by simpa using h3)
 ·rcases Nat.eq_zero_or_pos xs.length with h5 | h5
  ·left;exact List.eq_nil_of_length_eq_zero h5
  ·right
   rw [List.length_map,Zbt _ _ O]at h3
   exact fun he=>of_decide_eq_true h3 (Zd1.2 he)
theorem Zip{xs:List Int}{k j:Nat}(h:j<k)(h0:(xs.take k).getD j 0=0):cf xs j=0:=by rw [Zcs _ _ _ _ h]at h0;exact h0
theorem Zef{xs:List Int}{k j:Nat}(h:j<k)(h0:¬((xs.take k).getD j 0).sign=0):cf xs j≠0:=fun e=>h0 (by rw [Zcs _ _ _ _ h];rw [show xs.getD j 0=0 from e];rfl)
theorem Yh9{r:List (Bool×ByteArray)}{w:Bool×ByteArray}(hw:w∈r)(h:okW w.1 w.2=false):okP r=false:=by
 unfold okP
 rw [show r.all (fun w=>okW w.1 w.2)=false from List.all_eq_false.2 ⟨w,hw,by simp [h]⟩];rfl
theorem Zn2{xs:List Int}(h:∀x∈xs,bl x.natAbs≤65536):okP (xs.map wr)=(decide (xs.length≤25) && (decide (xs.length=0) || decide (¬(xs.getD (xs.length-1) 0).sign=0))):=by
 unfold okP
 rw [show(xs.map wr).all (fun w=>okW w.1 w.2)=true from List.all_eq_true.2 fun w hw=>by
  obtain⟨x,hx,rfl⟩:=List.mem_map.1 hw
  exact Zbj (h x hx)]
 rw [List.length_map,Bool.true_and]
 congr 1
 by_cases h0:xs.length=0
 ·simp [h0]
 ·rw [decide_eq_false h0,Bool.false_or,Bool.false_or,Zbt _ _ O]
  rw [decide_eq_decide,Int.sign_eq_zero_iff_zero]
  exact not_congr Zd1
def err(e x:Int):Int:=if e=0 then Zhp x else e
theorem Zue{x:Int}(h:bl x.natAbs≤65536):err 0 x=0:=by unfold err;rw [if_pos rfl,Zol h]
def Qh:List Int→Nat
 | []=>0
 | x :: r=>max (bl x.natAbs) (Qh r)
theorem Ln(p:List Int):Sz (Qh p) p:=by
 refine Sz.of_mem fun x hx=>?_
 induction p with
 | nil=>cases hx
 | cons y r ih=>
  rcases List.mem_cons.1 hx with rfl | h
  ·simp only [Qh];omega
  ·have:=ih h;simp only [Qh];omega
theorem Qz{n:Nat}{p:List Int}(h:Sz n p):Qh p≤n:=by
 have h2:∀x∈p,bl x.natAbs≤n:=fun x hx=>h.mem hx
 clear h
 induction p with
 | nil=>exact Nat.zero_le _
 | cons y r ih=>
  have:=h2 y (List.mem_cons_self ..)
  have:=ih fun x hx=>h2 x (List.mem_cons_of_mem _ hx)
  simp only [Qh];omega
theorem Ydo(p:List Int)(x:Int):Qh (p ++ [x])=max (Qh p) (bl x.natAbs):=by
 induction p with
 | nil=>simp [Qh]
 | cons y r ih=>simp only [List.cons_append,Qh,ih];omega
variable {P:Program} {N:Nat} {sc:Nat→Prop} {env env':Qt} {H H':Hp} {Q Q':Exit→Act→World→Prop} {M:Nat→Prop}
theorem fpm{α β:Type}{f:α→β}{xs:List α}{p:Prop}(h:xs.map f≠[]∧p):xs≠[]∧p:=⟨fun e=>h.1 (by rw [e];rfl),h.2⟩
theorem fpn{α β:Type}{f:α→β}{xs:List α}{p:Prop}(h:xs≠[]∧p):xs.map f≠[]∧p:=⟨fun e=>h.1 (List.map_eq_nil_iff.1 e),h.2⟩
theorem Zs5(v:Value)(xs:List Int)(w:World)(h:(Ym 2 wv v xs).holds w):(Ym 2 (fun w:Bool×ByteArray=>Value.agg #[.bool w.1,.string w.2]) v (xs.map wr)).holds w:=by
 obtain⟨⟨a,c,h0,h1,h2,h3⟩,hb⟩:=h
 refine⟨⟨a,c,by rw [List.length_map];exact h0,by rw [List.length_map];exact h1,h2,?_⟩,fun b h=>hb b (fpm h)⟩
 rcases h3 with h3 | ⟨g,off,h3,h4⟩
 ·left;rw [h3];rfl
 ·right
  refine⟨g,off,h3,fun i x hi j u hu=>?_⟩
  rw [List.getElem?_map]at hi
  cases hx:xs[i]? with
  | none=>rw [hx]at hi;cases hi
  | some y=>rw [hx]at hi;cases hi;exact h4 i y hx j u hu
theorem Yhf(v:Value)(xs:List Int)(w:World)(h:(Ym 2 (fun w:Bool×ByteArray=>Value.agg #[.bool w.1,.string w.2]) v (xs.map wr)).holds w):(Ym 2 wv v xs).holds w:=by
 obtain⟨⟨a,c,h0,h1,h2,h3⟩,hb⟩:=h
 rw [List.length_map]at h0 h1
 refine⟨⟨a,c,h0,h1,h2,?_⟩,fun b h=>hb b (fpn h)⟩
 rcases h3 with h3 | ⟨g,off,h3,h4⟩
 ·left;simpa using h3
 ·right
  refine⟨g,off,h3,fun i x hi j u hu=>?_⟩
  exact h4 i (wr x) (by rw [List.getElem?_map,hi];rfl) j u hu
theorem Cal.imp{f:FuncId}{args:Array Value}{p q:Pc}{pre:List Pc}{al:Bool}{G:Type}{φ:G→Prop}{Yc:G→Value}{its:G→List Pc}(h:Cal P f args (p :: pre) al φ Yc its)(hh:∀w,q.holds w→p.holds w)(hf:∀b,p.fp b→q.fp b) :
  Cal P f args (q :: pre) al φ Yc its:=fun w hp=>by
 refine(h w fun r hr=>?_).mono ?_
 ·rcases List.mem_cons.1 hr with rfl | hr
  ·exact hh w (hp q (List.mem_cons_self ..))
  ·exact hp r (List.mem_cons_of_mem _ hr)
 ·rintro e w' ⟨g,he,hg,hb,hits⟩
  refine⟨g,he,hg,hb,fun p' hp'=>?_⟩
  obtain⟨h1,h2,h3⟩:=hits p' hp'
  refine⟨h1,h2,fun b hb=>?_⟩
  rcases h3 b hb with h | ⟨h,r,hr,hrb⟩
  ·exact .inl h
  ·refine .inr ⟨h,?_⟩
   rcases List.mem_cons.1 hr with rfl | hr
   ·exact⟨q,List.mem_cons_self ..,hf b hrb⟩
   ·exact⟨r,List.mem_cons_of_mem _ hr,hrb⟩
end Go.Sky
namespace Go.Sky
def fill(n k:Nat)(f:Nat→Int):List Int:=mk n fun i=>if i<k then f i else 0
theorem Qi(n k:Nat)(f:Nat→Int):(fill n k f).length=n:=Yi _ _
theorem Zbu{n k:Nat}{f:Nat→Int}(h:k<n):(fill n k f).set k (f k)=fill n (k+1) f:=Lo (by simp [Qi]) fun i hi=>by
 rw [List.length_set,Qi]at hi
 rw [Zkv _ _ _ _ (by rw [Qi];exact h)]
 unfold fill
 rw [Ol,Ol,if_pos hi,if_pos hi]
 by_cases hk:i=k
 ·subst hk;rw [if_pos rfl,if_pos O]
 ·rw [if_neg hk]
  by_cases h2:i<k
  ·rw [if_pos h2,if_pos O]
  ·rw [if_neg h2,if_neg O]
theorem Du(n:Nat)(f:Nat→Int):List.replicate n 0=fill n 0 f:=Lo (by simp [Qi]) fun i hi=>by
 rw [List.length_replicate]at hi
 unfold fill;rw [Ol,if_pos hi,if_neg O,Zbz (by simpa using hi)];simp
theorem Gz(n:Nat)(f:Nat→Int):fill n n f=mk n f:=Ho fun i hi=>by rw [if_pos hi]
theorem Ydp(xs:List Int)(g:Int→Int):mk xs.length (fun i=>g (cf xs i))=xs.map g:=Lo (by simp [Yi]) fun i hi=>by
 rw [Yi]at hi
 rw [Ol,if_pos hi,Zbz hi,Zbz (p:=xs.map g) (by simpa using hi)];simp
theorem Zc7{n m:Nat}{f:Nat→Int}(h:∀i,i<n→bl (f i).natAbs≤m):Sz m (mk n f):=fun i=>by
 rw [Ol];split
 ·exact h i ‹_›
 ·simp [Lj]
theorem Oq{p:List Int}(h:Tr p):Tr (Yo p):=by
 unfold Yo
 rcases Nat.lt_or_ge 1 p.length with h1 | h1
 ·right
  rw [Yi,Ol,if_pos O]
  have h2:=h.mem (by intro e;rw [e]at h1;simp at h1)
  rw [show p.length-1-1+1=p.length-1 by omega]
  intro h3
  rcases Int.mul_eq_zero.1 h3 with h4 | h4
  ·exact h2 h4
  ·omega
 ·left
  exact List.eq_nil_of_length_eq_zero (by rw [Yi];omega)
theorem Zza(xs:List Int)(c:Int):tzl (fill xs.length xs.length fun i=>cf xs i*c)=Yb xs c:=by
 rw [Gz,Ydp xs (· * c)];rfl
theorem Yh3{xs:List Int}(h:Tr xs):tzl (fill (xs.length-1) (xs.length-1) fun i=>cf xs (i+1)*((i:Int)+1))=Yo xs:=by
 rw [Gz];exact Aq (Oq h)
theorem Yc2{p:List Int}(h:p.length=0):Yo p=[]:=List.eq_nil_of_length_eq_zero (by unfold Yo;rw [Yi];omega)
theorem Zjj(p:List Int)(x:Int):Ys (p ++ [x])=(Int.gcd (Ys p) x:Int):=by unfold Ys;rw [List.foldl_append];rfl
theorem Oe(p:List Int):0≤Ys p:=by
 rcases Zhy p with rfl | ⟨ys,y,rfl⟩
 ·exact Int.le_refl _
 ·rw [Zjj];omega
theorem Kj{p:List Int}{k:Nat}(h:k<p.length):Ys (p.take (k+1))=(Int.gcd (Ys (p.take k)) (p.getD k 0):Int):=by rw [Pa 0 _ _ h,Zjj]
theorem Zqw{n:Nat} : ∀(p:List Int),Sz n p→bl (Ys p).natAbs≤n:=fun p=>by
 have key:∀k,k≤p.length→Sz n p→bl (Ys (p.take k)).natAbs≤n:=by
  intro k
  induction k with
  | zero=>intro _ _;rw [List.take_zero];exact Nat.zero_le _
  | succ k ih=>
   intro hk hs
   rw [Kj hk]
   have h1:=ih O hs
   have h2:=hs k
   have:=Zpj (Ys (p.take k)).natAbs (p.getD k 0).natAbs
   have h4:bl (p.getD k 0).natAbs≤n:=h2
   show bl (Nat.gcd _ _)≤n
   omega
 intro hs
 have:=key p.length (Nat.le_refl _) hs
 rwa [List.take_length]at this
theorem Mh(p:List Int):∀i,Ys p∣cf p i:=by
 have key:∀k,k≤p.length→∀i,i<k→Ys (p.take k)∣cf p i:=by
  intro k
  induction k with
  | zero=>intro _ i hi;omega
  | succ k ih=>
   intro hk i hi
   rw [Kj hk]
   rcases Nat.lt_or_ge i k with h | h
   ·exact Int.dvd_trans (Int.gcd_dvd_left ..) (ih O i h)
   ·have:i=k:=O
    subst this
    exact Int.gcd_dvd_right ..
 intro i
 rcases Nat.lt_or_ge i p.length with h | h
 ·have:=key p.length (Nat.le_refl _) i h
  rwa [List.take_length]at this
 ·rw [Yj h];exact Int.dvd_zero _
theorem Zbi(p:List Int):Ys p=0↔∀i,cf p i=0:=by
 refine⟨fun h i=>by have:=Mh p i;rw [h]at this;exact Int.zero_dvd.1 this,fun h=>?_⟩
 have key:∀k,k≤p.length→Ys (p.take k)=0:=by
  intro k
  induction k with
  | zero=>intro _;rfl
  | succ k ih=>
   intro hk
   rw [Kj hk,ih O]
   have:=h k
   rw [show p.getD k 0=0 from this];rfl
 have:=key p.length (Nat.le_refl _)
 rwa [List.take_length]at this
theorem Gk{p:List Int}{d:Int}(h:∀i,d∣cf p i):d∣Ys p:=by
 have key:∀k,k≤p.length→d∣Ys (p.take k):=by
  intro k
  induction k with
  | zero=>intro _;exact Int.dvd_zero _
  | succ k ih=>
   intro hk
   rw [Kj hk]
   exact Int.dvd_coe_gcd (ih O) (h k)
 have:=key p.length (Nat.le_refl _)
 rwa [List.take_length]at this
theorem Ai(p:List Int)(i:Nat):cf (Zu p) i=cf p i/Ys p:=by
 unfold Zu
 rw [Zd0 _ _ O5]
theorem Zt(p:List Int):(Zu p).length=p.length:=by simp [Zu]
theorem Zan{x y:Int}{n:Nat}(h:y∣x)(hx:bl x.natAbs≤n):bl (x/y).natAbs≤n:=by
 have h1:(x/y).natAbs≤x.natAbs:=Int.natAbs_ediv_le_natAbs x y
 exact Nat.le_trans (Ps h1) hx
theorem Yq{p:List Int}(h:Tr p):Tr (Zu p):=by
 rcases h with rfl | h
 ·left;rfl
 ·right
  rw [Ai,Zt]
  intro h0
  have hd:=Mh p (p.length-1)
  have:=Int.mul_ediv_cancel' hd
  rw [h0,Int.mul_zero]at this
  exact h this.symm
theorem Gn{n:Nat}{p:List Int}(h:Sz n p):Sz n (Zu p):=fun i=>by rw [Ai];exact Zan (Mh p i) (h i)
theorem Kf{p:List Int}(h:Vp p):Vp (Zu p):=⟨Gn h.sz,Yq h.tr,by rw [Zt];exact h.len⟩
theorem Vp.ne{p:List Int}(h:Vp p)(h0:p≠[]):Ys p≠0:=fun e=>h.tr.mem h0 ((Zbi p).1 e _)
def Lp(p:List Int)(n d:Int)(i:Nat):Int:=Ye (fun m=>cf p (i+m)*(n^m*d^(p.length-1-(i+m)))) (p.length-i)
theorem Zri(p:List Int)(n d:Int):Lp p n d 0=pev p n d:=by unfold Lp pev;simp only [Nat.zero_add,Nat.sub_zero]
theorem Yi0{p:List Int}(n d:Int)(h:0<p.length):Lp p n d (p.length-1)=cf p (p.length-1):=by
 unfold Lp
 rw [show p.length-(p.length-1)=0+1 by omega,Yk,Kz]
 simp
theorem Yem{p:List Int}(n d:Int){i:Nat}(h:i<p.length):Lp p n d i=Lp p n d (i+1)*n+cf p i*d^(p.length-1-i):=by
 unfold Lp
 rw [show p.length-i=p.length-(i+1)+1 by omega,Lx]
 rw [←Au]
 have:Ye (fun m=>cf p (i+(m+1))*(n^(m+1)*d^(p.length-1-(i+(m+1))))) (p.length-(i+1))=Ye (fun m=>cf p (i+1+m)*(n^m*d^(p.length-1-(i+1+m)))*n) (p.length-(i+1)):=
  Yh fun m hm=>by rw [show i+(m+1)=i+1+m by omega,Int.pow_succ];grind
 rw [this]
 simp only [Nat.add_zero,Int.pow_zero,Int.one_mul]
 omega
theorem Yf0{K:Nat}{f:Nat→Int} : ∀{n:Nat},(∀i,i<n→bl (f i).natAbs≤K)→(Ye f n).natAbs≤n*(2^K-1)
 | 0,_=>by simp [Ye]
 | n+1,h=>by
  have ih:=Yf0 (n:=n) fun i hi=>h i O
  have h1:=(Xo K _).1 (h n O)
  rw [Yk,Nat.add_mul]
  have:=Int.natAbs_add_le (Ye f n) (f n)
  omega
theorem Zie{K:Nat}{f:Nat→Int}{n:Nat}(h:∀i,i<n→bl (f i).natAbs≤K)(hn:n≤31):bl (Ye f n).natAbs≤K+5:=by
 rw [Xo]
 have h1:=Yf0 h
 have h2:n*(2^K-1)≤31*(2^K-1):=Nat.mul_le_mul_right _ hn
 have h3:0<2^K:=Nat.two_pow_pos K
 rw [Nat.pow_add]
 omega
theorem Ej(x:Int){m:Nat}(h:bl x.natAbs≤m):∀k,0<k→bl (x^k).natAbs≤k*m
 | 0,h0=>O
 | 1,_=>by rw [Int.pow_succ,Int.pow_zero,Int.one_mul,Nat.one_mul];exact h
 | k+2,_=>by
  have ih:=Ej x h (k+1) O
  rw [Int.pow_succ,show k+2=(k+1)+1 from rfl,Nat.add_mul (k+1) 1 m]
  have:=Yv (x^(k+1)) x
  omega
theorem Zid{a n d:Int}{A m i j:Nat}(ha:bl a.natAbs≤A)(hn:bl n.natAbs≤m)(hd:bl d.natAbs≤m):bl (a*(n^i*d^j)).natAbs≤A+(i+j)*m:=by
 rcases Nat.eq_zero_or_pos i with rfl | hi
 ·rcases Nat.eq_zero_or_pos j with rfl | hj
  ·simp;exact ha
  ·have h1:=Ej d hd j hj
   have h2:=Yv a (n^0*d^j)
   rw [Int.pow_zero,Int.one_mul]at h2 ⊢
   rw [Nat.zero_add];omega
 ·rcases Nat.eq_zero_or_pos j with rfl | hj
  ·have h1:=Ej n hn i hi
   have h2:=Yv a (n^i*d^0)
   rw [Int.pow_zero,Int.mul_one]at h2 ⊢
   rw [Nat.add_zero];omega
  ·have h1:=Ej n hn i hi
   have h2:=Ej d hd j hj
   have h3:=Yv (n^i) (d^j)
   have h4:=Yv a (n^i*d^j)
   rw [Nat.add_mul];omega
theorem Yf3{p:List Int}{n d:Int}{A m:Nat}(hp:Sz A p)(hn:bl n.natAbs≤m)(hd:bl d.natAbs≤m)(hl:p.length≤31)(i:Nat):bl (Lp p n d i).natAbs≤A+(p.length-1-i)*m+5:=by
 unfold Lp
 refine Zie (fun k hk=>?_) O
 have h1:=Zid (i:=k) (j:=p.length-1-(i+k)) (hp (i+k)) hn hd
 rw [show k+(p.length-1-(i+k))=p.length-1-i by omega]at h1
 exact h1
def Lg(p:List Int)(n d:Int):Prop:=p≠[]∧65536<Qh p+(p.length-1)*Qh [n,d]+8
instance (p:List Int) (n d:Int):Decidable (Lg p n d):=by unfold Lg;infer_instance
def evv(p:List Int)(n d:Int):Int:=if Lg p n d then 0 else pev p n d
def eve(p:List Int)(n d:Int):Int:=if Lg p n d then 7 else 0
abbrev wc (x:Int):Array Value:=#[.bool (decide (x<0)),.string (Xp x.natAbs)]
section
variable {p:List Int} {n d:Int} (hF:Qh p+(p.length-1)*Qh [n,d]+8≤65536) (hl:p.length≤25)
include hF
theorem Zhc:bl n.natAbs≤Qh [n,d]∧bl d.natAbs≤Qh [n,d]:=by simp only [Qh];omega
theorem Zou{k:Nat} : bl (d^(p.length-1-k)).natAbs≤65536:=by
 rcases Nat.eq_zero_or_pos (p.length-1-k)with h | h
 ·rw [h,Int.pow_zero];decide
 ·have h1:=Ej d (Zhc hF).2 _ h
  have h2:(p.length-1-k)*Qh [n,d]≤(p.length-1)*Qh [n,d]:=Nat.mul_le_mul_right _ O
  omega
theorem Zot{k:Nat} : bl (cf p k*d^(p.length-1-k)).natAbs≤65536:=by
 have h1:=Zid (i:=0) (j:=p.length-1-k) (Ln p k) (Zhc hF).1 (Zhc hF).2
 have h2:(0+(p.length-1-k))*Qh [n,d]≤(p.length-1)*Qh [n,d]:=Nat.mul_le_mul_right _ O
 rw [Int.pow_zero,Int.one_mul]at h1
 omega
include hl
theorem Zov(k:Nat):bl (Lp p n d k).natAbs≤65536:=by
 have h1:=Yf3 (Ln p) (Zhc hF).1 (Zhc hF).2 O k
 have h2:(p.length-1-k)*Qh [n,d]≤(p.length-1)*Qh [n,d]:=Nat.mul_le_mul_right _ O
 omega
theorem Zud{k:Nat}(h1:1≤k)(h2:k≤p.length-1):bl (Lp p n d k*n).natAbs≤65536:=by
 have h3:=Yf3 (Ln p) (Zhc hF).1 (Zhc hF).2 O k
 have h4:=Yv (Lp p n d k) n
 have h5:=(Zhc hF).1
 have h6:(p.length-1-k)*Qh [n,d]+Qh [n,d]≤(p.length-1)*Qh [n,d]:=by
  rw [←Nat.succ_mul];exact Nat.mul_le_mul_right _ O
 omega
end
theorem evv_bl{p:List Int}{n d:Int}(hl:p.length≤25):bl (evv p n d).natAbs≤65536:=by
 unfold evv
 split
 ·decide
 ·rename_i h
  rcases Nat.eq_zero_or_pos p.length with h0 | h0
  ·rw [List.eq_nil_of_length_eq_zero h0,show pev [] n d=0 from rfl];decide
  ·rw [←Zri]
   have hne:p≠[]:=fun e=>by rw [e]at h0;simp at h0
   exact Zov (Nat.le_of_not_lt fun hlt=>h ⟨hne,hlt⟩) hl 0
theorem Ycq(d:Int){L k:Nat}(h1:1≤k)(h2:k≤L):d^(L-k)*d=d^(L-(k-1)):=by
 rw [show L-(k-1)=L-k+1 by omega,Int.pow_succ]
theorem Zz1{p:List Int}(n d:Int){k:Nat}(h1:1≤k)(h2:k≤p.length-1):Lp p n d k*n+cf p (k-1)*d^(p.length-1-(k-1))=Lp p n d (k-1):=by
 rw [Yem n d (i:=k-1) O,show k-1+1=k by omega]
end Go.Sky
namespace Go.Sky
def acc(p q:List Int)(i t:Nat):Int:=Ye (fun k=>if k≤t then cf p k*cf q (t-k)else 0) i
def Ak(p q:List Int)(i j t:Nat):Int:=acc p q i t+if i≤t∧t<i+j then cf p i*cf q (t-i)else 0
theorem Yag(p q:List Int)(i:Nat):Ak p q i 0=acc p q i:=funext fun t=>by
 unfold Ak;rw [if_neg O,Int.add_zero]
theorem Ygh(p q:List Int)(i:Nat):Ak p q i q.length=acc p q (i+1):=funext fun t=>by
 unfold Ak acc
 rw [Yk]
 by_cases h:i≤t
 ·rw [if_pos h]
  by_cases h2:t<i+q.length
  ·rw [if_pos ⟨h,h2⟩]
  ·rw [if_neg (fun h=>h2 h.2),Yj (p:=q) O,Int.mul_zero]
 ·rw [if_neg h,if_neg (fun h2=>h h2.1)]
theorem Zju{L k:Nat}{f g:Nat→Int}(hk:k<L)(h:∀t,t<L→t≠k→f t=g t)(x:Int)(hx:x=g k):(mk L f).set k x=mk L g:=Lo (by simp [Yi]) fun t ht=>by
 rw [List.length_set,Yi]at ht
 rw [Zkv _ _ _ _ (by rw [Yi];exact hk),Ol,Ol,if_pos ht]
 by_cases htk:t=k
 ·rw [if_pos htk,htk,hx,if_pos hk]
 ·rw [if_neg htk,if_pos ht,h t ht htk]
theorem Ygg{p q:List Int}{L i j:Nat}(h:i+j<L):(mk L (Ak p q i j)).set (i+j) (Ak p q i j (i+j)+cf p i*cf q j)=mk L (Ak p q i (j+1)):=by
 refine Zju h (fun t ht hne=>?_) _ ?_
 ·unfold Ak
  by_cases h1:i≤t∧t<i+j
  ·rw [if_pos h1,if_pos O]
  ·rw [if_neg h1,if_neg O]
 ·unfold Ak
  rw [if_neg O,if_pos O,Int.add_zero,show i+j-i=j by omega]
theorem Zso(p q:List Int)(t:Nat):acc p q p.length t=(ps p*ps q).c t:=by
 rw [PS.mul_c]
 unfold acc
 have h1:Ye (fun k=>if k≤t then cf p k*cf q (t-k)else 0) (max (t+1) p.length)=Ye (fun k=>if k≤t then cf p k*cf q (t-k)else 0) p.length:=
  Bn O fun k h1 _=>by rw [Yj h1,Int.zero_mul];split<;>rfl
 have h2:Ye (fun k=>if k≤t then cf p k*cf q (t-k)else 0) (max (t+1) p.length)=Ye (fun k=>if k≤t then cf p k*cf q (t-k)else 0) (t+1):=
  Bn O fun k h1 _=>by rw [if_neg O]
 rw [←h1,h2]
 exact Yh fun k hk=>by rw [if_pos O];rfl
theorem Ztf(L:Nat):List.replicate L 0=mk L fun _=>0:=by
 rw [Du L fun _=>0];unfold fill;exact Ho fun i _=>by split<;>rfl
theorem Ycv(p q:List Int):tzl (mk (p.length+q.length-1) (acc p q p.length))=Xm p q:=by
 unfold Xm;congr 1;exact Ho fun i _=>Zso p q i
theorem Ykd{p q:List Int}{A B i j t:Nat}(hp:Sz A p)(hq:Sz B q)(hi:i<31):bl (Ak p q i j t).natAbs≤A+B+5:=by
 have h:Ak p q i j t=Ye (fun k=>if k<i then(if k≤t then cf p k*cf q (t-k)else 0)else if i≤t∧t<i+j then cf p i*cf q (t-i)else 0) (i+1):=by
  rw [Yk]
  rw [if_neg (Nat.lt_irrefl i)]
  unfold Ak acc
  congr 1
  exact Yh fun k hk=>by rw [if_pos hk]
 rw [h]
 have hm:∀a b,bl (cf p a*cf q b).natAbs≤A+B:=fun a b=>by have:=Yv (cf p a) (cf q b);have:=hp a;have:=hq b;omega
 refine Zie (fun k hk=>?_) O
 split
 ·split
  ·exact hm _ _
  ·simp [Lj]
 ·split
  ·exact hm _ _
  ·simp [Lj]
theorem bl_acc{p q:List Int}{A B i t:Nat}(hp:Sz A p)(hq:Sz B q)(hi:i≤31):bl (acc p q i t).natAbs≤A+B+5:=by
 refine Zie (fun k hk=>?_) hi
 split
 ·have:=Yv (cf p k) (cf q (t-k));have:=hp k;have:=hq (t-k);omega
 ·simp [Lj]
def Zai(p q:List Int):Prop:=p≠[]∧q≠[]∧(24<p.length+q.length-2∨65536<Qh p+Qh q+5)
instance (p q:List Int):Decidable (Zai p q):=by unfold Zai;infer_instance
theorem Zct{L i:Nat}{f:Nat→Int}(h:i<L):(mk L f).getD i 0=f i:=by
 have:=Ol L f i;rw [if_pos h]at this;exact this
def Yjd(p q:List Int):Bool:=decide (q≠[]) && decide (p.length<q.length)
def Dk(p q:List Int):Int:=if q.length=0 then 3 else if p.length<q.length then 0 else if 65536<Qh p+(p.length-q.length+1)*(Qh q+1)then 7 else 0
def Zg2(q r:List Int)(top:Nat):List Int:=
 mk r.length fun t=>cf r t*cf q (q.length-1)-if top-(q.length-1)≤t∧t<top-(q.length-1)+q.length then cf r top*cf q (t-(top-(q.length-1)))else 0
def Qg(p q:List Int):Nat→List Int
 | 0=>p
 | j+1=>Zg2 q (Qg p q j) (p.length-1-j)
theorem Zfa(q r:List Int)(top:Nat):(Zg2 q r top).length=r.length:=Yi _ _
theorem Mg(p q:List Int):∀j,(Qg p q j).length=p.length
 | 0=>rfl
 | j+1=>by unfold Qg;rw [Zfa,Mg p q j]
def Xy(p q:List Int):List Int:=if p.length<q.length then p else tzl (Qg p q (p.length-q.length+1))
theorem Zse{q r:List Int}{top t:Nat}(ht:t<r.length):cf (Zg2 q r top) t=cf r t*cf q (q.length-1)-if top-(q.length-1)≤t∧t<top-(q.length-1)+q.length then cf r top*cf q (t-(top-(q.length-1)))else 0:=by
 unfold Zg2;rw [Ol,if_pos ht]
theorem Zx7{a b c d:Int}{A B:Nat}(ha:bl a.natAbs≤A)(hb:bl b.natAbs≤B)(hc:bl c.natAbs≤A)(hd:bl d.natAbs≤B):bl (a*b-c*d).natAbs≤A+(B+1):=by
 have h1:=Yv a b
 have h2:=Yv c d
 have h3:=Bh (a*b) (c*d)
 omega
theorem Ya5{q r:List Int}{A B:Nat}(hr:Sz A r)(hq:Sz B q)(top:Nat):Sz (A+(B+1)) (Zg2 q r top):=by
 unfold Zg2
 refine Zc7 fun t ht=>?_
 split
 ·exact Zx7 (hr t) (hq _) (hr _) (hq _)
 ·rw [Int.sub_zero]
  have:=Yv (cf r t) (cf q (q.length-1));have:=hr t;have:=hq (q.length-1);omega
theorem Zf0(p q:List Int):∀j,Sz (Qh p+j*(Qh q+1)) (Qg p q j)
 | 0=>by rw [Nat.zero_mul];exact Ln p
 | j+1=>by
  unfold Qg
  rw [Nat.succ_mul,←Nat.add_assoc]
  exact Ya5 (Zf0 p q j) (Ln q) _
def dq(q r:List Int)(k:Nat):Int:=cf r (k+q.length-1)/cf q (q.length-1)
def Zkh(q r:List Int)(k:Nat):List Int:=mk r.length fun t=>cf r t-if k≤t∧t<k+q.length then dq q r k*cf q (t-k)else 0
def Qk(p q:List Int):Nat→List Int
 | 0=>p
 | j+1=>Zkh q (Qk p q j) (p.length-q.length-j)
theorem Bk(p q:List Int):∀j,(Qk p q j).length=p.length
 | 0=>rfl
 | j+1=>by unfold Qk Zkh;rw [Yi,Bk p q j]
def Zxk(p q:List Int)(k:Nat):Int:=dq q (Qk p q (p.length-q.length-k)) k
def Ks(p q:List Int)(k:Nat):Prop:=cf (Qk p q (p.length-q.length-k)) (k+q.length-1)%cf q (q.length-1)=0
def Ycn(p q:List Int):List Int:=tzl (mk (p.length-q.length+1) (Zxk p q))
def pdivs(p q:List Int):Prop:=p=[]∨(q.length≤p.length∧(∀k,k≤p.length-q.length→Ks p q k)∧∀i,cf (Qk p q (p.length-q.length+1)) i=0)
theorem Ya7{q r:List Int}{A B:Nat}(hr:Sz A r)(hq:Sz B q)(k:Nat)(he:cf r (k+q.length-1)%cf q (q.length-1)=0):Sz (A+(B+1)) (Zkh q r k):=by
 unfold Zkh
 refine Zc7 fun t ht=>?_
 split
 ·have h1:bl (dq q r k).natAbs≤A:=Zan (Int.dvd_of_emod_eq_zero he) (hr _)
  have h2:=Yv (dq q r k) (cf q (t-k))
  have h3:=Bh (cf r t) (dq q r k*cf q (t-k))
  have:=hr t;have:=hq (t-k);omega
 ·rw [Int.sub_zero];have:=hr t;omega
theorem Zf2(p q:List Int):∀j,j≤p.length-q.length+1→(∀k,p.length-q.length<k+j→k≤p.length-q.length→Ks p q k)→Sz (Qh p+j*(Qh q+1)) (Qk p q j)
 | 0,_,_=>by rw [Nat.zero_mul];exact Ln p
 | j+1,hj,h=>by
  unfold Qk
  rw [Nat.succ_mul,←Nat.add_assoc]
  refine Ya7 (Zf2 p q j O fun k h1 h2=>h k O h2) (Ln q) _ ?_
  have:=h (p.length-q.length-j) O O
  unfold Ks at this
  rw [show p.length-q.length-(p.length-q.length-j)=j by omega]at this
  exact this
theorem Ye2{x y:Bool×ByteArray}(h:eqW x.1 x.2 y.1 y.2=true):x=y:=by
 obtain⟨h1,h2⟩:=Zox.1 h
 exact Prod.ext h1 h2
theorem Ye1(a:Bool)(s:ByteArray):eqW a s a s=true:=Zox.2 ⟨rfl,rfl⟩
theorem Yah(p q:List Int)(i j:Nat):Ak p q i (j+1) (i+j)=Ak p q i j (i+j)+cf p i*cf q j:=by
 unfold Ak
 rw [if_pos O,if_neg O,Int.add_zero,show i+j-i=j by omega]
theorem Zev{p q:List Int}(h:p.length=0∨q.length=0):Xm p q=[]:=by
 unfold Xm
 refine(Mv _).2 fun i=>?_
 rw [Ol]
 split
 ·rw [PS.mul_c]
  refine Gp fun k _=>?_
  rcases h with h | h
  ·rw [Om,Yj O,Int.zero_mul]
  ·rw [Om,Om,Yj (p:=q) O,Int.mul_zero]
 ·rfl
def Zhm(R:List Int)(l:Int)(i:Nat):List Int:=mk R.length fun t=>if t<i then cf R t*l else cf R t
def Zla(q R:List Int)(l c:Int)(s i:Nat):List Int:=mk R.length fun t=>cf R t*l-if s≤t∧t<s+i then c*cf q (t-s)else 0
theorem Zrb(R:List Int)(l:Int)(i:Nat):(Zhm R l i).length=R.length:=Yi _ _
theorem Zra(q R:List Int)(l c:Int)(s i:Nat):(Zla q R l c s i).length=R.length:=Yi _ _
theorem Zzl(R:List Int)(l:Int):Zhm R l 0=R:=by
 unfold Zhm
 refine Eq.trans (Ho fun i hi=>?_) (Ze6 R)
 rw [if_neg O]
theorem Ydn{R:List Int}{l:Int}{i:Nat}(h:i<R.length):(Zhm R l i).getD i 0=cf R i:=by
 unfold Zhm;rw [Zct h,if_neg O]
theorem Ydm{R:List Int}{l:Int}{i:Nat}(h:i<R.length):(Zhm R l i).set i (cf R i*l)=Zhm R l (i+1):=by
 unfold Zhm
 refine Zju h (fun t ht hne=>?_) _ (by rw [if_pos O])
 by_cases h2:t<i
 ·rw [if_pos h2,if_pos O]
 ·rw [if_neg h2,if_neg O]
theorem Zys(q R:List Int)(l c:Int)(s:Nat):Zhm R l R.length=Zla q R l c s 0:=by
 unfold Zhm Zla
 exact Ho fun i hi=>by rw [if_pos hi,if_neg O,Int.sub_zero]
theorem Ybb{q R:List Int}{l c:Int}{s i:Nat}(h:s+i<R.length):(Zla q R l c s i).getD (s+i) 0=cf R (s+i)*l:=by
 unfold Zla;rw [Zct h,if_neg O,Int.sub_zero]
theorem Yba{q R:List Int}{l c:Int}{s i:Nat}(h:s+i<R.length):(Zla q R l c s i).set (s+i) (cf R (s+i)*l-c*cf q i)=Zla q R l c s (i+1):=by
 unfold Zla
 refine Zju h (fun t ht hne=>?_) _ (by rw [if_pos O,show s+i-s=i by omega])
 by_cases h2:s≤t∧t<s+i
 ·rw [if_pos h2,if_pos O]
 ·rw [if_neg h2,if_neg O]
theorem rest_b{p q:List Int}{j:Nat}(hF:Qh p+(p.length-q.length+1)*(Qh q+1)≤65536)(hj:j<p.length-q.length+1) :
  (∀t,bl (cf (Qg p q j) t).natAbs≤65536)∧(∀t i,bl (cf (Qg p q j) t*cf q i).natAbs≤65536)∧(∀t i t2 i2,bl (cf (Qg p q j) t*cf q i-cf (Qg p q j) t2*cf q i2).natAbs≤65536):=by
 have h1:=Zf0 p q j
 have h2:j*(Qh q+1)+(Qh q+1)≤(p.length-q.length+1)*(Qh q+1):=by rw [←Nat.succ_mul];exact Nat.mul_le_mul_right _ O
 refine⟨fun t=>by have:=h1 t;omega,fun t i=>?_,fun t i t2 i2=>?_⟩
 ·have:=h1 t;have:=Ln q i;have:=Yv (cf (Qg p q j) t) (cf q i);omega
 ·have:=Zx7 (h1 t) (Ln q i) (h1 t2) (Ln q i2);omega
theorem Zp2{p q:List Int}(hF:Qh p+(p.length-q.length+1)*(Qh q+1)≤65536):Sz 65536 (Qg p q (p.length-q.length+1)):=(Zf0 p q _).mono hF
theorem Zcw{p q:List Int}(h:Dk p q=0):q.length≠0∧(q.length≤p.length→Qh p+(p.length-q.length+1)*(Qh q+1)≤65536):=by
 unfold Dk at h
 split at h
 ·omega
 ·refine⟨‹_›,fun hle=>?_⟩
  rw [if_neg O]at h
  split at h
  ·omega
  ·omega
theorem Zfk{p q:List Int}(h:q.length≠0):Yjd p q=decide (p.length<q.length):=by
 unfold Yjd
 have h2:q≠[]:=fun e=>h (by rw [e];rfl)
 simp [h2]
def Zlg(q R:List Int)(c:Int)(k i:Nat):List Int:=mk R.length fun t=>cf R t-if k≤t∧t<k+i then c*cf q (t-k)else 0
theorem Zrc(q R:List Int)(c:Int)(k i:Nat):(Zlg q R c k i).length=R.length:=Yi _ _
theorem Zz3(q R:List Int)(c:Int)(k:Nat):R=Zlg q R c k 0:=by
 unfold Zlg
 refine Eq.trans (Ze6 R).symm (Ho fun i hi=>?_)
 rw [if_neg O,Int.sub_zero]
theorem Ye7{q R:List Int}{c:Int}{k i:Nat}(h:k+i<R.length):(Zlg q R c k i).getD (k+i) 0=cf R (k+i):=by
 unfold Zlg;rw [Zct h,if_neg O,Int.sub_zero]
theorem Ye6{q R:List Int}{c:Int}{k i:Nat}(h:k+i<R.length):(Zlg q R c k i).set (k+i) (cf R (k+i)-c*cf q i)=Zlg q R c k (i+1):=by
 unfold Zlg
 refine Zju h (fun t ht hne=>?_) _ (by rw [if_pos O,show k+i-k=i by omega])
 by_cases h2:k≤t∧t<k+i
 ·rw [if_pos h2,if_pos O]
 ·rw [if_neg h2,if_neg O]
def Zgk(p q:List Int)(j:Nat):List Int:=mk (p.length-q.length+1) fun t=>if p.length-q.length<t+j then Zxk p q t else 0
theorem Zbo(p q:List Int)(j:Nat):(Zgk p q j).length=p.length-q.length+1:=Yi _ _
theorem Zz6(p q:List Int):List.replicate (p.length-q.length+1) 0=Zgk p q 0:=by
 rw [Ztf];unfold Zgk
 exact Ho fun i hi=>by rw [if_neg O]
theorem Yfa{p q:List Int}{j:Nat}(hj:j<p.length-q.length+1):(Zgk p q j).set (p.length-q.length-j) (dq q (Qk p q j) (p.length-q.length-j))=Zgk p q (j+1):=by
 unfold Zgk
 refine Zju O (fun t ht hne=>?_) _ ?_
 ·by_cases h2:p.length-q.length<t+j
  ·rw [if_pos h2,if_pos O]
  ·rw [if_neg h2,if_neg O]
 ·rw [if_pos O];unfold Zxk;rw [show p.length-q.length-(p.length-q.length-j)=j by omega]
theorem Zfj(p q:List Int):tzl (Zgk p q (p.length-q.length+1))=Ycn p q:=by
 unfold Zgk Ycn
 congr 1
 exact Ho fun i hi=>by rw [if_pos O]
def pdv(p q:List Int):Prop:=p=[]∨(q.length≤p.length∧(∀k,k≤p.length-q.length→Ks p q k)∧tzl (Qk p q (p.length-q.length+1))=[])
instance (p q:List Int) (k:Nat):Decidable (Ks p q k):=by unfold Ks;infer_instance
instance (p q:List Int):Decidable (pdv p q):=by unfold pdv;infer_instance
theorem div_b{p q:List Int}{j:Nat}(hF:Qh p+(p.length-q.length+1)*(Qh q+1)≤65536)(hj:j<p.length-q.length+1)(hx:∀k,p.length-q.length<k+j→k≤p.length-q.length→Ks p q k) :
  (∀t,bl (cf (Qk p q j) t).natAbs≤65536)∧(Ks p q (p.length-q.length-j)→bl (dq q (Qk p q j) (p.length-q.length-j)).natAbs≤65536∧(∀i,bl (dq q (Qk p q j) (p.length-q.length-j)*cf q i).natAbs≤65536)∧
   ∀t i,bl (cf (Qk p q j) t-dq q (Qk p q j) (p.length-q.length-j)*cf q i).natAbs≤65536):=by
 have h1:=Zf2 p q j O hx
 have h2:j*(Qh q+1)+(Qh q+1)≤(p.length-q.length+1)*(Qh q+1):=by rw [←Nat.succ_mul];exact Nat.mul_le_mul_right _ O
 refine⟨fun t=>by have:=h1 t;omega,fun he=>?_⟩
 unfold Ks at he
 rw [show p.length-q.length-(p.length-q.length-j)=j by omega]at he
 have h3:bl (dq q (Qk p q j) (p.length-q.length-j)).natAbs≤Qh p+j*(Qh q+1):=Zan (Int.dvd_of_emod_eq_zero he) (h1 _)
 have h4:∀i,bl (dq q (Qk p q j) (p.length-q.length-j)*cf q i).natAbs≤Qh p+j*(Qh q+1)+Qh q:=fun i=>by
  have:=Yv (dq q (Qk p q j) (p.length-q.length-j)) (cf q i);have:=Ln q i;omega
 refine⟨O,fun i=>by have:=h4 i;omega,fun t i=>?_⟩
 have:=Bh (cf (Qk p q j) t) (dq q (Qk p q j) (p.length-q.length-j)*cf q i)
 have:=h4 i
 have:=h1 t
 omega
theorem Zvj{p q:List Int}(hF:Qh p+(p.length-q.length+1)*(Qh q+1)≤65536)(hx:∀k,k≤p.length-q.length→Ks p q k)(j:Nat):Sz 65536 (Zgk p q j):=by
 unfold Zgk
 refine Zc7 fun t ht=>?_
 split
 ·have h1:=(div_b hF (j:=p.length-q.length-t) O (fun k _ hk=>hx k hk)).2
  rw [show p.length-q.length-(p.length-q.length-t)=t by omega]at h1
  exact(h1 (hx t O)).1
 ·simp [Lj]
theorem Ya8{p q:List Int}(hF:Qh p+(p.length-q.length+1)*(Qh q+1)≤65536)(hx:∀k,k≤p.length-q.length→Ks p q k):Sz 65536 (Qk p q (p.length-q.length+1)):=
 (Zf2 p q _ (Nat.le_refl _) fun k _ hk=>hx k hk).mono hF
def Md(p:List Int)(a b d:Int):Nat→List Int
 | 0=>[cf p (p.length-1)]
 | j+1=>mk ((Md p a b d j).length+1) fun t=>cf (Md p a b d j) t*a+(if t=0 then cf p (p.length-2-j)*d^(j+1)else cf (Md p a b d j) (t-1)*b)
theorem Fw(p:List Int)(a b d:Int):Md p a b d 0=[cf p (p.length-1)]:=rfl
theorem Yac(p:List Int)(a b d:Int)(j:Nat):Md p a b d (j+1)=mk ((Md p a b d j).length+1) (fun t=>cf (Md p a b d j) t*a+(if t=0 then cf p (p.length-2-j)*d^(j+1)else cf (Md p a b d j) (t-1)*b)):=rfl
theorem Zbp(p:List Int)(a b d:Int):∀j,(Md p a b d j).length=j+1
 | 0=>rfl
 | j+1=>by unfold Md;rw [Yi,Zbp p a b d j]
def Lm(p:List Int)(a b d:Int):List Int:=if p.length=0 then []else tzl (Md p a b d (p.length-1))
def Zkp(p:List Int)(a b d:Int):Prop:=p≠[]∧65536<Qh p+(p.length-1)*(Qh [a,b,d]+1)+8
instance (p:List Int) (a b d:Int):Decidable (Zkp p a b d):=by unfold Zkp;infer_instance
def Ll(p q:List Int):List Int:=if p=[]then []else Ycn p q
theorem Zqq{p q:List Int}(h:p≠[]):Ll p q=Ycn p q:=if_neg h
theorem Zrw{p q:List Int}{j:Nat}(hj:j≤p.length-q.length):Ks p q (p.length-q.length-j)↔cf (Qk p q j) (p.length-q.length-j+q.length-1)%cf q (q.length-1)=0:=by
 unfold Ks;rw [show p.length-q.length-(p.length-q.length-j)=j by omega]
theorem Zsd{x y:Int}(hy:y≠0)(hb:bl y.natAbs≤65536):Bl (x%y)=x%y:=Mr (Nat.le_trans (Zx9 x y hy) hb)
def cnx(c:List Int)(a b:Int)(i:Nat):List Int:=mk (c.length+1) fun t=>if t<i then cf c t*a+(if t=0 then 0 else cf c (t-1)*b)else if t=i∧0<i then cf c (t-1)*b else 0
theorem Ik(c:List Int)(a b:Int)(i:Nat):(cnx c a b i).length=c.length+1:=Yi _ _
theorem Yfu(c:List Int)(a b:Int):List.replicate (c.length+1) 0=cnx c a b 0:=by
 rw [Ztf];unfold cnx
 exact Ho fun i hi=>by rw [if_neg O,if_neg O]
theorem Zxs{c:List Int}{a b:Int}{i:Nat}(h:i<c.length):(cnx c a b i).getD i 0=if i=0 then 0 else cf c (i-1)*b:=by
 unfold cnx
 rw [Zct O,if_neg O]
 by_cases h0:i=0
 ·rw [if_neg O,if_pos h0]
 ·rw [if_pos O,if_neg h0]
theorem Yjn{c:List Int}{a b:Int}{i:Nat}(h:i<c.length):((cnx c a b i).set i ((cnx c a b i).getD i 0+cf c i*a)).set (i+1) (cf c i*b)=cnx c a b (i+1):=Lo (by simp [Ik]) fun t ht=>by
 rw [List.length_set,List.length_set,Ik]at ht
 rw [Zkv _ _ _ _ (by rw [List.length_set,Ik];omega),Zkv _ _ _ _ (by rw [Ik];omega),Zxs h]
 unfold cnx
 rw [Ol,Ol,if_pos ht,if_pos ht]
 by_cases h1:t=i+1
 ·subst h1;rw [if_pos rfl,if_neg O,if_pos O,show i+1-1=i by omega]
 ·rw [if_neg h1]
  by_cases h2:t=i
  ·subst h2
   rw [if_pos rfl,if_pos (Nat.lt_succ_self t)]
   split<;>omega
  ·rw [if_neg h2]
   by_cases h3:t<i
   ·simp [h3,show t<i+1 by omega]
   ·simp [h3,h2,h1,show ¬t<i+1 by omega]
theorem Zsa{c:List Int}{a b:Int}(h:0<c.length):(cnx c a b c.length).getD 0 0=cf c 0*a:=by
 unfold cnx
 rw [Zct O,if_pos h,if_pos rfl,Int.add_zero]
theorem Yjo{c:List Int}{a b w:Int}(h:0<c.length):(cnx c a b c.length).set 0 ((cnx c a b c.length).getD 0 0+w)=mk (c.length+1) fun t=>cf c t*a+(if t=0 then w else cf c (t-1)*b):=Lo (by simp [Ik,Yi]) fun t ht=>by
 rw [List.length_set,Ik]at ht
 rw [Zkv _ _ _ _ (by rw [Ik];omega),Zsa h,Ol,if_pos ht]
 unfold cnx
 rw [Ol,if_pos ht]
 by_cases h1:t=0
 ·rw [if_pos h1,if_pos h1,h1]
 ·rw [if_neg h1,if_neg h1,if_neg h1]
  by_cases h2:t<c.length
  ·rw [if_pos h2]
  ·rw [if_neg h2,if_pos (show t=c.length∧0<c.length by omega),Yj (i:=t) O];omega
theorem Zhv{p:List Int}{x y z:Int}{A m:Nat}(hp:Sz A p)(hx:bl x.natAbs≤m)(hy:bl y.natAbs≤m)(hz:bl z.natAbs≤m):∀j,Sz (A+j*(m+1)) (Md p x y z j)
 | 0=>Sz.of_mem fun w hw=>by
  have hw:w∈[cf p (p.length-1)]:=hw
  rw [List.mem_singleton.1 hw];have:=hp (p.length-1);omega
 | j+1=>by
  have ih:=Zhv hp hx hy hz j
  unfold Md
  refine Zc7 fun t ht=>?_
  have h1:=Yv (cf (Md p x y z j) t) x
  have h2:=ih t
  have e:(j+1)*(m+1)=j*(m+1)+m+1:=by rw [Nat.succ_mul];omega
  split
  ·have h3:=Zid (i:=0) (j:=j+1) (hp (p.length-2-j)) hx hz
   rw [Int.pow_zero,Int.one_mul]at h3
   have h4:(0+(j+1))*m≤j*(m+1)+m:=by rw [Nat.zero_add,Nat.succ_mul];have:j*m≤j*(m+1):=Nat.mul_le_mul_left _ O;omega
   have h5:=Hy (cf (Md p x y z j) t*x) (cf p (p.length-2-j)*z^(j+1))
   omega
  ·have h3:=Yv (cf (Md p x y z j) (t-1)) y
   have h4:=ih (t-1)
   have h5:=Hy (cf (Md p x y z j) t*x) (cf (Md p x y z j) (t-1)*y)
   omega
section
variable {p:List Int} {x y z:Int} (hF:Qh p+(p.length-1)*(Qh [x,y,z]+1)+8≤65536) {j:Nat} (hj:j<p.length-1)
include hF hj
theorem cp_all:bl (z^j).natAbs≤65536∧bl (z^(j+1)).natAbs≤65536∧(∀t,bl (cf (Md p x y z j) t).natAbs≤65536)∧(∀t,bl (cf (Md p x y z j) t*x).natAbs≤65536)∧(∀t,bl (cf (Md p x y z j) t*y).natAbs≤65536)∧
  (∀t,bl ((if t=0 then 0 else cf (Md p x y z j) (t-1)*y)).natAbs≤65536)∧(∀t,bl ((if t=0 then 0 else cf (Md p x y z j) (t-1)*y)+cf (Md p x y z j) t*x).natAbs≤65536)∧
  bl (cf p (p.length-2-j)*z^(j+1)).natAbs≤65536∧bl (cf (Md p x y z j) 0*x+cf p (p.length-2-j)*z^(j+1)).natAbs≤65536:=by
 have hx:bl x.natAbs≤Qh [x,y,z]:=by simp only [Qh];omega
 have hy:bl y.natAbs≤Qh [x,y,z]:=by simp only [Qh];omega
 have hz:bl z.natAbs≤Qh [x,y,z]:=by simp only [Qh];omega
 have hc:=Zhv (Ln p) hx hy hz j
 generalize Qh [x,y,z]=m at *
 have e:j*(m+1)+(m+1)≤(p.length-1)*(m+1):=by rw [←Nat.succ_mul];exact Nat.mul_le_mul_right _ O
 have hjm:j*m≤j*(m+1):=Nat.mul_le_mul_left _ O
 have h3:=Zid (i:=0) (j:=j+1) (Ln p (p.length-2-j)) hx hz
 rw [Int.pow_zero,Int.one_mul,Nat.zero_add,Nat.succ_mul]at h3
 have hz1:=Ej z hz (j+1) O
 rw [Nat.succ_mul]at hz1
 have hp0:bl (z^j).natAbs≤65536:=by
  rcases Nat.eq_zero_or_pos j with h | h
  ·rw [h,Int.pow_zero];decide
  ·have:=Ej z hz j h;omega
 have g1:∀t,bl (cf (Md p x y z j) t*x).natAbs≤Qh p+j*(m+1)+m:=fun t=>by have:=Yv (cf (Md p x y z j) t) x;have:=hc t;omega
 have g2:∀t,bl (cf (Md p x y z j) t*y).natAbs≤Qh p+j*(m+1)+m:=fun t=>by have:=Yv (cf (Md p x y z j) t) y;have:=hc t;omega
 have g3:∀t,bl ((if t=0 then 0 else cf (Md p x y z j) (t-1)*y)).natAbs≤Qh p+j*(m+1)+m:=fun t=>by
  split
  ·simp [Lj]
  ·exact g2 _
 refine⟨hp0,O,fun t=>by have:=hc t;omega,fun t=>by have:=g1 t;omega,fun t=>by have:=g2 t;omega,fun t=>by have:=g3 t;omega,fun t=>?_,O,?_⟩
 ·have:=Hy (if t=0 then 0 else cf (Md p x y z j) (t-1)*y) (cf (Md p x y z j) t*x)
  have:=g1 t;have:=g3 t;omega
 ·have:=Hy (cf (Md p x y z j) 0*x) (cf p (p.length-2-j)*z^(j+1))
  have:=g1 0;omega
end
theorem Yjl{p:List Int}{x y z:Int}(hF:Qh p+(p.length-1)*(Qh [x,y,z]+1)+8≤65536):Sz 65536 (Md p x y z (p.length-1)):=by
 have hx:bl x.natAbs≤Qh [x,y,z]:=by simp only [Qh];omega
 have hy:bl y.natAbs≤Qh [x,y,z]:=by simp only [Qh];omega
 have hz:bl z.natAbs≤Qh [x,y,z]:=by simp only [Qh];omega
 exact(Zhv (Ln p) hx hy hz _).mono O
theorem Zhn(p q:List Int):(Xy p q).length≤p.length:=by
 unfold Xy
 split
 ·exact Nat.le_refl _
 ·have:=Kx (Qg p q (p.length-q.length+1));rw [Mg]at this;exact this
theorem Za6{p q:List Int}(hp:Vp p)(hd:Dk p q=0):Vp (Xy p q):=by
 have hl:=Zhn p q
 refine⟨?_,?_,by have:=hp.len;omega⟩
 ·unfold Xy
  split
  ·exact hp.sz
  ·exact(Zp2 ((Zcw hd).2 O)).tzl
 ·unfold Xy
  split
  ·exact hp.tr
  ·exact Qm _
def Zmm(p q:List Int):Prop:=p.length≠0∧q.length≠0∧65536<(max p.length q.length+2)*(max p.length q.length+2)*(max (Qh p) (Qh q)+8)
instance (p q:List Int):Decidable (Zmm p q):=by unfold Zmm;infer_instance
def gA(p q:List Int):List Int:=if p.length<q.length then Zu q else Zu p
def gB(p q:List Int):List Int:=if p.length<q.length then Zu p else Zu q
def eok:Nat→List Int→List Int→Prop
 | 0,_,b=>b=[]
 | f+1,a,b=>b=[]∨(Dk a b=0∧eok f b (Zu (Xy a b)))
def eu:Nat→List Int→List Int→List Int
 | 0,a,_=>a
 | f+1,a,b=>if b=[]then a else eu f b (Zu (Xy a b))
theorem Ye3{f:Nat}{a b:List Int}(h:eok f a b)(hb:b≠[]):∃g,f=g+1∧Dk a b=0∧eok g b (Zu (Xy a b))∧eu f a b=eu g b (Zu (Xy a b)):=by
 cases f with
 | zero=>exact absurd h hb
 | succ g=>
  rcases h with h | h
  ·exact absurd h hb
  ·exact⟨g,rfl,h.1,h.2,by show(if b=[]then a else _)=_;rw [if_neg hb]⟩
theorem Zgj(f:Nat)(a:List Int):eu f a []=a:=by cases f<;>rfl
def Il(g:List Int):List Int:=if g.length≠0∧cf g (g.length-1)<0 then Yb g (-1)else g
def Nr(f:Nat)(p q:List Int):List Int:=Il (eu f (gA p q) (gB p q))
theorem vp_gA{p q:List Int}(hp:Vp p)(hq:Vp q):Vp (gA p q):=by unfold gA;split<;>exact Kf ‹_›
theorem vp_gB{p q:List Int}(hp:Vp p)(hq:Vp q):Vp (gB p q):=by unfold gB;split<;>exact Kf ‹_›
theorem Zau{p:List Int}(h:Sz 65536 p)(i:Nat):bl (cf p i * -1).natAbs≤65536:=by
 rw [Int.mul_neg,Int.mul_one,Int.natAbs_neg];exact h i
theorem Pm(z:Int):z.sign<0↔z<0:=by
 rcases Int.lt_trichotomy z 0 with h | h | h
 ·rw [Int.sign_eq_neg_one_of_neg h];omega
 ·subst h;simp
 ·rw [Int.sign_eq_one_of_pos h];omega
end Go.Sky
namespace Go.Sky
theorem Zm9{l:List Int}(h:∀x∈l,Qx x):Sz 65536 l:=Sz.of_mem fun x hx=>by
 obtain⟨h1,h2⟩:=h x hx
 have:bl x.natAbs≤64:=(Xo 64 _).2 O
 omega
open Go.RowKit (Below)
set_option maxRecDepth 20000
theorem Ql:2≤1000000000:=O3
theorem Lz:0<1000000000:=O3
abbrev Hg (v:Value) (x:Nat):Pc:=Ym 1 Ha v (dg 1000000000 x)
theorem Kd(x:Nat):(dg 1000000000 x).length≤bl x:=by
 rw [Xg Ql]
 exact Nat.lt_of_lt_of_le (Ei x) (Nat.pow_le_pow_left O3 _)
theorem Zvd{b:Nat}(hb:2≤b){o:List Nat}(ho:∀d∈o,d<b){x:Nat}(hv:Yc b o=x)(h:o.length=0∨b^(o.length-1)≤x):o=dg b x:=by
 rw [←hv,Lt hb o ho]
 have h1:(tz o).length≤o.length:=(Dm o).1
 have h2:o.length≤(tz o).length:=by
  rw [←Lt hb o ho,hv]
  rcases h with h | h
  ·omega
  ·have:=(Oh hb (o.length-1) x).2 h;omega
 have h3:=(Dm o).2
 rw [List.take_of_length_le h2]at h3
 exact h3
theorem Zze{b:Nat}{o xs ys:List Nat}{k c:Nat}(hl:o.length=k)(h:Yc b o+c*b^k=Yc b (xs.take k)+Yc b (ys.take k)) :
  Yc b (o ++ [(c+xs.getD k 0+ys.getD k 0)%b])+(c+xs.getD k 0+ys.getD k 0)/b*b^(k+1)=Yc b (xs.take (k+1))+Yc b (ys.take (k+1)):=by
 rw [Ox,Xs,Xs,hl]
 have e:=Nat.div_add_mod (c+xs.getD k 0+ys.getD k 0) b
 generalize (c+xs.getD k 0+ys.getD k 0)/b=q at *
 generalize (c+xs.getD k 0+ys.getD k 0)%b=r at *
 simp only [Yc,Nat.pow_succ]
 generalize b^k=B at *
 have:(b*q+r)*B=(c+xs.getD k 0+ys.getD k 0)*B:=by rw [e]
 grind
def d9s(a b c:Nat):Nat:=if a<b+c then a+1000000000-(b+c)else a-(b+c)
theorem Zxo{a b c:Nat}(ha:a<1000000000)(hb:b<1000000000)(hc:c≤1):d9s a b c<1000000000∧d9s a b c+(b+c)=a+brw a b c*1000000000:=by
 unfold d9s brw
 split<;>omega
theorem Ztr{o xs ys:List Nat}{k c:Nat}(hc:c≤1)(hx:xs.getD k 0<1000000000)(hy:ys.getD k 0<1000000000)(hl:o.length=k)(h:Yc 1000000000 o+Yc 1000000000 (ys.take k)=Yc 1000000000 (xs.take k)+c*1000000000^k) :
  Yc 1000000000 (o ++ [d9s (xs.getD k 0) (ys.getD k 0) c])+Yc 1000000000 (ys.take (k+1))=Yc 1000000000 (xs.take (k+1))+brw (xs.getD k 0) (ys.getD k 0) c*1000000000^(k+1):=by
 rw [Ox,Xs,Xs,hl]
 have e:=(Zxo hx hy hc).2
 generalize d9s (xs.getD k 0) (ys.getD k 0) c=r at *
 generalize brw (xs.getD k 0) (ys.getD k 0) c=q at *
 simp only [Yc,Nat.pow_succ]
 generalize 1000000000^k=B at *
 have:(r+(ys.getD k 0+c))*B=(xs.getD k 0+q*1000000000)*B:=by rw [e]
 grind
theorem Zk3{p:Nat→Prop}{o:List Nat}(h:∀d∈o,p d){x:Nat}(hx:p x):∀d∈o ++ [x],p d:=fun d hd=>by
 rcases List.mem_append.1 hd with h1 | h1
 ·exact h d h1
 ·rw [List.mem_singleton.1 h1];exact hx
theorem Bx{b x k:Nat}(hb:2≤b)(h:k<(dg b x).length):b^k≤x:=(Oh hb k x).1 h
theorem Ge{b x k:Nat}(hb:2≤b)(h:(dg b x).length≤k):Yc b ((dg b x).take k)=x:=by rw [Nf _ _ _ h,Nm hb]
theorem Zp0{a b o c:Nat}(ha:a<1000000000)(hb:b<1000000000)(ho:o<1000000000)(hc:c<1000000000):(o+c+a*b)/1000000000<1000000000∧o+c+a*b≤9223372036854775807:=by
 have h:a*b≤999999999*999999999:=Nat.mul_le_mul O O
 refine⟨?_,O⟩
 rw [Nat.div_lt_iff_lt_mul Lz];omega
theorem Zsy{o xs ys:List Nat}{i k c V:Nat}(h:Yc 1000000000 o+c*1000000000^(i+k)=V+xs.getD i 0*1000000000^i*Yc 1000000000 (ys.take k))(hp:i+k<o.length) :
  Yc 1000000000 (o.set (i+k) ((o.getD (i+k) 0+c+xs.getD i 0*ys.getD k 0)%1000000000))+(o.getD (i+k) 0+c+xs.getD i 0*ys.getD k 0)/1000000000*1000000000^(i+(k+1))=V+xs.getD i 0*1000000000^i*Yc 1000000000 (ys.take (k+1)):=by
 have h1:=Zhu 1000000000 o o.length (i+k) ((o.getD (i+k) 0+c+xs.getD i 0*ys.getD k 0)%1000000000) hp hp
 rw [List.take_of_length_le (by rw [List.length_set];exact Nat.le_refl _),List.take_of_length_le (Nat.le_refl _)]at h1
 rw [Xs]
 have e:=Nat.div_add_mod (o.getD (i+k) 0+c+xs.getD i 0*ys.getD k 0) 1000000000
 generalize (o.getD (i+k) 0+c+xs.getD i 0*ys.getD k 0)/1000000000=q at *
 generalize (o.getD (i+k) 0+c+xs.getD i 0*ys.getD k 0)%1000000000=r at *
 generalize Yc 1000000000 (o.set (i+k) r)=W at *
 rw [show i+(k+1)=(i+k)+1 by omega,Nat.pow_succ]
 have e2:1000000000^(i+k)=1000000000^i*1000000000^k:=Nat.pow_add _ _ _
 rw [e2]at h h1 ⊢
 generalize 1000000000^i=A at *
 generalize 1000000000^k=B at *
 have h3:(1000000000*q+r)*(A*B)=(o.getD (i+k) 0+c+xs.getD i 0*ys.getD k 0)*(A*B):=by rw [e]
 simp only [Nat.add_mul]at h3
 have t1:q*(A*B*1000000000)=1000000000*q*(A*B):=O4
 have t2:xs.getD i 0*A*(Yc 1000000000 (ys.take k)+ys.getD k 0*B)=xs.getD i 0*A*Yc 1000000000 (ys.take k)+xs.getD i 0*ys.getD k 0*(A*B):=O4
 rw [t1,t2]
 omega
def Zhr(x y:Nat):Int:=if x<y then -1 else if y<x then 1 else 0
section
variable {P:Program} {N:Nat} {sc:Nat→Prop} {env env':Qt} {H H':Hp} {Q Q':Exit→Act→World→Prop} {M:Nat→Prop}
variable {o:Oper} {t t':TypeId} {x y:Operand} {m n:Nat}
theorem Ze3(ho:o.op= .binOp .add t x y t')(hx:ev env x=some (.int .i64 (m:Int)))(hy:ev env y=some (.int .i64 (n:Int)))(h:m+n≤9223372036854775807):Ml P N sc o env H (.int .i64 ((m+n:Nat):Int)):=by
 have:=Yfm (P:=P) (N:=N) (sc:=sc) (H:=H) ho hx hy 
 rwa [←Int.natCast_add]at this
theorem n_mul(ho:o.op= .binOp .mul t x y t')(hx:ev env x=some (.int .i64 (m:Int)))(hy:ev env y=some (.int .i64 (n:Int)))(h:m*n≤9223372036854775807):Ml P N sc o env H (.int .i64 ((m*n:Nat):Int)):=by
 have:=d_mul (P:=P) (N:=N) (sc:=sc) (H:=H) ho hx hy (by rw [←Int.natCast_mul];exact⟨O,O⟩)
 rwa [←Int.natCast_mul]at this
theorem Zjr(ho:o.op= .binOp .quo t x y t')(hx:ev env x=some (.int .i64 (m:Int)))(hy:ev env y=some (.int .i64 (n:Int)))(h:m≤9223372036854775807)(hn:0<n):Ml P N sc o env H (.int .i64 ((m/n:Nat):Int)):=by
 have:=Zda (P:=P) (N:=N) (sc:=sc) (H:=H) ho hx hy   
 rwa [←Int.natCast_ediv]at this
theorem Zq3(ho:o.op= .binOp .rem t x y t')(hx:ev env x=some (.int .i64 (m:Int)))(hy:ev env y=some (.int .i64 (n:Int)))(hn:0<n):Ml P N sc o env H (.int .i64 ((m%n:Nat):Int)):=by
 have:=Zkk (P:=P) (N:=N) (sc:=sc) (H:=H) ho hx hy  
 rwa [←Int.natCast_emod]at this
end
end Go.Sky
namespace Go.Sky
theorem Zbw{l:List Nat}{i:Nat}(h:l.length≤i):l.getD i 0=0:=by simp [List.getD,List.getElem?_eq_none h]
theorem Zrv{b x y:Nat}(hb:2≤b)(h:x≤y):(dg b x).length≤(dg b y).length:=by
 rcases Nat.lt_or_ge (dg b y).length (dg b x).length with h1 | h1
 ·have:=Af hb h1;omega
 ·exact h1
theorem Yfd{b n:Nat}(hb:2≤b)(h:n<b)(h0:n≠0):dg b n=[n]:=by
 rw [Zao hb O,Nat.mod_eq_of_lt h,Nat.div_eq_of_lt h,Hb]
theorem Yg0{b a r:Nat}(hb:2≤b)(ha:a<b):tz (a :: dg b r)=dg b (r*b+a):=by
 have h:∀d∈a :: dg b r,d<b:=fun d hd=>by
  rcases List.mem_cons.1 hd with rfl | hd
  ·exact ha
  ·exact Ok hb r d hd
 rw [←Lt hb _ h]
 congr 1
 simp only [Yc,Nm hb]
 rw [Nat.mul_comm];omega
theorem Zsc{a b:Nat} : Zhr a b<0↔a<b:=by unfold Zhr;split<;>(try split)<;>omega
theorem Zxt{a b:Nat} : Zhr a b≤0↔a≤b:=by unfold Zhr;split<;>(try split)<;>omega
theorem Zxu{a b:Nat} : 0≤Zhr a b↔b≤a:=by unfold Zhr;split<;>(try split)<;>omega
theorem Ztl{x k:Nat}(hk:0<k):x/1000000000^k*1000000000+x/1000000000^(k-1)%1000000000=x/1000000000^(k-1):=by
 have h:x/1000000000^k=x/1000000000^(k-1)/1000000000:=by
  rw [Nat.div_div_eq_div_mul,←Nat.pow_succ,show(k-1).succ=k by omega]
 rw [h,Nat.mul_comm];exact Nat.div_add_mod _ _
theorem over_Q{r a y:Nat}(hr:r<y)(ha:a<1000000000):(r*1000000000+a)/y<1000000000:=by
 rw [Nat.div_lt_iff_lt_mul O]
 have:(r+1)*1000000000≤y*1000000000:=Nat.mul_le_mul_right _ hr
 rw [Nat.mul_comm 1000000000];omega
theorem bl_m30{y m:Nat}(h:bl m≤30):bl (y*m)≤bl y+30:=by have:=Zkz y m;omega
theorem Ykb{r a y:Nat}(hr:r<y)(ha:a<1000000000):bl (r*1000000000+a)≤bl y+30:=by
 have h1:r*1000000000+a<y*1000000000:=by
  have:(r+1)*1000000000≤y*1000000000:=Nat.mul_le_mul_right _ hr
  omega
 have h2:=Ps (Nat.le_of_lt h1)
 have h3:=bl_m30 (y:=y) (m:=1000000000) ((Xo 30 _).2 O)
 exact Nat.le_trans h2 h3
theorem Yf1{y n:Nat}(hn:n<1000000000):bl (y*n)≤bl y+30:=by
 have h3:=Zkz y n
 have h4:bl n≤30:=(Xo 30 _).2 O
 omega
theorem Zfg{q:List Nat}{k d:Nat}(hk:0<k)(h:k≤q.length):Yc 1000000000 ((q.set (k-1) d).drop (k-1))=d+1000000000*Yc 1000000000 (q.drop k):=by
 rw [drop_set _ _ _ O,show k-1+1=k by omega];rfl
theorem Zz4{q:List Nat}{k:Nat}(hk:0<k)(h:k≤q.length)(h0:q.getD (k-1) 0=0):Yc 1000000000 (q.drop (k-1))=1000000000*Yc 1000000000 (q.drop k):=by
 rw [Zbv 0 q (k-1) O,h0,show k-1+1=k by omega];simp [Yc]
theorem Zpz{m:Nat}(h:m<9223372036854775809):tz [m%1000000000,m/1000000000%1000000000,m/1000000000/1000000000]=dg 1000000000 m:=by
 rw [←Lt Ql [m%1000000000,m/1000000000%1000000000,m/1000000000/1000000000] (by intro d hd;simp at hd;omega)]
 congr 1
 simp only [Yc]
 omega
theorem sign9{x:Int}(h:(((dg 1000000000 x.natAbs).length:Nat):Int)=0):Value.int .i64 x.sign= .int .i64 0:=by
 have h1:=(Ph Ql x.natAbs).1 O
 have:x=0:=O
 subst this;rfl
theorem Zj4{x:Nat}(h:¬(((dg 1000000000 x).length:Nat):Int)=0):0<x:=by
 rcases Nat.eq_zero_or_pos x with h1 | h1
 ·subst h1;simp [Hb]at h
 ·exact h1
theorem Ydu{s:Bool}{n:Nat}{z:Int}(hn:n=z.natAbs)(hs:sg s z):(s && decide (0<n))=decide (z<0):=by
 subst hn
 cases s
 ·have:=hs.2 rfl;rw [Bool.false_and,decide_eq_false O]
 ·have:=hs.1 rfl;rw [Bool.true_and,decide_eq_decide];omega
theorem Zrd(n:Nat):decide ((0:Int)<(((dg 1000000000 n).length:Nat):Int))=decide (0<n):=by
 rw [decide_eq_decide]
 have:=Ph Ql n
 omega
theorem Yke{a b:Bool}(h:(a == b)=true):a=b:=by simpa using h
theorem Yg9{x y:Int}(hy:y≠0):(x-x.tdiv y*y=x.tmod y):=by
 have:=Int.tmod_add_mul_tdiv x y
 have e:x.tdiv y*y=y*x.tdiv y:=Int.mul_comm _ _
 omega
theorem Zio(x y:Int):x.natAbs/y.natAbs=(x.tdiv y).natAbs:=(Int.natAbs_tdiv x y).symm
theorem Yhg(x y:Int):sg (decide (x<0) != decide (y<0)) (x.tdiv y):=by
 have h0:∀a b:Int,0≤a→0≤b→0≤a.tdiv b:=fun a b ha hb=>Int.tdiv_nonneg ha hb
 rcases Int.lt_or_le x 0 with h | h<;>rcases Int.lt_or_le y 0 with h2 | h2
 ·have h3:=h0 (-x) (-y) O O
  rw [Int.neg_tdiv,Int.tdiv_neg]at h3
  simp only [sg,h,h2,decide_true,bne_self_eq_false];exact⟨fun h=>Bool.noConfusion h,fun _=>O⟩
 ·have h3:=h0 (-x) y O h2
  rw [Int.neg_tdiv]at h3
  have:¬y<0:=O
  simp [sg,h,this];omega
 ·have h3:=h0 x (-y) h O
  rw [Int.tdiv_neg]at h3
  have:¬x<0:=O
  simp [sg,h2,this];omega
 ·have h3:=h0 x y h h2
  have g1:¬x<0:=O
  have g2:¬y<0:=O
  simp [sg,g1,g2];exact h3
theorem Zin(x:Int){y:Int}(hy:y≠0):(x.tmod y).natAbs<y.natAbs:=by
 rw [Int.natAbs_tmod];exact Nat.mod_lt _ O
theorem Yh0{x y:Int}(hy:0<y)(h:x.tmod y<0):x/y=x.tdiv y-1∧x%y=x-(x.tdiv y-1)*y:=by
 have h1:=Zin x (show y≠0 by omega)
 have h2:=Int.tmod_add_mul_tdiv x y
 have e:(x.tdiv y-1)*y=y*x.tdiv y-y:=by rw [Int.sub_mul,Int.mul_comm];omega
 have:=Zcv (x:=x) (y:=y) (q:=x.tdiv y-1) (r:=x-(x.tdiv y-1)*y) O (by rw [Int.mul_comm y];omega) O O
 exact this
theorem Yh1{x y:Int}(hy:y<0)(h:x.tmod y<0):x/y=x.tdiv y+1∧x%y=x-(x.tdiv y+1)*y:=by
 have h1:=Zin x (show y≠0 by omega)
 have h2:=Int.tmod_add_mul_tdiv x y
 have e:(x.tdiv y+1)*y=y*x.tdiv y+y:=by rw [Int.add_mul,Int.mul_comm];omega
 have:=Zcv (x:=x) (y:=y) (q:=x.tdiv y+1) (r:=x-(x.tdiv y+1)*y) O (by rw [Int.mul_comm y];omega) O O
 exact this
theorem Ycj{x y:Int}(hy:y≠0)(h:¬x.tmod y<0):x/y=x.tdiv y∧x%y=x.tmod y:=by
 have h1:=Zin x hy
 have h2:=Int.tmod_add_mul_tdiv x y
 exact Zcv hy O O O
theorem Yka(x y:Int):bl (x.tdiv y).natAbs≤bl x.natAbs:=by
 rw [Int.natAbs_tdiv];exact Ps (Nat.div_le_self _ _)
theorem Zuy(x y:Int):bl (x.tdiv y*y).natAbs≤bl x.natAbs:=by
 rw [Int.natAbs_mul,Int.natAbs_tdiv]
 exact Ps (Nat.div_mul_le_self _ _)
section
variable {P:Program} {N:Nat} {sc:Nat→Prop} {env env':Qt} {H H':Hp} {Q Q':Exit→Act→World→Prop} {M:Nat→Prop}
variable {o:Oper} {t t':TypeId} {x y:Operand} {m n:Nat}
theorem Ztq(ho:o.op= .binOp .quo t x y t')(hx:ev env x=some (.int .i64 (-(m:Int))))(hy:ev env y=some (.int .i64 (n:Int)))(h:m≤9223372036854775808)(hn:1<n):Ml P N sc o env H (.int .i64 (-((m/n:Nat):Int))):=Gl ho hx hy fun w=>by
 have h1:(-(m:Int)).tdiv (n:Int)=-((m/n:Nat):Int):=by rw [Int.neg_tdiv,Int.ofNat_tdiv]
 have h2:m/n≤9223372036854775807:=by
  have:=Nat.div_le_div_left (show 2≤n from hn) (by omega:0<2) (a:=m)
  omega
 generalize m/n=q at *
 have hw:Qx (-(q:Int)):=⟨O,O⟩
 simp [binOp,Op.intDiv,h1,Za3 hw];omega
theorem Yde(ho:o.op= .binOp .rem t x y t')(hx:ev env x=some (.int .i64 (-(m:Int))))(hy:ev env y=some (.int .i64 (n:Int)))(hn:0<n):Ml P N sc o env H (.int .i64 (-((m%n:Nat):Int))):=Gl ho hx hy fun w=>by
 have h1:(-(m:Int)).tmod (n:Int)=-((m%n:Nat):Int):=by rw [Int.neg_tmod,Int.ofNat_tmod]
 simp [binOp,Op.intDiv,h1];omega
theorem Ydj(ho:o.op= .unOp .neg t x)(hx:ev env x=some (.int .i64 (-(m:Int))))(h:m≤9223372036854775807):Ml P N sc o env H (.int .i64 (m:Int)):=fun a w hs=>by
 have hw:Qx (m:Int):=⟨O,O⟩
 simp [execOp,ho,hs.ev hx,Op.unary,Op.intArith,Za3 hw]
end
end Go.Sky
namespace Go.Sky
theorem Yg3{p xs:List Nat}{k r:Nat}(hk:0<k)(hp:k≤p.length)(hx:k≤xs.length)(hv:Yc 1000000000 (p.drop k)*256+r=Yc 1000000000 (xs.drop k)) :
  Yc 1000000000 ((p.set (k-1) ((r*1000000000+xs.getD (k-1) 0)/256)).drop (k-1))*256+(r*1000000000+xs.getD (k-1) 0)%256=Yc 1000000000 (xs.drop (k-1)):=by
 rw [Zfg hk hp,Zbv 0 xs (k-1) O,show k-1+1=k by omega]
 simp only [Yc]
 have e:=Nat.div_add_mod (r*1000000000+xs.getD (k-1) 0) 256
 generalize (r*1000000000+xs.getD (k-1) 0)/256=q at *
 generalize (r*1000000000+xs.getD (k-1) 0)%256=s at *
 generalize Yc 1000000000 (p.drop k)=A at *
 generalize Yc 1000000000 (xs.drop k)=B at *
 rw [←hv,Nat.add_mul,Nat.mul_add,Nat.mul_assoc 1000000000 A 256]
 generalize 1000000000*(A*256)=Z
 clear hv
 omega
theorem Yay{r a:Nat}(hr:r<256)(ha:a<1000000000):(r*1000000000+a)/256<1000000000:=by
 have h:r*1000000000+a<256*1000000000:=by
  have h1:r*1000000000≤255*1000000000:=Nat.mul_le_mul_right _ O
  omega
 exact Nat.div_lt_of_lt_mul h
theorem Yg4{bs:List Nat}{m n:Nat}(hv:Yc 256 bs+256^bs.length*m=n):Yc 256 (bs ++ [m%256])+256^(bs ++ [m%256]).length*(m/256)=n:=by
 rw [Ox,List.length_append]
 simp only [Yc,List.length_cons,List.length_nil,Nat.pow_succ,Nat.zero_add,Nat.mul_zero,Nat.add_zero,Nat.pow_zero,Nat.mul_one]
 have e:=Nat.div_add_mod m 256
 generalize m/256=q at *
 generalize m%256=s at *
 rw [←hv,←e]
 generalize 256^bs.length=P at *
 grind
theorem to_ge{bs:List Nat}{m n:Nat}(hv:Yc 256 bs+256^bs.length*m=n)(hm:0<m):256^bs.length≤n:=by
 have:=Nat.le_mul_of_pos_right (256^bs.length) hm
 omega
theorem to_len{bs:List Nat}{n:Nat}(h:256^bs.length≤n):bs.length≤bl n:=by
 have h1:=Bx (b:=256) (x:=n) (k:=bs.length) O ((Oh O _ _).2 h)
 have h2:=(Oh (by omega:2≤256) bs.length n).2 h
 have h3:=Zj5 n
 omega
theorem Ye9{bs:List Nat}{k:Nat}(hk:0<k)(h:k≤bs.length):(bs.drop k).reverse ++ [bs.getD (k-1) 0]=(bs.drop (k-1)).reverse:=by
 rw [Zbv 0 bs (k-1) O,show k-1+1=k by omega];simp
theorem Yj6{bs:List Nat}{n:Nat}(h:bs=dg 256 n):(⟨((bs.drop 0).reverse.map UInt8.ofNat).toArray⟩:ByteArray)=Xp n:=by rw [h,List.drop_zero];rfl
def Zqo(a b:Int):Prop:=65536<bl a.natAbs∨65536<bl b.natAbs
instance (a b:Int):Decidable (Zqo a b):=by unfold Zqo;infer_instance
def qn(a b:Int):Int:=if Zqo a b then 0 else a
def qd(a b:Int):Int:=if Zqo a b then 0 else b
def qe(a b:Int):Int:=if Zqo a b then 7 else 0
theorem Yio{x y:Int}(h:¬y<0):Nh x y=(Int.gcd x y:Int):=if_neg h
theorem Zif(x y:Int):bl ((Int.gcd x y:Int)).natAbs≤max (bl x.natAbs) (bl y.natAbs):=Zpj _ _
open Go.RowKit (Below)
variable {P:Program} {N:Nat} {sc:Nat→Prop} {env env':Qt} {H H':Hp} {Q Q':Exit→Act→World→Prop} {M:Nat→Prop}
abbrev Zuh (w:Bool×ByteArray):Value:= .agg #[.bool w.1,.string w.2]
abbrev Zc2 (z:Int×SL):Value:= .agg #[.bool (decide (z.1<0)),Qo z.2]
abbrev Kk {α:Type} (z:SL×α):Value:=Qo z.1
abbrev qI (z:Int×SL):Pc:=Hg (Qo z.2) z.1.natAbs
abbrev pp (v:Value) (zs:List (Int×SL)):Pc:=Pq 2 Zc2 qI v zs
abbrev Pw (zs:List (Int×SL)):List Int:=zs.map Prod.fst
abbrev I0:Int×SL:=(0,none,0,0)
theorem Ij(zs:List (Int×SL)):(Pw zs).length=zs.length:=O5
theorem Fd(zs:List (Int×SL))(i:Nat):(zs.getD i I0).1=cf (Pw zs) i:=by
 simp only [cf,List.getD,Pw,List.getElem?_map]
 cases zs[i]?<;>rfl
theorem Zqp{β:Type}{k:Nat}{enc:β→Value}{q:β→Pc}{v:Value}{zs:List β}{al:Bool}{r:List Pc}{z:β}(i:Nat)(hi:lk H i=some (Pq k enc q v zs))(hi0:Nat.beq i 0=false)(hz:z∈zs)(h:PreOk H al r):PreOk H al (q z :: r):=
 ⟨⟨i,_,fun e=>by subst e;simp at hi0,hi,fun w h=>h.2 z hz,fun b hb=> .inr ⟨z,hz,hb⟩,fun _=>rfl⟩,h⟩
theorem Zy1{β:Type}{k:Nat}{enc:β→Value}{q:β→Pc}{v:Value}{zs:List β}(i j n:Nat)(hi:lk H i=some (Pq k enc q v zs))(hi0:Nat.beq i 0=false)(hn:n≤zs.length):∀a w,Sat N sc env H a w→Sat N sc env ((j,Pq k enc q (Ld v n) (zs.take n)) :: H) a w:=
 Zi2 i j hi hi0 rfl (fun w h=>⟨⟨Zcb n hn h.1.1,fun b hb=>h.1.2 b (Zkc hb)⟩,fun z hz=>h.2 z (List.mem_of_mem_take hz)⟩) (fun b hb=>by
  rcases hb with hb | ⟨z,hz,hb⟩
  ·exact .inl (Zkc hb)
  ·right;exact⟨z,List.mem_of_mem_take hz,hb⟩) rfl
theorem Zrn{β:Type}{k:Nat}{enc:β→Value}{q:β→Pc}{v:Value}{zs:List β}(i:Nat)(hi:lk H i=some (Pq k enc q v zs)):∀a w,Sat N sc env H a w→Ld v zs.length=v:=fun a w hs=>by
 obtain⟨ad,c,h,_⟩:=(hs.hold i _ hi).1.1
 rw [h];rfl
theorem Zfz(zs:List (Int×SL))(k:Nat):Pw (zs.take k)=(Pw zs).take k:=by simp [Pw,List.map_take]
theorem He{v:Value}{zs:List (Int×SL)}{al:Bool}{r:List Pc}{z:Int×SL}(i:Nat)(hi:lk H i=some (pp v zs))(hi0:Nat.beq i 0=false)(hz:z∈zs)(h:PreOk H al r):PreOk H al (Hg (Qo z.2) z.1.natAbs :: r):=Zqp (q:=qI) (z:=z) i hi hi0 hz h
def eaf(v:Value)(i k q:Nat):Addr:=(ead v i k).add q
theorem Zfo {α:Type} {o:Oper} {x:Operand} {t:TypeId} {f:Nat} {fs:Array Field} {fd:Field} {k k1 i ii q:Nat} {v:Value} {p:Pc} {enc:α→Value} {xs:List α} (ho:o.op= .fieldAddr t x f)
  (hx:ev env x=some (.pointer (some (ead v i k)))) (hH:lk H ii=some p) (hr:Rd p k enc v xs) (ht:P.underlying t=some (.struct fs)) (hf:fs[f]? = some fd) (hk:∀w,(sizeOf fd.type).run P w= .ok (k1+1) w) (hq:fd.offset=q) (hlt:i<xs.length:=by omega) :
  Ml P N sc o env H (.pointer (some (eaf v i k q))):=fun a w hs=>by
 obtain⟨ad,c,rfl,h1,h2,h3⟩:=hr w (hs.hold ii p hH)
 rcases h3 with rfl | ⟨g,off,rfl,h3⟩
 ·simp at hlt
 ·subst hq
  simp only [ead,Ow]at hx
  simp [execOp,ho,hs.ev hx,Instr.fieldAt,run_underlying ht,hf,Instr.sureAddr,fieldPlace,hk,Ow,eaf,ead]
theorem Zfm {α:Type} {o:Oper} {x:Operand} {t:TypeId} {k i ii q:Nat} {v u:Value} {p:Pc} {enc:α→Value} {xs:List α} (d0:α) (ho:o.op= .load t x)
  (hx:ev env x=some (.pointer (some (eaf v i k q)))) (hH:lk H ii=some p) (hr:Rd p k enc v xs) (ha:∀w,(isAgg t).run P w= .ok false w) (hu:(enc (xs.getD i d0)).cells.toList[q]? = some u) (hlt:i<xs.length:=by omega):Ml P N sc o env H u:=fun a w hs=>by
 obtain⟨ad,c,rfl,h1,h2,h3⟩:=hr w (hs.hold ii p hH)
 rcases h3 with rfl | ⟨g,off,rfl,h3⟩
 ·simp at hlt
 ·have hi:xs[i]? = some (xs.getD i d0):=by simp [List.getD,List.getElem?_eq_getElem hlt]
  have h:=h3 i _ hi q u hu
  simp only [eaf,ead,Ow]at hx
  simp [execOp,ho,hs.ev hx,Instr.loadAt,Instr.sureAddr,loadVar,ha,load,Sem.run,h]
end Go.Sky
namespace Go.Sky
abbrev rq (z:Int×Int):Value:= .agg #[.bool (decide (z.1<0)),.string (Xp z.1.natAbs),.bool (decide (z.2<0)),.string (Xp z.2.natAbs)]
abbrev encQ (z:(Bool×ByteArray)×(Bool×ByteArray)):Value:= .agg #[.bool z.1.1,.string z.1.2,.bool z.2.1,.string z.2.2]
theorem Zj{P:Program}{N:Nat}{sc:Nat→Prop}{o:Oper}{env:Qt}{H:Hp}{r r':Value}(h:Ml P N sc o env H r)(e:r=r'):Ml P N sc o env H r':=e▸h
open Go.RowKit (Below)
variable {P:Program} {N:Nat} {sc:Nat→Prop} {env env':Qt} {H H':Hp} {Q Q':Exit→Act→World→Prop} {M:Nat→Prop}
theorem Yfg{o:Oper}{f:FuncId}{xs ys:List Operand}{vs us:List Value}(ho:o.op= .makeFunc (.func f) xs.toArray ys.toArray)(hv:EvL env xs vs)(hu:EvL env ys us):Ml P N sc o env H (.func (.func f) vs.toArray us.toArray):=fun a w hs=>by
 have hm:=hv.map hs
 have hn:=hu.map hs
 simp [execOp,ho,Instr.makeFunc,hm,hn]
theorem Zc4 {a:Act} {w:World} (hs:Sat N sc env H a w) {o:Oper} {f:FuncId} {c:Operand} {xs:List Operand} {ats:Array TypeId} {fs vs us:List Value} (ho:o.op= .call { callee:= .value c,args:=xs.toArray,argTypes:=ats })
  (hc:ev env c=some (.func (.func f) fs.toArray us.toArray)) (hargs:EvL env xs vs):(execOp a.eval o).run P w=(callFunc f (fs ++ vs ++ us).toArray).run P w:=by
 have hm:=hargs.map hs
 simp [execOp,ho,resolve,invoke,hs.ev hc,Deferred.ofValue,hm]
theorem Yg5 {o:Oper} {f:FuncId} {c:Operand} {xs:List Operand} {ats:Array TypeId} {d n:Nat} {fs vs us:List Value} {pre:List Pc} {al:Bool} {G:Type} {φ:G→Prop} {Yc:G→Value} {its:G→List Pc} {w0:World} {M0:Nat→Prop}
  (hc:Cal P f (fs ++ vs ++ us).toArray pre al φ Yc its)
  (ho:o.op= .call { callee:= .value c,args:=xs.toArray,argTypes:=ats }) (hcv:ev env c=some (.func (.func f) fs.toArray us.toArray)) (hd:o.dst=some d) (hN:Nat.blt d N=true)
  (hargs:EvL env xs vs) (hcall:∀args w,(callFunc f args).run P w= .ok (.enter f args) w) (hpre:PreOk H al pre)
  (h0:lk H 0=some (Xf w0 M0)) (hw:∀b,w0.heap.size≤b→sc b) :
  T P N sc M o env H φ (fun g=>(d,Yc g) :: env) (fun g=>adds n (its g) H):=fun a w hs K Q hK=>by
 have hr:(execOp a.eval o).run P w= .ok (.enter f (fs ++ vs ++ us).toArray) w:=by rw [Zc4 hs ho hcv hargs,hcall]
 let o2:Oper:={ o with op:= .call { callee:= .value (.func f),args:=((fs ++ vs ++ us).map Operand.const).toArray,argTypes:=ats } }
 have hev:∀l:List Value,EvL env (l.map Operand.const) l:=fun l=>by
  induction l with
  | nil=>trivial
  | cons v r ih=>exact⟨rfl,ih⟩
 have hr2:(execOp a.eval o2).run P w= .ok (.enter f (fs ++ vs ++ us).toArray) w:=by rw [Iu hs (o:=o2) rfl (hev _),hcall]
 have h2:o2.wp P a w K Q:=Pk (n:=n) (M:=M) hc (o:=o2) rfl hd hN (hev _) hcall hpre h0 hw a w hs K Q hK
 unfold Oper.wp at h2 ⊢
 rw [hr2]at h2
 rw [hr]
 exact h2
theorem Zgc{b:Nat}{t:TypeId}{cs:Array Value}{r:List Pc}(i:Nat)(hi:lk H i=some (box b t cs))(hi0:Nat.beq i 0=false)(h:PreOk H false r):PreOk H false (Kr b t cs :: r):=
 ⟨⟨i,_,fun e=>by subst e;simp at hi0,hi,fun w h=>h,fun b hb=>hb,fun h=>by cases h⟩,h⟩
theorem Sat.rboxc{a:Act}{w:World}(hs:Sat N sc env H a w){i b:Nat}{t:TypeId}{cs:Array Value}(hH:lk H i=some (Kr b t cs))(j:Nat):w.cell? ⟨b,j,none⟩=cs[j]?:=by
 have h:w.heap[b]? = some (.cells cs t (0,0)):=hs.hold i _ hH
 simp [World.cell?,h]
theorem d_lra {o:Oper} {x:Operand} {t tb:TypeId} {i b j k:Nat} {cs:Array Value} {vs:List Value} (ho:o.op= .load t x)
  (hx:ev env x=some (.pointer (some ⟨b,j,none⟩))) (hH:lk H i=some (Kr b tb cs)) (ht:∀w,(isAgg t).run P w= .ok true w) (hk:∀w,(sizeOf t).run P w= .ok k w)
  (hl:vs.length=k) (hv:∀n u,vs[n]? = some u→cs[j+n]? = some u):Ml P N sc o env H (.agg vs.toArray):=fun a w hs=>by
 have hr:=run_loadCells_list (P:=P) w ⟨b,j,none⟩ vs (fun n u hu=>by rw [Ow,hs.rboxc hH];exact hv n u hu)
 rw [hl]at hr
 simp [execOp,ho,hs.ev hx,Instr.loadAt,Instr.sureAddr,loadVar,ht,hk,hr]
theorem fill24(u0 u1 u2 u3 a0 a1 a2 a3 b0 b1 b2 b3:Value):Instr.fill (fun i=>some (i*4,4)) ((List.range (2*4)).map ((Value.agg #[u0,u1,u2,u3]).cells[· % (Value.agg #[u0,u1,u2,u3]).cells.size]!)).toArray [(0,.agg #[a0,a1,a2,a3]),(1,.agg #[b0,b1,b2,b3])]=some #[a0,a1,a2,a3,b0,b1,b2,b3]:=by
 simp [Instr.fill,Value.cells,List.range,List.range.loop]
 try rfl
end Go.Sky
namespace Go.Sky
open Go.RowKit (Below)
variable {P:Program} {N:Nat} {sc:Nat→Prop} {env env':Qt} {H H':Hp} {Q Q':Exit→Act→World→Prop} {M:Nat→Prop}
abbrev iq (z:(Int×Int)×(Int×Int)):Value:= .agg #[.bool (decide (z.1.1<0)),.string (Xp z.1.1.natAbs),.bool (decide (z.1.2<0)),.string (Xp z.1.2.natAbs),.bool (decide (z.2.1<0)),.string (Xp z.2.1.natAbs),.bool (decide (z.2.2<0)),.string (Xp z.2.2.natAbs)]
def Ykj(P:Program)(f:FuncId)(args:Array Value)(pre:List Pc)(p:Pc){G:Type}(φ:G→Prop)(Yc:G→Value)(q:G→Pc):Prop:=
 ∀w,(∀r∈pre,r.holds w∧∀k,p.fp k→¬r.fp k)→p.holds w→Calls P f args w fun e w'=>∃g,e= .returned (Yc g)∧φ g∧Chg p.fp w w'∧(q g).holds w'∧∀k,(q g).fp k→p.fp k∨w.heap.size≤k
theorem Zvi {o:Oper} {f:FuncId} {c:Operand} {xs:List Operand} {ats:Array TypeId} {d i:Nat} {p:Pc} {fs vs us:List Value} {pre:List Pc} {G:Type} {φ:G→Prop} {Yc:G→Value} {q:G→Pc} {w0:World} {M0:Nat→Prop}
  (hc:Ykj P f (fs ++ vs ++ us).toArray pre p φ Yc q)
  (ho:o.op= .call { callee:= .value c,args:=xs.toArray,argTypes:=ats }) (hcv:ev env c=some (.func (.func f) fs.toArray us.toArray)) (hd:o.dst=some d) (hN:Nat.blt d N=true)
  (hargs:EvL env xs vs) (hcall:∀args w,(callFunc f args).run P w= .ok (.enter f args) w) (hH:lk H i=some p) (hown:p.own=true) (hi0:i≠0) (hpre:PreOk (drp i H) false pre)
  (h0:lk H 0=some (Xf w0 M0)) (hw:∀b,w0.heap.size≤b→sc b) (hM:∀b,p.fp b→M b) :
  T P N sc M o env H φ (fun g=>(d,Yc g) :: env) (fun g=>(i,q g) :: H):=fun a w hs K Q hK=>by
 have hr:(execOp a.eval o).run P w= .ok (.enter f (fs ++ vs ++ us).toArray) w:=by rw [Zc4 hs ho hcv hargs,hcall]
 unfold Oper.wp
 rw [hr]
 refine(hc w (fun r hp=>by
  obtain⟨j,it,_,hj,himp,hfp,_⟩:=hpre.mem r hp
  obtain⟨hne,hj⟩:=Fs _ _ _ _ hj
  exact⟨himp w (hs.hold j it hj),fun k hk hb=>hs.sep i j _ it (Ne.symm hne) hH hj hown k hk (hfp k hb)⟩) (hs.hold i _ hH)).mono ?_
 rintro e w' ⟨g,rfl,hg,hchg,hq,hfp⟩
 show K (a.put o.dst (Yc g)) w'
 rw [hd]
 exact hK g _ _ hg (Sat.put (hs.upd hH hown hi0 hchg hq hfp h0 hw) d _ hN) ⟨hchg.os,hchg.tape,hchg.output,hchg.size,fun k hk hn=>hchg.block k hk (fun e=>hn (hM k e))⟩
def Ygl(P:Program)(fn:Func)(w0:World)(p:Pc){G:Type}(φ:G→Prop)(Yc:G→Value)(q:G→Pc):Exit→Act→World→Prop:=
 bodyPost P fn fun e w'=>∃g,e= .returned (Yc g)∧φ g∧Chg p.fp w0 w'∧(q g).holds w'∧∀k,(q g).fp k→p.fp k∨w0.heap.size≤k
theorem Zx2 {f:FuncId} {fn:Func} {c:Code} {vs:List Value} {pre:List Pc} {p:Pc} {G:Type} {φ:G→Prop} {Yc:G→Value} {q:G→Pc} {N:Nat}
  (hf:P.funcs[f]? = some fn) (hb:fn.body=some c) (hN:fn.ntmps=N) (hle:Nat.ble vs.length N=true) (hro:AllRo pre)
  (h:∀w0 (sc:Nat→Prop),(∀k,w0.heap.size≤k→sc k)→(∀k,sc k→w0.heap.size≤k∨p.fp k∨∃q∈pre,q.fp k)→
   E P N sc c (Ygl P fn w0 p φ Yc q) (Po 0 vs) ((0,Xf w0 p.fp) :: (1,p) :: Xx 2 pre)) :
  Ykj P f vs.toArray pre p φ Yc q:=fun w hp hbx=>by
 refine calls_of_wp hf hb (h w (fun k=>w.heap.size≤k∨p.fp k∨∃q∈pre,q.fp k) (fun k hk=> .inl hk) (fun k hk=>hk) _ w ?_)
 have hle:vs.length≤N:=by simpa using hle
 have hpre:∀i r,lk ((0,Xf w p.fp) :: (1,p) :: Xx 2 pre) i=some r→(i=0∧r=Xf w p.fp)∨(i=1∧r=p)∨(i≠0∧i≠1∧r∈pre∧r.own=false):=fun i r hi=>by
   by_cases h0:0=i
   ·subst h0;rw [Zx]at hi;cases hi;exact .inl ⟨rfl,rfl⟩
   ·rw [Zl _ _ h0]at hi
    by_cases h1:1=i
    ·subst h1;rw [Zx]at hi;cases hi;exact .inr (.inl ⟨rfl,rfl⟩)
    ·rw [Zl _ _ h1]at hi
     obtain⟨_,hm⟩:=Pp pre 2 i r hi
     exact .inr (.inr ⟨fun e=>h0 e.symm,fun e=>h1 e.symm,hm,hro.mem r hm⟩)
 refine⟨by simp [hN];omega,rfl,fun t v ht=>?_,fun i r hi=>?_,fun i j r r' hne hi hj ho k hk hk'=>?_,fun i r hi0 hi k hk=>?_⟩
 ·have h1:vs.toArray[t]? = some v:=by simpa using(Ii vs 0 t v ht).2
  have hlt:=(Array.getElem?_eq_some_iff.1 h1).1
  rw [Array.getD_eq_getD_getElem?,Array.getElem?_append_left hlt,h1];rfl
 ·rcases hpre i r hi with⟨_,rfl⟩ | ⟨_,rfl⟩ | ⟨_,_,hm,_⟩
  ·exact Chg.refl _ w
  ·exact hbx
  ·exact(hp r hm).1
 ·rcases hpre i r hi with⟨_,rfl⟩ | ⟨h1,rfl⟩ | ⟨_,_,hm,hown⟩
  ·cases ho
  ·rcases hpre j r' hj with⟨_,rfl⟩ | ⟨h2,rfl⟩ | ⟨_,_,hm,_⟩
   ·exact hk'.2 hk
   ·exact hne (h1.trans h2.symm)
   ·exact(hp r' hm).2 k hk hk'
  ·rw [hown]at ho;cases ho
 ·rcases hpre i r hi with⟨h0,_⟩ | ⟨_,rfl⟩ | ⟨_,_,hm,_⟩
  ·exact absurd h0 hi0
  ·exact .inr (.inl hk)
  ·exact .inr (.inr ⟨r,hm,hk⟩)
theorem Yak {fn:Func} {p:Pc} {pre:List Pc} {G:Type} {φ:G→Prop} {Yc:G→Value} {q:G→Pc} {w0:World} {e:Exit} (he:e= .ret∨e= .normal) (hsc:∀k,sc k→w0.heap.size≤k∨p.fp k∨∃q∈pre,q.fp k)
  (g:G) (v:Value) (hres:∀a w,Sat N sc env H a w→(results fn a.tmps).run P w= .ok v w) (hv:Yc g=v) (hg:φ g) (i:Nat) (hi:lk H i=some (q g)) (h0:lk H 0=some (Xf w0 p.fp)) (hi0:Nat.beq i 0=false) (hown:(q g).own=true) (hpre:PreOk (drp i H) false pre) :
  X N sc e (Ygl P fn w0 p φ Yc q) env H:=fun a w hs=>by
 have hi0:i≠0:=fun e=>by subst e;simp at hi0
 have key:a.defers=[]∧∃v,(results fn a.tmps).run P w= .ok v w∧(∃g,Ending.returned v= .returned (Yc g)∧φ g∧Chg p.fp w0 w∧(q g).holds w∧∀k,(q g).fp k→p.fp k∨w0.heap.size≤k):=by
  refine⟨hs.defers,v,hres a w hs,g,by rw [hv],hg,hs.hold 0 _ h0,hs.hold i _ hi,fun k hk=>?_⟩
  rcases hsc k (hs.scope i _ hi0 hi k hk)with h | h | ⟨r,hr,hrk⟩
  ·exact .inr h
  ·exact .inl h
  ·obtain⟨j,it,_,hj,_,hfp,_⟩:=hpre.mem r hr
   obtain⟨hne,hj⟩:=Fs _ _ _ _ hj
   exact(hs.sep i j _ it (Ne.symm hne) hi hj hown k hk (hfp k hrk)).elim
 rcases he with rfl | rfl<;>exact key
def gb{α:Type}(b:Nat)(t:TypeId)(k:Nat)(e:TypeId)(enc:α→Value)(v:Value)(xs:List α):Pc:=
 {own:=true,fp:=fun c=>c=b∨v.ownBlock=some c,holds:=fun w=>(box b t #[v]).holds w∧(Ma k e enc v xs).holds w∧v.ownBlock≠some b
  lt:=fun w c h hc=>by
   rcases hc with rfl | hc
   ·exact(box c t #[v]).lt w c h.1 rfl
   ·exact(Ma k e enc v xs).lt w c h.2.1 hc
  stable:=fun w w' h hc=>⟨(box b t #[v]).stable w w' h.1 ⟨hc.os,hc.tape,hc.output,hc.size,fun k hk hn=>hc.block k hk (fun hf=>hn (fun hq=>hf (.inl hq)))⟩,
   (Ma k e enc v xs).stable w w' h.2.1 ⟨hc.os,hc.tape,hc.output,hc.size,fun k hk hn=>hc.block k hk (fun hf=>hn (fun hq=>hf (.inr hq)))⟩,h.2.2⟩ }
end Go.Sky

