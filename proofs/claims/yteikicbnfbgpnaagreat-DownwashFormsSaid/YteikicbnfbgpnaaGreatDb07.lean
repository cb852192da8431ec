/- Rules, arithmetic and contracts: part 8. No conditions but those that each theorem names. -/
import Derived.Test.YteikicbnfbgpnaaGreatDb06
set_option linter.all false
namespace Go.Sky
def Zam(xs:List Int)(m:Nat):Prop:=xs.length=0∨(xs.length+2)*(xs.length+2)*(Qk xs+m+2*(xs.length-1)+32)≤65536
instance (xs:List Int) (m:Nat):Decidable (Zam xs m):=by unfold Zam;infer_instance
theorem sgf_t{xs:List Int}{m:Nat}(h:xs.length=0):Value.bool (decide (Zam xs m))= .bool true:=congrArg Value.bool (decide_eq_true (.inl h))
theorem sgf_i{xs:List Int}{m:Nat}{n:Int}(h:xs.length≠0)(hn:n=(((xs.length+2)*(xs.length+2)*(Qk xs+m+2*(xs.length-1)+32):Nat):Int)):Value.bool (decide (Zam xs m))= .bool (decide (n≤65536)):=congrArg Value.bool (decide_eq_decide.2 (by
 subst hn
 show(xs.length=0∨_≤65536)↔_
 constructor
 ·intro h1;rcases h1 with h1 | h1
  ·exact absurd h1 h
  ·exact Int.ofNat_le.2 h1
 ·intro h1;exact .inr (Int.ofNat_le.1 h1)))
def efit(z:R2):Bool:=decide (max (bl z.1.natAbs) (bl z.2.natAbs)≤512)
def Zm3:List Int→Int
 | []=>0
 | x :: r=>if x=0 then Zm3 r else x
theorem Zqe{s:Int}(h:s≠0):∀{L:List Int} {i:Nat},i<L.length→(∀k,k<i→L.getD k 0=0)→L.getD i 0=s→Zm3 L=s
 | [],i,hi,_,_=>absurd hi O7
 | x :: r,0,_,_,hs=>by have e:x=s:=hs;subst e;unfold Zm3;rw [if_neg h]
 | x :: r,i+1,hi,hz,hs=>by
  have e:x=0:=hz 0 O
  unfold Zm3;rw [if_pos e]
  exact Zqe h (L:=r) (i:=i) (by simpa using hi) (fun k hk=>hz (k+1) O) hs
theorem Zk7:∀{L:List Int},(∀k,k<L.length→L.getD k 0=0)→Zm3 L=0
 | [],_=>rfl
 | x :: r,hz=>by
  have e:x=0:=hz 0 O7
  unfold Zm3;rw [if_pos e]
  exact Zk7 fun k hk=>hz (k+1) (by simpa using hk)
def aft(Ls:List (List Int))(m:R2):Int:=Zm3 (Ls.map (fat m.1 m.2))
def vlu(Ls:List (List Int))(m:R2):Int:=if Ls.length=0 then 0 else fat m.1 m.2 (Ls.getD 0 [])
def chv(Ls:List (List Int))(m:R2):Int:=chg (Ls.map (fat m.1 m.2))
def crb(Ls:List (List Int))(a b:R2):Bool:=if Ls.length=0 then false else decide (0<chv Ls a-chv Ls b-if fat b.1 b.2 (Ls.getD 0 [])=0 then 1 else 0)
def cmp(a b:R2):Int:=(a.1*b.2-b.1*a.2).sign
def ngb(ds cs:List (List Int))(a b:R2):Bool:=if cmp a b=0 then decide (vlu ds a<0)else(decide (aft ds a<0) || crb cs a b)
theorem Zw0(ls:List (SL×List Int))(x y:Int):aft (ls.map Prod.snd) (x,y)=Zm3 (sgx ls (fat x y)):=by unfold aft;rw [Zub rfl]
theorem Yil(ls:List (SL×List Int))(x y:Int):chv (ls.map Prod.snd) (x,y)=chg (sgx ls (fat x y)):=by unfold chv;rw [Zub rfl]
theorem Zfa(ls:List (SL×List Int)){i:Nat}(h:i<ls.length):(ls.map Prod.snd).getD i []=(ls.getD i Z0).2:=by
 rw [List.getD_eq_getElem?_getD,List.getD_eq_getElem?_getD,List.getElem?_map,List.getElem?_eq_getElem h];rfl
theorem chv_r(Ls:List (List Int))(m:R2):0≤chv Ls m∧chv Ls m≤(Ls.length:Int):=by
 have:=Zfo (Ls.map (fat m.1 m.2));rw [List.length_map]at this;exact this
theorem Zo2{x:Rat}(h:Gx x=0):x=0:=by
 rcases Qs x with⟨h5,h6⟩ | ⟨h5,h6⟩ | ⟨h5,h6⟩
 ·rw [h6]at h;exact absurd h O3
 ·rw [h6]at h;exact absurd h O3
 ·exact h5
theorem sgm_i{x l:Int}(hx:-1≤x∧x≤1)(hl:-1≤l∧l≤1):Xx (x*l):=by
 rcases(show x=-1∨x=0∨x=1 by omega)with h | h | h<;>subst h
 ·exact⟨O,O⟩
 ·exact⟨O,O⟩
 ·exact⟨O,O⟩
theorem Zud{x l:Int}(hx:-1≤x∧x≤1)(hl:-1≤l∧l≤1)(h:x*l<0):x=-l:=by
 rcases(show x=-1∨x=0∨x=1 by omega)with h | h | h<;>subst h<;>omega
theorem Zuc{x l:Int}(hx:-1≤x∧x≤1)(hl:-1≤l∧l≤1)(h:¬x*l<0)(h0:x≠0):¬x=-l:=by
 rcases(show x=-1∨x=0∨x=1 by omega)with h | h | h<;>subst h<;>omega
theorem Zue{x l:Int}(h:x=0):¬x*l<0:=by subst h;omega
theorem crb_t{cs:List (SL×List Int)}{x y x2 y2:Int}(h:cs.length≠0)(h0:fat x2 y2 (cs.getD 0 Z0).2=0):Value.bool (crb (cs.map Prod.snd) (x,y) (x2,y2))= .bool (decide (0<chv (cs.map Prod.snd) (x,y)-chv (cs.map Prod.snd) (x2,y2)-1)):=by
 unfold crb;rw [List.length_map,if_neg h,Zfa _ O,if_pos h0]
theorem crb_f{cs:List (SL×List Int)}{x y x2 y2:Int}(h:cs.length≠0)(h0:¬fat x2 y2 (cs.getD 0 Z0).2=0):Value.bool (crb (cs.map Prod.snd) (x,y) (x2,y2))= .bool (decide (0<chv (cs.map Prod.snd) (x,y)-chv (cs.map Prod.snd) (x2,y2))):=by
 unfold crb;rw [List.length_map,if_neg h,Zfa _ O,if_neg h0,Int.sub_zero]
theorem ngb_t{ds cs:List (List Int)}{a b:R2}(h:¬cmp a b=0)(h0:aft ds a<0):Value.bool (ngb ds cs a b)= .bool true:=by
 unfold ngb;rw [if_neg h,decide_eq_true h0];rfl
theorem ngb_f{ds cs:List (List Int)}{a b:R2}(h:¬cmp a b=0)(h0:¬aft ds a<0):Value.bool (ngb ds cs a b)= .bool (crb cs a b):=by
 unfold ngb;rw [if_neg h,decide_eq_false h0];rfl
def Zc9:Nat→List Int→List (List Int)
 | 0,_=>[]
 | n+1,p=>if p.length=0 then []else p :: Zc9 n (Yx p)
theorem Zqs{m:R2}(hm:0<m.2):∀(n:Nat) (p:List Int),p.length≤n→aft (Zc9 n p) m=Gv n p (qv m)
 | 0,p,hl=>rfl
 | n+1,p,hl=>by
  unfold Zc9
  by_cases h0:p.length=0
  ·rw [if_pos h0]
   have:p=[]:=List.eq_nil_of_length_eq_zero h0
   subst this
   have hz:∀n,Gv n [] (qv m)=0:=fun n=>by
    induction n with
    | zero=>rfl
    | succ n ih=>unfold Gv;rw [if_neg (by show ¬(0:Rat)≠0;simp)];exact ih
   rw [hz];rfl
  ·rw [if_neg h0]
   have ld':=Oz p
   have ih:=Zqs hm n (Yx p) O
   unfold aft at ih ⊢
   rw [List.map_cons]
   unfold Zm3 Gv
   have hf:fat m.1 m.2 p=Gx (Zb p (qv m)):=Zm9 hm p
   rw [hf]
   by_cases hz:Zb p (qv m)=0
   ·rw [if_pos (Zo3 hz),if_neg (by simpa using hz)];exact ih
   ·rw [if_neg (fun e=>hz (Zo2 e)),if_pos hz]
structure Cvd (xs:List Int):Prop where
 v:Vp xs
 s:Sz 205 xs
 l:xs.length≤11
theorem Zek{xs r:List Int}(h:Cvd xs)(h0:xs≠[])(hr:Dp xs r):Sz 220 r∧r.length≤11:=by
 obtain⟨s1,s2⟩:=hr.sz h.v.tr h0 h.s (by have:=h.l;omega)
 exact⟨s1,by have:=h.l;omega⟩
theorem Zbn{xs r:List Int}(h:Cvd xs)(h0:xs≠[])(hr:Dp xs r) :
  Vp r∧r≠[]∧(∀i,bl (cf r (i+1)*((i:Int)+1)).natAbs≤65536)∧Vp (Yx r)∧¬Zk6 r (Yx r)∧eok 13 (gA r (Yx r)) (gB r (Yx r))∧Ni 13 r (Yx r)=Qz 13 r∧Vp (Qz 13 r)∧
  Dc r (Qz 13 r)=0∧pdv r (Qz 13 r)∧Lr r (Qz 13 r)=sqf 13 r∧Vp (sqf 13 r)∧Sz 235 (sqf 13 r)∧(sqf 13 r).length≤11∧Dp xs (Qz 13 r)∧sqf 13 r≠[]∧((sqf 13 r).length≠1→(Qz 13 r).length<r.length)∧Gq 13 r:=by
 obtain⟨s1,s2⟩:=Zek h h0 hr
 have hv:Vp r:=⟨s1.mono O,hr.1,O⟩
 have hok:=hr.ok h.v.tr h0 h.s O (by have:=h.l;omega) (show xs.length≤13+1 by have:=h.l;omega)
 obtain⟨⟨q1,q2,q3,q4,q5⟩,-,-⟩:=hok.1
 have hn:=hr.2.2.1
 have hs9:=(chG 13 hr.1 hr.2.1 s1 O O O).2.1
 have hl9:=(chG 13 hr.1 hr.2.1 s1 O O O).2.2.1
 have hvs:=Zrn hv hr.2.1 hok.1.1
 have hg:Qz 13 r=Ni 13 r (Yx r):=by unfold Qz;rw [hn]
 have hd:=hr.next hok.2
 have hvg:Vp (Qz 13 r):=by obtain⟨t1,t2⟩:=Zek h h0 hd;exact⟨t1.mono O,hd.1,O⟩
 have hsq:sqf 13 r=Lr r (Qz 13 r):=by unfold sqf Qz;rw [hn]
 obtain⟨f1,f2,f3,f4,f5,f6⟩:=Ps (F:=13) hr.1 hr.2.1 hok.2
 have hq1:∀i,bl (cf r (i+1)*((i:Int)+1)).natAbs≤65536:=fun i=>by
  by_cases hi:i<r.length
  ·have:=q1 i hi;rwa [hn]at this
  ·rw [Yl O];simp [Lo]
 rw [hn]at q2 q3 q4 q5
 rw [←hg]at q4 q5
 refine⟨hv,hr.2.1,hq1,Zde hv (fun i _=>hq1 i),q2,q3,hg.symm,hvg,q4,q5,hsq.symm,hvs,hs9,O,hd,f3,fun hne=>?_,hok.2⟩
 refine Zix hr.1 hr.2.1 hok.2 ?_
 have:=Qg hr.1 hr.2.1 hok.2
 have l1:=List.length_pos_iff.2 f3
 have l2:=List.length_pos_iff.2 this.2.1
 omega
def Im(xs:List Int):List Int:=Zps 13 xs.length [1] (Yy xs)
structure OddI (xs:List Int) (t:Nat) (rest out before:List Int):Prop where
 ex:∃f q,Dp xs q∧q.length≤f∧Zps 13 f out q=Im xs∧Tr out∧Op xs out q∧((t%2=1∧rest=q)∨(t%2=0∧rest=Qz 13 q∧before=sqf 13 q∧(sqf 13 q).length≠1))
theorem OddI.start{xs b:List Int}(h:Cvd xs)(h0:xs≠[]):OddI xs 1 (Yy xs) [1] b:=
 ⟨xs.length,Yy xs,Dp.start h.v.tr h0,by rw [Qu h.v.tr];exact Nat.le_refl _,rfl,.inr O3,Op.start h.v.tr,.inl ⟨rfl,rfl⟩⟩
theorem OddI.dp{xs:List Int}{t:Nat}{rest out before:List Int}(h:Cvd xs)(h0:xs≠[])(hI:OddI xs t rest out before):Dp xs rest:=by
 obtain⟨f,q,h1,h2,h3,h4,h5,h6 | ⟨-,rfl,-⟩⟩:=hI.ex
 ·rw [h6.2];exact h1
 ·exact(Zbn h h0 h1).2.2.2.2.2.2.2.2.2.2.2.2.2.2.1
theorem OddI.out{xs:List Int}{t:Nat}{rest out before:List Int}(h:Cvd xs)(h0:xs≠[])(hI:OddI xs t rest out before):Vp out∧Sz 220 out∧out.length≤11:=by
 obtain⟨f,q,h1,h2,h3,h4,h5,-⟩:=hI.ex
 obtain⟨s1,s2,s3⟩:=h5.sz h.v.tr h0 h.s (by have:=h.l;omega) h4 h1.1
 have:=h.l
 exact⟨⟨s1.mono O,h4,O⟩,s1,O⟩
theorem OddI.odd_end{xs:List Int}{t:Nat}{rest out before:List Int}(h:Cvd xs)(h0:xs≠[])(hI:OddI xs t rest out before)(ht:t%2=1)(hl:(sqf 13 rest).length=1):out=Im xs:=by
 obtain⟨f,q,h1,h2,h3,h4,h5,⟨-,rfl⟩ | ⟨h7,-⟩⟩:=hI.ex
 ·cases f with
  | zero=>exact absurd (List.length_pos_iff.2 h1.2.1) O
  | succ f=>unfold Zps at h3;rw [if_pos hl]at h3;exact h3
 ·omega
theorem OddI.odd_next{xs:List Int}{t:Nat}{rest out before:List Int}(hI:OddI xs t rest out before)(ht:t%2=1)(hl:(sqf 13 rest).length≠1):OddI xs (t+1) (Qz 13 rest) out (sqf 13 rest):=by
 obtain⟨f,q,h1,h2,h3,h4,h5,⟨-,rfl⟩ | ⟨h7,-⟩⟩:=hI.ex
 ·exact⟨f,rest,h1,h2,h3,h4,h5,.inr ⟨O,rfl,rfl,hl⟩⟩
 ·omega
theorem OddI.even{xs:List Int}{t:Nat}{rest out before:List Int}(h:Cvd xs)(h0:xs≠[])(hI:OddI xs t rest out before)(ht:t%2=0) :
  Vp before∧Dc before (sqf 13 rest)=0∧pdv before (sqf 13 rest)∧Vp (Lr before (sqf 13 rest))∧¬Ck out (Lr before (sqf 13 rest))∧
  ((sqf 13 rest).length=1→Xs out (Lr before (sqf 13 rest))=Im xs)∧((sqf 13 rest).length≠1→OddI xs (t+1) (Qz 13 rest) (Xs out (Lr before (sqf 13 rest))) (sqf 13 rest))∧Vp (Xs out (Lr before (sqf 13 rest))):=by
 obtain⟨f,q,h1,h2,h3,h4,h5,⟨h7,-⟩ | ⟨-,rfl,rfl,hq⟩⟩:=hI.ex
 ·omega
 obtain⟨a1,a2,a3,a4,a5,a6,a7,a8,a9,a10,a11,a12,a13,a14,a15,a16,a17,a18⟩:=Zbn h h0 h1
 obtain⟨b1,b2,b3,b4,b5,b6,b7,b8,b9,b10,b11,b12,b13,b14,b15,b16,b17,b18⟩:=Zbn h h0 a15
 obtain⟨c1,c2,c3,c4⟩:=Fz h1.1 h1.2.1 a18 b18
 have hO:=h5.next h1.1 h1.2.1 h1.2.2.1 a18 b18
 have ho:=h.l
 obtain⟨s1,s2,s3⟩:=hO.sz h.v.tr h0 h.s O (Xo _ _) b15.1
 obtain⟨o1,o2,o3⟩:=h5.sz h.v.tr h0 h.s O h4 h1.1
 have hol:(Em 13 q).length≤11:=by
  have e:=congrArg List.length c2
  rw [Pu c3 b12.tr c4 b16]at e
  have:=List.length_pos_iff.2 b16
  omega
 have hos:Sz 450 (Em 13 q):=by
  obtain⟨a,ha,e⟩:=hO
  have e2:Yy xs=Xs (Xs (Xs a (Qz 13 (Qz 13 q))) out) (Em 13 q):=e.trans ((Xo _ _).ext (Xo _ _) fun i=>Od (fun x=>by simp only [Yc];grind) i)
  exact(Zsw h.v.tr h0 h.s O (Xo _ _) c3 e2).1.mono O
 have hd:Dc (sqf 13 q) (sqf 13 (Qz 13 q))=0:=by
  have m1:=Pd a13
  have m2:=Pd b13
  have l1:=List.length_pos_iff.2 b16
  unfold Dc
  rw [if_neg O]
  split
  ·rfl
  ·have:((sqf 13 q).length-(sqf 13 (Qz 13 q)).length+1)*(Qk (sqf 13 (Qz 13 q))+1)≤12*240:=Nat.mul_le_mul O O
   rw [if_neg O]
 have hvo:Vp (Em 13 q):=⟨hos.mono O,c3,O⟩
 have hm:¬Ck out (Em 13 q):=fun hF=>by
  have m1:=Pd o1
  have m2:=Pd hos
  rcases hF.2.2 with w | w<;>omega
 refine⟨a12,hd,c1,hvo,hm,fun hl=>?_,fun hl=>?_,⟨s1.mono O,Xo _ _,Nat.le_trans s2 O⟩⟩
 ·cases f with
  | zero=>exact absurd (List.length_pos_iff.2 h1.2.1) O
  | succ f=>unfold Zps at h3;rw [if_neg hq,if_pos hl]at h3;exact h3
 ·cases f with
  | zero=>exact absurd (List.length_pos_iff.2 h1.2.1) O
  | succ f=>
   unfold Zps at h3;rw [if_neg hq,if_neg hl]at h3
   have l1:=a17 hq
   have l2:=b17 hl
   exact⟨f,Qz 13 (Qz 13 q),b15,O,h3,Xo _ _,hO,.inl ⟨O,rfl⟩⟩
theorem Zxw{xs:List Int}(h:Cvd xs)(h0:xs≠[]):Im xs=Eh 13 xs.length (Yy xs):=by
 have hD:=Dp.start h.v.tr h0
 have hl:=h.l
 have hok:=(hD.ok h.v.tr h0 h.s O O (show xs.length≤13+1 by omega)).2
 unfold Im
 rw [Ygy h.v.tr h0 h.s O O O xs.length [1] (Yy xs) (.inr (show cf [1] 0≠0 by decide)) hD (by rw [Qu h.v.tr];exact Nat.le_refl _),Ygq (Zmc (p:=xs) hD.1 hD.2.1 hok)]
theorem Zd7{xs:List Int}(h:Cvd xs)(h0:xs≠[]):Odp 13 205 xs (Im xs)∧Vp (Im xs)∧Sz 220 (Im xs)∧(Im xs).length≤xs.length∧Bh (Im xs):=by
 have hD:=Dp.start h.v.tr h0
 have hl:=h.l
 have hok:=(hD.ok h.v.tr h0 h.s O O (show xs.length≤13+1 by omega)).2
 have he:=Zxw h h0
 have ht:Tr (Im xs):=by rw [he];exact Zmc (p:=xs) hD.1 hD.2.1 hok
 obtain⟨⟨B,hB⟩,-⟩:=Ht h.v.tr h0 h.s O O (show xs.length≤13+1 by omega) xs.length (Yy xs) hD (by rw [Qu h.v.tr];exact Nat.le_refl _)
 rw [←he]at hB
 have e:Yy xs=Xs (Xs B B) (Im xs):=hD.1.ext (Xo _ _) fun i=>Od (fun x=>by rw [hB x,Yc,Yc];grind) i
 obtain⟨s1,s2,s3⟩:=Zsw h.v.tr h0 h.s O (Xo _ _) ht e
 have hC:=(chG 13 ht s3 s1 O O O).1
 refine⟨⟨h.v.tr,h0,h.s,O,O,O,he,ht,s3,hC⟩,⟨s1.mono O,ht,O⟩,s1,s2,.inr ?_⟩
 have m1:=Pd s1
 have g1:((Im xs).length+2)*((Im xs).length+2)≤13*13:=Nat.mul_le_mul O O
 have g2:((Im xs).length+2)*((Im xs).length+2)*(Qk (Im xs)+16)≤13*13*236:=Nat.mul_le_mul g1 O
 omega
def chx(xs:List Int):List (List Int):=if xs.length=0 then []else chn 13 (Im xs)
def Pw(xs:List Int):List (List Int):=Zc9 xs.length xs
theorem Zqr:∀(n k:Nat) (p:List Int),Tr p→p.length≤25→Sz k p→∀q∈Zc9 n p,Tr q∧q.length≤p.length∧Sz (k+5*n) q
 | 0,_,_,_,_,_,q,hq=>absurd hq (by simp [Zc9])
 | n+1,k,p,ht,hl,hs,q,hq=>by
  unfold Zc9 at hq
  by_cases h0:p.length=0
  ·rw [if_pos h0]at hq;exact absurd hq O7
  ·rw [if_neg h0]at hq
   rcases List.mem_cons.1 hq with rfl | hq
   ·exact⟨ht,Nat.le_refl _,hs.mono O⟩
   ·have ld':=Oz p
    obtain⟨a1,a2,a3⟩:=Zqr n (k+5) (Yx p) (Nn ht) O (Bf hs hl) q hq
    exact⟨a1,O,a3.mono O⟩
theorem Fn{xs:List Int}(h:Cvd xs):∀q∈Pw xs,Vp q∧Qk q≤6150∧q.length≤11:=fun q hq=>by
 have hl:=h.l
 obtain⟨a1,a2,a3⟩:=Zqr xs.length 205 xs h.v.tr O h.s q hq
 have:=Pd a3
 exact⟨⟨a3.mono O,a1,O⟩,O,O⟩
theorem Zeq{xs:List Int}(h:Cvd xs):∀q∈chx xs,Vp q∧Qk q≤6150∧q.length≤11:=fun q hq=>by
 have hl:=h.l
 unfold chx at hq
 by_cases h0:xs.length=0
 ·rw [if_pos h0]at hq;exact absurd hq O7
 ·rw [if_neg h0]at hq
  have h0':xs≠[]:=fun e=>h0 (by rw [e];rfl)
  obtain⟨a1,a2,a3,a4,a5⟩:=Zd7 h h0'
  obtain⟨b1,b2,b3,b4⟩:=chG 13 a1.otr a1.one a3 O O (show(Im xs).length≤13+1 by omega)
  exact⟨vp_chn a2 a1.one b1 q hq,(b4 q hq).1,by have:=(b4 q hq).2;omega⟩
theorem Zns(xs:List Int):(chx xs).length≤1000:=by
 unfold chx
 split
 ·exact Nat.zero_le _
 ·have:=Zci 13 (sqf 13 (Im xs)) (Zt (Yx (sqf 13 (Im xs))));unfold chn;omega
theorem Zos{p:List Int}{m:R2}(h1:Qk p≤6150)(h2:p.length≤11)(a:bl m.1.natAbs≤5300)(b:bl m.2.natAbs≤5300):¬Lh p m.1 m.2:=fun hF=>by
 have h3:Qk [m.1,m.2]≤5300:=by show max (bl m.1.natAbs) (max (bl m.2.natAbs) 0)≤5300;omega
 have h4:(p.length-1)*Qk [m.1,m.2]≤10*5300:=Nat.mul_le_mul O h3
 have:=hF.2
 omega
theorem Za8{xs:List Int}(h:Cvd xs){m:R2}(a:bl m.1.natAbs≤5300)(b:bl m.2.natAbs≤5300):(∀p∈Pw xs,¬Lh p m.1 m.2)∧(∀p∈chx xs,¬Lh p m.1 m.2):=
 ⟨fun p hp=>Zos (Fn h p hp).2.1 (Fn h p hp).2.2 a b,fun p hp=>Zos (Zeq h p hp).2.1 (Zeq h p hp).2.2 a b⟩
theorem Ya2{a b:R2}(ha:0<a.2)(hb:0<b.2):((a.1*b.2-b.1*a.2:Int):Rat)=(qv a-qv b)*((a.2:Rat)*(b.2:Rat)):=by
 have h1:=Il ha
 have h2:=Il hb
 unfold qv
 push_cast
 grind
theorem Yib{a b:R2}(ha:0<a.2)(hb:0<b.2):cmp a b<0↔qv a<qv b:=by
 have e:=Ya2 ha hb
 have hp:=Rat.mul_pos (Il ha) (Il hb)
 unfold cmp
 rw [Pg]
 constructor
 ·intro h
  have h1:((a.1*b.2-b.1*a.2:Int):Rat)<0:=by exact_mod_cast h
  rcases(show qv a<qv b∨qv b≤qv a by grind)with q | q
  ·exact q
  ·have:=Rat.mul_nonneg (show 0≤qv a-qv b by grind) (Rat.le_of_lt hp);grind
 ·intro h
  have:=Rat.mul_pos (show 0<qv b-qv a by grind) hp
  have h1:((a.1*b.2-b.1*a.2:Int):Rat)<0:=O4
  exact_mod_cast h1
theorem Zno{a b:R2}(ha:0<a.2)(hb:0<b.2):cmp a b=0↔qv a=qv b:=by
 have e:=Ya2 ha hb
 have hp:=Rat.mul_pos (Il ha) (Il hb)
 unfold cmp
 rw [Int.sign_eq_zero_iff_zero]
 constructor
 ·intro h
  rw [h]at e
  rcases Rat.mul_eq_zero.1 (show(qv a-qv b)*((a.2:Rat)*(b.2:Rat))=0 by rw [←e];rfl)with q | q
  ·grind
  ·rw [q]at hp;grind
 ·intro h
  have h1:((a.1*b.2-b.1*a.2:Int):Rat)=0:=by rw [e,h];grind
  exact_mod_cast h1
theorem Yic{a b:R2}(ha:0<a.2)(hb:0<b.2):cmp a b≤0↔qv a≤qv b:=by
 have h1:=Yib ha hb
 have h2:=Zno ha hb
 constructor
 ·intro h
  rcases(show cmp a b<0∨cmp a b=0 by omega)with q | q
  ·exact Rat.le_of_lt (h1.1 q)
  ·have:=h2.1 q;grind
 ·intro h
  rcases(show qv a<qv b∨qv a=qv b by grind)with q | q
  ·exact Int.le_of_lt (h1.2 q)
  ·exact Int.le_of_eq (h2.2 q)
theorem Yc4{m:R2}(hm:0<m.2)(p:List Int):fat m.1 m.2 p=Gx (Zb p (qv m)):=Zm9 hm p
theorem Yik{xs:List Int}(h:Cvd xs)(h0:xs≠[]){a b:R2}(ha:0<a.2)(hb:0<b.2):crb (chx xs) a b=true↔Ct 13 (Im xs) (qv a) (qv b):=by
 obtain⟨a1,a2,a3,a4,a5⟩:=Zd7 h h0
 have hl0:xs.length≠0:=fun e=>h0 (List.eq_nil_of_length_eq_zero e)
 unfold crb Ct chx
 rw [if_neg hl0]
 have hh:∃r,chn 13 (Im xs)=sqf 13 (Im xs) :: r:=by
  unfold chn Nu
  split<;>exact⟨_,rfl⟩
 obtain⟨r,hr⟩:=hh
 have hv:∀m:R2,0<m.2→chv (chn 13 (Im xs)) m=Be 13 (Im xs) (qv m):=fun m hm=>(cvc_v (F:=13) (xs:=Im xs) hm)
 rw [if_neg (by rw [hr];simp),hv a ha,hv b hb]
 have hg:(chn 13 (Im xs)).getD 0 []=sqf 13 (Im xs):=by rw [hr];rfl
 rw [hg,Yc4 hb]
 have hz:Gx (Zb (sqf 13 (Im xs)) (qv b))=0↔Zb (Im xs) (qv b)=0:=⟨fun e=>(a1.zero _).1 (Zo2 e),fun e=>Zo3 ((a1.zero _).2 e)⟩
 by_cases hb0:Zb (Im xs) (qv b)=0
 ·rw [if_pos hb0,if_pos (hz.2 hb0)];exact decide_eq_true_iff
 ·rw [if_neg hb0,if_neg (fun e=>hb0 (hz.1 e))];exact decide_eq_true_iff
theorem Zhd{xs:List Int}{m:R2}(hm:0<m.2):vlu (Pw xs) m=Gx (Zb xs (qv m)):=by
 unfold vlu Pw
 by_cases h0:xs.length=0
 ·have:xs=[]:=List.eq_nil_of_length_eq_zero h0
  subst this;rfl
 ·obtain⟨n,hn⟩:∃n,xs.length=n+1:=⟨xs.length-1,O⟩
  rw [hn];unfold Zc9;rw [if_neg h0,if_neg O7]
  exact Yc4 hm xs
theorem Zu3{xs:List Int}(h:Cvd xs){a b:R2}(ha:0<a.2)(hb:0<b.2)(hab:qv a≤qv b):ngb (Pw xs) (chx xs) a b=true↔Zy1 xs (qv a) (qv b):=by
 unfold ngb
 by_cases hc:cmp a b=0
 ·rw [if_pos hc,Zhd ha,decide_eq_true_iff]
  have e:=(Zno ha hb).1 hc
  constructor
  ·intro h1
   refine⟨qv a,Rat.le_refl,hab,?_⟩
   rcases Qs (Zb xs (qv a))with⟨h5,h6⟩ | ⟨h5,h6⟩ | ⟨h5,h6⟩
   ·rw [h6]at h1;exact absurd h1 O3
   ·exact h5
   ·rw [h6]at h1;exact absurd h1 O3
  ·rintro⟨x,x1,x2,x3⟩
   have:x=qv a:=O4
   rw [←this,Zkn x3];decide
 ·rw [if_neg hc]
  have hlt:qv a<qv b:=by have:=fun e=>hc ((Zno ha hb).2 e);grind
  by_cases h0:xs=[]
  ·subst h0
   constructor
   ·intro h1;exact absurd h1 (by show ¬(decide ((0:Int)<0) || false)=true;decide)
   ·rintro⟨x,x1,x2,x3⟩;exact absurd x3 (by show ¬(0:Rat)<0;grind)
  ·obtain⟨a1,a2,a3,a4,a5⟩:=Zd7 h h0
   rw [←a1.sem hlt,Bool.or_eq_true,decide_eq_true_iff,Yik h h0 ha hb,show aft (Pw xs) a=Gv xs.length xs (qv a)from Zqs ha _ _ (Nat.le_refl _)]
theorem Zqx{xs:List Int}(h:Cvd xs){m:Nat}(hm:m≤100):Zam xs m:=by
 refine .inr ?_
 have hl:=h.l
 have m1:=Pd h.s
 have g1:(xs.length+2)*(xs.length+2)≤13*13:=Nat.mul_le_mul O O
 have g2:(xs.length+2)*(xs.length+2)*(Qk xs+m+2*(xs.length-1)+32)≤13*13*357:=Nat.mul_le_mul g1 O
 omega
theorem Zk8{xs:List Int}(h:xs.length=0):Pw xs=[]:=by unfold Pw;rw [h];rfl
theorem Yij{xs:List Int}(h:xs.length=0):chx xs=[]:=by unfold chx;rw [if_pos h]
theorem chx_ne{xs:List Int}(h:xs.length≠0):chx xs=chn 13 (Im xs):=by unfold chx;rw [if_neg h]
theorem Zk9:∀(n m:Nat) (p:List Int),p.length≤n→p.length≤m→Zc9 n p=Zc9 m p
 | 0,m,p,h1,h2=>by
  have h0:p.length=0:=O
  cases m with
  | zero=>rfl
  | succ m=>unfold Zc9;rw [if_pos h0]
 | n+1,m,p,h1,h2=>by
  have ld':=Oz p
  cases m with
  | zero=>unfold Zc9;rw [if_pos O]
  | succ m=>
   unfold Zc9
   by_cases h0:p.length=0
   ·rw [if_pos h0,if_pos h0]
   ·rw [if_neg h0,if_neg h0,Zk9 n m (Yx p) O O]
theorem Zyo{p:List Int}(h:p.length≠0):Pw p=p :: Pw (Yx p):=by
 have ld':=Oz p
 unfold Pw
 obtain⟨n,hn⟩:∃n,p.length=n+1:=⟨p.length-1,O⟩
 rw [hn,show Zc9 (n+1) p=if p.length=0 then []else p :: Zc9 n (Yx p)from rfl,if_neg h,Zk9 n (Yx p).length (Yx p) O (Nat.le_refl _)]
def Ab(M:Nat)(p:List Int):Prop:=∀i,(cf p i).natAbs≤M
theorem Ab.sz{M n:Nat}{p:List Int}(h:Ab M p)(hM:M<2^n):Sz n p:=fun i=>(Xw n _).2 (Nat.lt_of_le_of_lt (h i) hM)
theorem Ab.mono{M N:Nat}{p:List Int}(h:Ab M p)(hM:M≤N):Ab N p:=fun i=>Nat.le_trans (h i) hM
theorem Gw{M:Nat}{p:List Int}(h:Ab M p)(c:Int):Ab (M*c.natAbs) (Zm p c):=fun i=>by
 rw [Yr,Int.natAbs_mul];exact Nat.mul_le_mul_right _ (h i)
theorem Zoo{f:Nat→Int}{M n:Nat}(h:∀k,(f k).natAbs≤M)(h4:∀k,n≤k→f k=0):∀m,(Zy f m).natAbs≤min m n*M
 | 0=>by show(0:Int).natAbs≤_;simp
 | m+1=>by
  have ih:=Zoo h h4 m
  rw [Yi]
  rcases Nat.lt_or_ge m n with q | q
  ·have:=h m
   rw [show min (m+1) n=min m n+1 by omega,Nat.succ_mul];omega
  ·rw [h4 m q,Int.add_zero,show min (m+1) n=min m n by omega];exact ih
theorem Ye5{M N n:Nat}{p q:List Int}(hp:Ab M p)(hq:Ab N q)(hl:p.length≤n):Ab (n*(M*N)) (Xs p q):=fun i=>by
 rw [Kq,PS.mul_c]
 exact Nat.le_trans (Zoo (n:=n) (M:=M*N) (fun k=>by rw [Int.natAbs_mul];exact Nat.mul_le_mul (hp k) (hq (i-k))) (fun k hk=>by
  show cf p k*_=0
  rw [Yl O,Int.zero_mul]) _) (Nat.mul_le_mul_right _ (Nat.min_le_right _ _))
theorem Zty{M N:Nat}{p q:List Int}(hp:Ab M p)(hq:Ab N q):Ab (M+N) (Ei p q):=fun i=>by
 rw [Cu];have:=hp i;have:=hq i;omega
theorem Ye4{M N:Nat}{p q:List Int}(hp:Ab M p)(hq:Ab N q):Ab (M+N) (Bb p q):=fun i=>by
 rw [Dd];have:=hp i;have:=hq i;omega
theorem ab_in{c:List Int}(h:∀a∈c,Xx a):Ab (2^63) (tzl c):=fun i=>by
 rw [Lj]
 obtain⟨h1,h2⟩:=La h i
 show(c.getD i 0).natAbs≤_
 omega
theorem Zmx{p q:List Int}{n:Nat}(h1:p.length≤n)(h2:q.length≤n):(Ei p q).length≤n:=by
 unfold Ei;refine Nat.le_trans (Ko _) ?_;rw [Yq];omega
theorem Zvf{p q:List Int}{n:Nat}(h1:p.length≤n)(h2:q.length≤n):(Bb p q).length≤n:=by
 unfold Bb;refine Nat.le_trans (Ko _) ?_;rw [Yq];omega
theorem Zvg{p q:List Int}{n m:Nat}(hp:Tr p)(hq:Tr q)(h1:p.length≤n)(h2:q.length≤m):(Xs p q).length≤n+m-1:=by
 by_cases e1:p=[]
 ·rw [e1,Hj];exact Nat.zero_le _
 ·by_cases e2:q=[]
  ·rw [e2,Ar];exact Nat.zero_le _
  ·have:=Pu hp hq e1 e2;omega
def dN:Nat→List Int→List Int
 | 0,p=>p
 | n+1,p=>Yx (dN n p)
def axQ(o:Nat)(c:List Int):List Int:=Zm (dN o (tzl c)) (1000^o)
def sqQ(o:Nat)(c:List Int):List Int:=Xs (axQ o c) (axQ o c)
def sumQ(o:Nat)(x y z:List Int):Nat→List Int
 | 0=>[]
 | i+1=>Ei (sumQ o x y z i) (sqQ o (Zp i x y z))
def kilo(o:Nat):Int:=Ci (List.replicate o 1000)
def timC(o:Nat)(m ov T:Int):Int:=Ci (m :: ov :: List.replicate o T)
def oneQ(o:Nat)(m ov T:Int):List Int:=Zm [1] (timC o m ov T)
def formP(o:Nat)(m ov T:Int)(x y z:List Int):List Int:=Zt (Bb (Xs (oneQ o m ov T) (oneQ o m ov T)) (sumQ o x y z 3))
structure Sgo (fr to ov:Int) (x y z:List Int):Prop where
 t1:0≤fr
 t2:fr<to
 t3:to≤3600000
 o1:1≤ov
 o2:ov≤4294967296
 hx:∀a∈x,Xx a
 hy:∀a∈y,Xx a
 hz:∀a∈z,Xx a
 lx:1≤x.length∧x.length≤6
 ly:1≤y.length∧y.length≤6
 lz:1≤z.length∧z.length≤6
theorem Sgo.hc{fr to ov:Int}{x y z:List Int}(h:Sgo fr to ov x y z)(i:Nat):∀a∈Zp i x y z,Xx a:=Lm h.hx h.hy h.hz i
theorem Sgo.lc{fr to ov:Int}{x y z:List Int}(h:Sgo fr to ov x y z)(i:Nat):1≤(Zp i x y z).length∧(Zp i x y z).length≤6:=Dr (p:=fun l:List Int=>1≤l.length∧l.length≤6) h.lx h.ly h.lz
theorem Sgo.of{fr to ov:Int}{x y z:List Int}(hx:∀a∈x,Xx a)(hy:∀a∈y,Xx a)(hz:∀a∈z,Xx a)(h:Kr fr to ov x y z=true):Sgo fr to ov x y z:=by
 unfold Kr Zw7 axB at h
 simp only [Bool.and_eq_true,decide_eq_true_eq]at h
 obtain⟨⟨⟨⟨⟨⟨⟨⟨a1,a2⟩,a3⟩,a4⟩,a5⟩,b1⟩,b2⟩,b3⟩,-⟩:=h
 exact⟨a1,a2,a3,a4,a5,hx,hy,hz,⟨b1.1.1.1,b1.1.1.2⟩,⟨b2.1.1.1,b2.1.1.2⟩,⟨b3.1.1.1,b3.1.1.2⟩⟩
def Mk:Nat→Nat
 | 0=>2^63
 | 1=>5*2^63
 | _=>4*(5*2^63)
theorem Zli{c:List Int}(h:c.length≤6):¬25<(tzl c).length:=by have:=Ko c;omega
def Lw(z:R2):Prop:=0<z.2∧Int.gcd z.1 z.2=1
theorem lgcd_p{x y:Int}(hy:0<y):Mn x y=(Int.gcd x y:Int):=by unfold Mn;rw [if_neg O]
theorem Yb9{x y:Int}(hy:0<y):Lw (x/Mn x y,y/Mn x y):=by
 have hg:0<Int.gcd x y:=Int.gcd_pos_of_ne_zero_right _ O
 rw [lgcd_p hy]
 refine⟨Int.ediv_pos_of_pos_of_dvd hy O (Int.gcd_dvd_right ..),?_⟩
 exact Int.gcd_ediv_gcd_ediv_gcd hg
theorem Zmq{a:R2}(ha:0<a.2)(h:¬Lq a.1 a.2):Lw (slow a):=by
 obtain⟨n1,n2,-⟩:=Zc0 h
 have:=Yb9 (x:=a.1) ha
 unfold slow;rw [n1,n2];exact this
theorem Yb8{a b:R2}(h:Zch a b)(ha:0<a.2)(hb:0<b.2):Lw (Qx a b):=by
 obtain⟨n1,n2,-⟩:=Zc0 h.2
 have hp:0<Ff (a.1*b.2+b.1*a.2) (a.2*b.2)*2:=Int.mul_pos (Zsi h.1 (Int.mul_pos ha hb)) O3
 have:=Yb9 (x:=Eg (a.1*b.2+b.1*a.2) (a.2*b.2)*1) hp
 unfold Qx;rw [n1,n2];exact this
structure Hv (n Q j:Nat) (W:Rat) (a b:R2):Prop where
 hQ:0<Q
 hQ2:Q<2^(2*n)
 ea:En (2^n) Q j a
 eb:En (2^n) Q j b
 wd:(qv b-qv a)*((2^j:Nat):Rat)=W
 le:qv a≤qv b
 la:Lw a
 lb:Lw b
theorem Hv.start{n:Nat}{a b:R2}(ha:0<a.2)(hb:0<b.2)(a1:bl a.1.natAbs≤n)(a2:bl a.2.natAbs≤n)(b1:bl b.1.natAbs≤n)(b2:bl b.2.natAbs≤n)(hn:n≤65536)(hle:qv a≤qv b):∃Q,Hv n Q 0 (qv b-qv a) (slow a) (slow b):=by
 obtain⟨s1,s2,s3,s4,s5⟩:=Zal ha a1 a2 hn
 obtain⟨t1,t2,t3,t4,t5⟩:=Zal hb b1 b2 hn
 have pa:=(Xw n _).1 s4
 have pb:=(Xw n _).1 t4
 have qa:=Zl6 ha (Nat.le_of_lt ((Xw n _).1 a1))
 have qb:=Zl6 hb (Nat.le_of_lt ((Xw n _).1 b1))
 have hQ0:0<(slow a).2.natAbs*(slow b).2.natAbs:=Nat.mul_pos O O
 have hQ1:(slow a).2.natAbs*(slow b).2.natAbs<2^(2*n):=by
  rw [show 2*n=n+n by omega,Nat.pow_add]
  exact Nat.mul_lt_mul_of_lt_of_le pa (Nat.le_of_lt pb) (Nat.pow_pos O3)
 generalize hQ:(slow a).2.natAbs*(slow b).2.natAbs=Q at *
 have hcast:((Q*2^0:Nat):Int)=(slow a).2*(slow b).2:=by
  rw [Nat.pow_zero,Nat.mul_one,←hQ];push_cast;rw [Int.natAbs_of_nonneg O,Int.natAbs_of_nonneg O]
 have ea:En (2^n) Q 0 (slow a):=⟨s2,by rw [hcast];exact Int.dvd_mul_right _ _,by rw [s5];exact qa.1,by rw [s5];exact qa.2⟩
 have eb:En (2^n) Q 0 (slow b):=⟨t2,by rw [hcast];exact Int.dvd_mul_left _ _,by rw [t5];exact qb.1,by rw [t5];exact qb.2⟩
 exact⟨Q,hQ0,hQ1,ea,eb,by rw [s5,t5,Nat.pow_zero];push_cast;grind,by rw [s5,t5];exact hle,Zmq ha s1,Zmq hb t1⟩
theorem Hv.mid{n Q j B:Nat}{W:Rat}{a b:R2}(h:Hv n Q j W a b)(hB:3*n+2+j≤B)(hB2:B≤65536) :
  Zch a b∧(bl (Qx a b).1.natAbs≤B∧bl (Qx a b).2.natAbs≤B∧0<(Qx a b).2)∧qv (Qx a b)=(qv a+qv b)/2∧(bl a.1.natAbs≤B∧bl a.2.natAbs≤B∧0<a.2)∧(bl b.1.natAbs≤B∧bl b.2.natAbs≤B∧0<b.2)∧
  Hv n Q (j+1) W a (Qx a b)∧Hv n Q (j+1) W (Qx a b) b:=by
 have hpow:∀m,m≤B→2^m≤2^B:=fun m h=>Nat.pow_le_pow_right O3 h
 have hB1:Q*2^(j+1)<2^B:=by
  have:Q*2^(j+1)<2^(2*n)*2^(j+1):=Nat.mul_lt_mul_of_pos_right h.hQ2 (Nat.pow_pos O3)
  rw [←Nat.pow_add]at this
  exact Nat.lt_of_lt_of_le this (hpow _ O)
 have hB3:2*2^n*(Q*2^j)<2^B:=by
  have h1:Q*2^j<2^(2*n)*2^j:=Nat.mul_lt_mul_of_pos_right h.hQ2 (Nat.pow_pos O3)
  have h2:2*2^n*(Q*2^j)<2*2^n*(2^(2*n)*2^j):=Nat.mul_lt_mul_of_pos_left h1 (Nat.mul_pos O3 (Nat.pow_pos O3))
  have h3:2*2^n*(2^(2*n)*2^j)=2^(3*n+1+j):=by
   rw [←Nat.pow_add,←Nat.pow_succ',←Nat.pow_add];congr 1;omega
  rw [h3]at h2
  exact Nat.lt_of_lt_of_le h2 (hpow _ O)
 obtain⟨m1,m2,m3,m4,m5⟩:=mid_en h.ea h.eb h.hQ hB1 hB3 hB2
 obtain⟨p1,p2⟩:=Ydc (e:=j) (w:=0) (B:=B) h.ea h.hQ h.hQ2 O
 obtain⟨r1,r2⟩:=Ydc (e:=j) (w:=0) (B:=B) h.eb h.hQ h.hQ2 O
 have hlm:=Yb8 m1 h.ea.pos h.eb.pos
 have hw:((2^(j+1):Nat):Rat)=2*((2^j:Nat):Rat):=by rw [Nat.pow_succ];push_cast;grind
 have hle:=h.le
 refine⟨m1,⟨m4,m5,m2.pos⟩,m3,⟨p1,p2,h.ea.pos⟩,⟨r1,r2,h.eb.pos⟩,⟨h.hQ,h.hQ2,h.ea.up,m2,?_,O4,h.la,hlm⟩,⟨h.hQ,h.hQ2,m2,h.eb.up,?_,O4,hlm,h.lb⟩⟩
 ·rw [m3,hw,←h.wd];grind
 ·rw [m3,hw,←h.wd];grind
theorem Zw9{p:List Int}{k n:Nat}(h:Sz k p)(hk:k≤n)(i:Nat):(cf p i).natAbs≤2^n:=Nat.le_trans (Ze6 h i) (Nat.pow_le_pow_right O3 hk)
theorem Yf9{xs:List Int}(h:Cvd xs)(h0:xs≠[]):Cd 13 xs∧∀u v:Rat,-((2^34:Nat):Rat)≤u→u≤v→v≤((2^34:Nat):Rat)→v-u≤1/((2^5000:Nat):Rat)→Be 13 xs u-Be 13 xs v≤1:=by
 have hl:=h.l
 obtain⟨hC,hq1,hq2,hq3⟩:=chG 13 h.v.tr h0 h.s O O O
 have hd:=Bf hq1 O
 have hss:∀n,n≤11→2≤n→Zuh (2^34) (2^225) n 5000=true:=O5
 obtain⟨n,hn⟩:∃n:Nat,n=225:=⟨_,rfl⟩
 rw [←hn]at hss
 have hd:Sz n (Yx (sqf 13 xs)):=by rw [hn];exact hd
 have hq:∀i,(cf (sqf 13 xs) i).natAbs≤2^n:=fun i=>Zw9 hq1 O i
 exact⟨hC,fun u v=>sep_of h.v.tr h0 hC (Nat.pow_pos O3) (A:=2^n) (Nat.pow_pos O3) hq (fun i=>Ze6 hd i) (fun h2=>hss _ O h2) u v⟩
theorem Zxt{j e w:Nat}{x W:Rat}(h1:1/((2^(e+1):Nat):Rat)<x)(h2:x*((2^j:Nat):Rat)=W)(h3:W≤((2^w:Nat):Rat)):j<e+1+w:=by
 have p1:=two_pow_pos (e+1)
 have p2:=two_pow_pos j
 rcases Nat.lt_or_ge j (e+1+w)with q | q
 ·exact q
 ·exfalso
  have hi:0<((2^(e+1):Nat):Rat)⁻¹:=Rat.inv_pos.2 p1
  have hc:((2^(e+1):Nat):Rat)*((2^(e+1):Nat):Rat)⁻¹=1:=Rat.mul_inv_cancel _ O4
  have g1:((2^(e+1):Nat):Rat)*((2^w:Nat):Rat)≤((2^j:Nat):Rat):=by
   have:2^(e+1)*2^w≤2^j:=by rw [←Nat.pow_add];exact Nat.pow_le_pow_right O3 q
   exact_mod_cast this
  have g2:((2^(e+1):Nat):Rat)⁻¹<x:=O4
  have g3:=Rat.mul_pos (show 0<x-((2^(e+1):Nat):Rat)⁻¹ by grind) p2
  have g4:=Rat.mul_nonneg (Rat.le_of_lt hi) (show 0≤((2^j:Nat):Rat)-((2^(e+1):Nat):Rat)*((2^w:Nat):Rat) by grind)
  have g5:((2^(e+1):Nat):Rat)⁻¹*(((2^(e+1):Nat):Rat)*((2^w:Nat):Rat))=((2^w:Nat):Rat):=by
   rw [←Rat.mul_assoc,Rat.mul_comm (((2^(e+1):Nat):Rat)⁻¹),hc,Rat.one_mul]
  grind
structure NIn (xs:List Int) (s t:Rat) (j:Nat) (a b:R2):Prop where
 ex:∃Q W,Hv 34 Q j W a b∧W≤((2^34:Nat):Rat)
 lo:s≤qv a
 hi:qv b≤t
 l0:-((2^33:Nat):Rat)≤s
 h0:t≤((2^33:Nat):Rat)
 pa:0≤Zb xs (qv a)
 pb:0≤Zb xs (qv b)
 ng:Zy1 xs (qv a) (qv b)
theorem rat34:((2^34:Nat):Rat)=2*((2^33:Nat):Rat)∧(1:Rat)≤((2^33:Nat):Rat):=by
 have h:∀n:Nat,((2^(n+1):Nat):Rat)=2*((2^n:Nat):Rat):=fun n=>by rw [Nat.pow_succ];push_cast;grind
 constructor
 ·exact h 33
 ·exact_mod_cast (show 1≤2^33 by decide)
theorem NIn.j{xs:List Int}{lo hi:Rat}{j:Nat}{a b:R2}(hd:Cvd xs)(h0:xs≠[])(h:NIn xs lo hi j a b):j<5035:=by
 obtain⟨Q,W,h1,h2⟩:=h.ex
 obtain⟨hC,hs⟩:=Yf9 hd h0
 obtain⟨k1,k2⟩:=rat34
 have a1:=h.lo
 have a2:=h.hi
 have a3:=h.l0
 have a4:=h.h0
 have:=Yg2 (Zd7 hd h0).1 hC (K:=2^34) (e:=5000) hs (s:=qv a) (t:=qv b) O4 O4 h.pa h.pb h.ng
 exact Zxt (e:=5000) (w:=34) this h1.wd h2
theorem NIn.start{xs:List Int}{a b:R2}(ha:0<a.2)(hb:0<b.2)(a1:bl a.1.natAbs≤32)(a2:bl a.2.natAbs≤32)(b1:bl b.1.natAbs≤32)(b2:bl b.2.natAbs≤32)(hle:qv a≤qv b)(pa:0≤Zb xs (qv a))(pb:0≤Zb xs (qv b))(ng:Zy1 xs (qv a) (qv b)) :
  NIn xs (qv a) (qv b) 0 (slow a) (slow b):=by
 obtain⟨Q,hh⟩:=Hv.start (n:=34) ha hb O O O O O hle
 obtain⟨-,-,-,-,s5⟩:=Zal (n:=34) ha O O O
 obtain⟨-,-,-,-,t5⟩:=Zal (n:=34) hb O O O
 have q1:=Zl6 (K:=2^33) ha (Nat.le_trans (Nat.le_of_lt ((Xw 32 _).1 a1)) O3)
 have q2:=Zl6 (K:=2^33) hb (Nat.le_trans (Nat.le_of_lt ((Xw 32 _).1 b1)) O3)
 obtain⟨k1,k2⟩:=rat34
 exact⟨⟨Q,_,hh,O4⟩,by rw [s5];exact Rat.le_refl,by rw [t5];exact Rat.le_refl,q1.1,q2.2,by rw [s5];exact pa,by rw [t5];exact pb,by rw [s5,t5];exact ng⟩
structure Fnd (xs:List Int) (s t:Rat) (m:R2):Prop where
 ng:Zb xs (qv m)<0
 lo:s≤qv m
 hi:qv m≤t
 b1:bl m.1.natAbs≤5200
 b2:bl m.2.natAbs≤5200
 lw:Lw m
theorem NIn.round{xs:List Int}{lo hi:Rat}{j:Nat}{a b:R2}(hd:Cvd xs)(h0:xs≠[])(h:NIn xs lo hi j a b) :
  Zch a b∧(bl (Qx a b).1.natAbs≤5200∧bl (Qx a b).2.natAbs≤5200∧0<(Qx a b).2)∧(bl a.1.natAbs≤5200∧bl a.2.natAbs≤5200∧0<a.2)∧(bl b.1.natAbs≤5200∧bl b.2.natAbs≤5200∧0<b.2)∧
  (vlu (Pw xs) (Qx a b)<0→Fnd xs lo hi (Qx a b))∧(¬vlu (Pw xs) (Qx a b)<0→ngb (Pw xs) (chx xs) a (Qx a b)=true→NIn xs lo hi (j+1) a (Qx a b))∧
  (¬vlu (Pw xs) (Qx a b)<0→ngb (Pw xs) (chx xs) a (Qx a b)=false→NIn xs lo hi (j+1) (Qx a b) b):=by
 have hj:=h.j hd h0
 obtain⟨Q,W,h1,h2⟩:=h.ex
 obtain⟨m1,m2,m3,m4,m5,m6,m7⟩:=h1.mid (B:=5200) O O
 have hle:=h1.le
 have l1:=h.lo
 have l2:=h.hi
 have hv:=Zhd (xs:=xs) m2.2.2
 have hns:¬vlu (Pw xs) (Qx a b)<0→0≤Zb xs (qv (Qx a b)):=fun hn=>by
  rw [hv]at hn
  rcases Qs (Zb xs (qv (Qx a b)))with⟨h5,h6⟩ | ⟨h5,h6⟩ | ⟨h5,h6⟩
  ·exact Rat.le_of_lt h5
  ·rw [h6]at hn;exact absurd O3 hn
  ·rw [h5];exact Rat.le_refl
 have hsem:=Zu3 hd m4.2.2 m2.2.2 (show qv a≤qv (Qx a b) by grind)
 refine⟨m1,m2,m4,m5,fun hn=>?_,fun hn hb=>?_,fun hn hb=>?_⟩
 ·have:Zb xs (qv (Qx a b))<0:=by
   rw [hv]at hn
   rcases Qs (Zb xs (qv (Qx a b)))with⟨h5,h6⟩ | ⟨h5,h6⟩ | ⟨h5,h6⟩
   ·rw [h6]at hn;exact absurd hn O3
   ·exact h5
   ·rw [h6]at hn;exact absurd hn O3
  exact⟨this,O4,O4,m2.1,m2.2.1,Yb8 m1 m4.2.2 m5.2.2⟩
 ·exact⟨⟨Q,W,m6,h2⟩,l1,O4,h.l0,h.h0,h.pa,hns hn,hsem.1 hb⟩
 ·refine⟨⟨Q,W,m7,h2⟩,O4,l2,h.l0,h.h0,hns hn,h.pb,?_⟩
  obtain⟨x,x1,x2,x3⟩:=h.ng
  rcases(show x≤qv (Qx a b)∨qv (Qx a b)≤x by grind)with q | q
  ·have:=hsem.2 ⟨x,x1,q,x3⟩;rw [hb]at this;exact absurd this O3
  ·exact⟨x,q,x2,x3⟩
def frs(xs:List Int):Nat→R2→R2→R2×R2
 | 0,a,b=>(a,b)
 | n+1,a,b=>if ngb (Pw xs) (chx xs) a (Qx a b)then frs xs n a (Qx a b)else frs xs n (Qx a b) b
structure E32 (a:R2):Prop where
 p:0<a.2
 b1:bl a.1.natAbs≤32
 b2:bl a.2.natAbs≤32
theorem E32.slow{a:R2}(h:E32 a):E32 (slow a)∧qv (Go.Sky.slow a)=qv a∧Lw (Go.Sky.slow a)∧¬Lq a.1 a.2:=by
 obtain⟨s1,s2,s3,s4,s5⟩:=Zal (n:=32) h.p h.b1 h.b2 O
 exact⟨⟨s2,s3,s4⟩,s5,Zmq h.p s1,s1⟩
theorem Zgl{xs:List Int}{m:R2}(hm:0<m.2):vlu (Pw xs) m<0↔Zb xs (qv m)<0:=by
 rw [Zhd hm]
 rcases Qs (Zb xs (qv m))with⟨h5,h6⟩ | ⟨h5,h6⟩ | ⟨h5,h6⟩
 ·rw [h6];constructor
  ·intro h;exact absurd h O3
  ·intro h;grind
 ·rw [h6];exact⟨fun _=>h5,fun _=>O3⟩
 ·rw [h6,h5];constructor
  ·intro h;exact absurd h O3
  ·intro h;grind
theorem end_l{xs:List Int}{a b:R2}(ha:E32 a)(hle:qv a≤qv b)(h:vlu (Pw xs) (slow a)<0):Fnd xs (qv a) (qv b) (slow a):=by
 obtain⟨s1,s2,s3,s4⟩:=ha.slow
 have h9:=(Zgl s1.p).1 h
 exact⟨h9,by rw [s2];exact Rat.le_refl,by rw [s2];exact hle,Nat.le_trans s1.b1 O3,Nat.le_trans s1.b2 O3,s3⟩
theorem end_r{xs:List Int}{a b:R2}(hb:E32 b)(hle:qv a≤qv b)(h:vlu (Pw xs) (slow b)<0):Fnd xs (qv a) (qv b) (slow b):=by
 obtain⟨s1,s2,s3,s4⟩:=hb.slow
 have h9:=(Zgl s1.p).1 h
 exact⟨h9,by rw [s2];exact hle,by rw [s2];exact Rat.le_refl,Nat.le_trans s1.b1 O3,Nat.le_trans s1.b2 O3,s3⟩
theorem Zxx{xs:List Int}{a b:R2}(hd:Cvd xs)(ha:E32 a)(hb:E32 b)(hle:qv a≤qv b)(h1:¬vlu (Pw xs) (slow a)<0)(h2:¬vlu (Pw xs) (slow b)<0)(hn:ngb (Pw xs) (chx xs) a b=true) :
  NIn xs (qv a) (qv b) 0 (slow a) (slow b):=by
 obtain⟨s1,s2,s3,s4⟩:=ha.slow
 obtain⟨t1,t2,t3,t4⟩:=hb.slow
 have k1:¬Zb xs (qv (slow a))<0:=fun e=>h1 ((Zgl s1.p).2 e)
 have k2:¬Zb xs (qv (slow b))<0:=fun e=>h2 ((Zgl t1.p).2 e)
 rw [s2]at k1
 rw [t2]at k2
 exact NIn.start ha.p hb.p ha.b1 ha.b2 hb.b1 hb.b2 hle O4 O4 ((Zu3 hd ha.p hb.p hle).1 hn)
theorem ngb_ne{xs:List Int}{a b:R2}(h:ngb (Pw xs) (chx xs) a b=true):xs≠[]:=fun e=>by
 subst e
 unfold ngb at h
 split at h
 ·exact absurd h (by show ¬decide ((0:Int)<0)=true;decide)
 ·exact absurd h (by show ¬(decide ((0:Int)<0) || false)=true;decide)
theorem E32.efit{a:R2}(h:E32 a):efit a=true:=by
 have:=h.b1
 have:=h.b2
 unfold Go.Sky.efit;exact decide_eq_true O
structure FIn (xs:List Int) (j:Nat) (a b:R2):Prop where
 ex:∃Q W,Hv 34 Q j W a b
 bj:j≤200
theorem FIn.start{xs:List Int}{a b:R2}(ha:E32 a)(hb:E32 b)(hle:qv a≤qv b):FIn xs 0 (slow a) (slow b):=by
 obtain⟨Q,hh⟩:=Hv.start (n:=34) ha.p hb.p (Nat.le_trans ha.b1 O3) (Nat.le_trans ha.b2 O3) (Nat.le_trans hb.b1 O3) (Nat.le_trans hb.b2 O3) O hle
 exact⟨⟨Q,_,hh⟩,O⟩
theorem FIn.round{xs:List Int}{j:Nat}{a b:R2}(h:FIn xs j a b) :
  Zch a b∧(bl (Qx a b).1.natAbs≤5200∧bl (Qx a b).2.natAbs≤5200∧0<(Qx a b).2)∧(bl a.1.natAbs≤5200∧bl a.2.natAbs≤5200∧0<a.2)∧(bl b.1.natAbs≤5200∧bl b.2.natAbs≤5200∧0<b.2)∧
  (j<200→FIn xs (j+1) a (Qx a b)∧FIn xs (j+1) (Qx a b) b):=by
 obtain⟨Q,W,h1⟩:=h.ex
 have hj:=h.bj
 obtain⟨m1,m2,m3,m4,m5,m6,m7⟩:=h1.mid (B:=5200) O O
 exact⟨m1,m2,m4,m5,fun hj2=>⟨⟨⟨Q,W,m6⟩,O⟩,⟨⟨Q,W,m7⟩,O⟩⟩⟩
theorem Yg1{xs:List Int}{a b:R2}(ha:E32 a)(hb:E32 b)(hle:qv a≤qv b){i:Nat}(hi:i<2)(h:vlu (Pw xs) ([slow a,slow b].getD i (0,0))<0):Fnd xs (qv a) (qv b) ([slow a,slow b].getD i (0,0)):=by
 rcases(show i=0∨i=1 by omega)with e | e
 ·subst e;exact end_l ha hle h
 ·subst e;exact end_r hb hle h
theorem Yhv{a b:R2}(ha:E32 a)(hb:E32 b)(i:Nat)(hi:i<2):E32 ([slow a,slow b].getD i (0,0)):=by
 rcases(show i=0∨i=1 by omega)with e | e
 ·subst e;exact ha.slow.1
 ·subst e;exact hb.slow.1
theorem Yid{a b:R2}(ha:E32 a)(hb:E32 b)(h:¬0<cmp a b):qv a≤qv b:=(Yic ha.p hb.p).1 O
theorem e32_0:E32 (0,1):=⟨O3,O3,O3⟩
theorem e32_1:E32 (1,1):=⟨O3,O3,O3⟩
theorem cmp01:¬0<cmp (0,1) (1,1):=O5
def Zc1(xs:List Int):Bool:=ngb (Pw xs) (chx xs) (0,1) (1,1)
def slS(d:List Int):Nat→Int
 | 0=>0
 | k+1=>slS d k+Ci [d.getD k 0,(k:Int)+1]
def fsS(d:List Int)(k:Nat):Int:=if k=0 then 0 else d.getD 0 0
def qr(a b:Int):R2:=(Eg a b,Ff a b)
def bgS(c:List Int):Int:=fsS (c.drop 1) (c.drop 1).length
def enS(c:List Int):Int:=slS (c.drop 1) (c.drop 1).length
def bS(ov T:Int)(x y z:List Int):Nat→List R2
 | 0=>List.replicate 3 (0,0)
 | i+1=>(bS ov T x y z i).set i (qr (bgS (Zp i x y z)) (Ci [ov,T]))
def eS(ov T:Int)(x y z:List Int):Nat→List R2
 | 0=>List.replicate 3 (0,0)
 | i+1=>(eS ov T x y z i).set i (qr (enS (Zp i x y z)) (Ci [ov,T]))
def joinB(fr to ov:Int)(x y z:List Int)(fr2 to2 ov2:Int)(x2 y2 z2:List Int):Bool:=
 decide (qr (bgS x2) (Ci [ov2,to2-fr2])=qr (enS x) (Ci [ov,to-fr])∧qr (bgS y2) (Ci [ov2,to2-fr2])=qr (enS y) (Ci [ov,to-fr])∧qr (bgS z2) (Ci [ov2,to2-fr2])=qr (enS z) (Ci [ov,to-fr]))
def plT(c:List Int)(a d:Int)(k:Nat):Int:=c.getD k 0*(a^k*d^(5-(k:Int)).toNat)
def plS(c:List Int)(a d:Int):Nat→Int
 | 0=>0
 | k+1=>plS c a d k+plT c a d k
def pl(c:List Int)(a d:Int):Int:=plS c a d c.length
def atS(a d:Int)(x y z:List Int):Nat→List Int
 | 0=>List.replicate 3 0
 | i+1=>(atS a d x y z i).set i (pl (Zp i x y z) a d)
def gS(ov a d:Int)(x y z:List Int):Nat→Int
 | 0=>ov*d^5
 | i+1=>(Int.gcd (gS ov a d x y z i) (pl (Zp i x y z) a d):Int)
abbrev plV (p q r o:Int):Value:= .agg #[.bool (decide (p<0)),.string (Xz p.natAbs),.bool (decide (q<0)),.string (Xz q.natAbs),.bool (decide (r<0)),.string (Xz r.natAbs),.bool (decide (o<0)),.string (Xz o.natAbs)]
theorem Ez(a d:Int)(x y z:List Int):∀i,(atS a d x y z i).length=3
 | 0=>rfl
 | i+1=>by show(List.set _ _ _).length=3;rw [List.length_set];exact Ez a d x y z i
theorem Yey(a d:Int)(x y z:List Int){i:Nat}(h:i<3):atS a d x y z i=(atS a d x y z i).set i 0:=by
 match i,h with
 | 0,_=>rfl
 | 1,_=>rfl
 | 2,_=>rfl
theorem Zoz{l:List Int}{i:Nat}(v:Int)(h:i<l.length):(l.set i v).getD i 0=v:=by
 rw [List.getD_eq_getElem?_getD,List.getElem?_set_self h];rfl
theorem Zuu{c:List Int}(h:∀x∈c,Xx x){a d:Int}(ha:0≤a∧a≤3600000)(hd:1≤d∧d≤3600000){k:Nat}(hk:k≤5):(a^k*d^(5-(k:Int)).toNat).natAbs≤3600000^5∧(plT c a d k).natAbs≤9223372036854775808*3600000^5:=by
 have h1:(a^k*d^(5-(k:Int)).toNat).natAbs≤3600000^5:=by
  rw [Int.natAbs_mul,Int.natAbs_pow,Int.natAbs_pow]
  refine Nat.le_trans (Nat.mul_le_mul (Nat.pow_le_pow_left (show a.natAbs≤3600000 by omega) k) (Nat.pow_le_pow_left (show d.natAbs≤3600000 by omega) _)) ?_
  rw [←Nat.pow_add,show k+(5-(k:Int)).toNat=5 by omega]
  exact Nat.le_refl _
 obtain⟨h2,h3⟩:=La h k
 refine⟨h1,?_⟩
 unfold plT
 rw [Int.natAbs_mul]
 exact Nat.mul_le_mul O h1
theorem Zuw{c:List Int}(h:∀x∈c,Xx x){a d:Int}(ha:0≤a∧a≤3600000)(hd:1≤d∧d≤3600000):∀k,k≤6→(plS c a d k).natAbs≤k*(9223372036854775808*3600000^5)
 | 0,_=>by show(0:Int).natAbs≤_;decide
 | k+1,hk=>by
  have ih:=Zuw h ha hd k O
  have:=(Zuu h ha hd (k:=k) O).2
  show(plS c a d k+plT c a d k).natAbs≤_
  rw [Nat.succ_mul];omega
theorem Zfq{c:List Int}(h:∀x∈c,Xx x){a d:Int}(ha:0≤a∧a≤3600000)(hd:1≤d∧d≤3600000){k:Nat}(hk:k≤6):bl (plS c a d k).natAbs≤180:=
 (Xw 180 _).2 (Nat.lt_of_le_of_lt (Zuw h ha hd k hk) (Nat.lt_of_le_of_lt (Nat.mul_le_mul_right _ hk) O3))
theorem Yem{c:List Int}(h:∀x∈c,Xx x){a d:Int}(ha:0≤a∧a≤3600000)(hd:1≤d∧d≤3600000){k:Nat}(hk:k≤5):bl (a^k*d^(5-(k:Int)).toNat).natAbs≤180∧bl (plT c a d k).natAbs≤180:=by
 obtain⟨h1,h2⟩:=Zuu h ha hd hk
 exact⟨(Xw 180 _).2 (Nat.lt_of_le_of_lt h1 O3),(Xw 180 _).2 (Nat.lt_of_le_of_lt h2 O3)⟩
theorem Zto{a:Int}(ha:0≤a∧a≤3600000){k:Nat}(hk:k≤5):bl (a^k).natAbs≤180:=by
 refine(Xw 180 _).2 ?_
 rw [Int.natAbs_pow]
 exact Nat.lt_of_le_of_lt (Nat.le_trans (Nat.pow_le_pow_left (show a.natAbs≤3600000 by omega) k) (Nat.pow_le_pow_right O3 hk)) O3
theorem Ycr{fr to ov:Int}{x y z:List Int}(h:Sgo fr to ov x y z){a d:Int}(ha:0≤a∧a≤3600000)(hd:1≤d∧d≤3600000):∀i,0<gS ov a d x y z i∧bl (gS ov a d x y z i).natAbs≤180
 | 0=>by
  have h1:=h.o1
  have h2:=h.o2
  refine⟨Int.mul_pos O (Int.pow_pos O),(Xw 180 _).2 ?_⟩
  show(ov*d^5).natAbs<_
  rw [Int.natAbs_mul,Int.natAbs_pow]
  exact Nat.lt_of_le_of_lt (Nat.mul_le_mul (show ov.natAbs≤4294967296 by omega) (Nat.pow_le_pow_left (show d.natAbs≤3600000 by omega) 5)) O3
 | i+1=>by
  obtain⟨h1,h2⟩:=Ycr h ha hd i
  have h3:0<Int.gcd (gS ov a d x y z i) (pl (Zp i x y z) a d):=Int.gcd_pos_of_ne_zero_left _ O
  have h4:=Zny (gS ov a d x y z i) (pl (Zp i x y z) a d)
  have h5:bl (pl (Zp i x y z) a d).natAbs≤180:=Zfq (h.hc i) ha hd (h.lc i).2
  show 0<((Int.gcd _ _:Nat):Int)∧bl ((Int.gcd _ _:Nat):Int).natAbs≤180
  exact⟨O,O⟩
def sameP(ov a d:Int)(x y z:List Int)(ov2 a2 d2:Int)(x2 y2 z2:List Int):Bool:=
 decide (pl x a d/gS ov a d x y z 3=pl x2 a2 d2/gS ov2 a2 d2 x2 y2 z2 3∧pl y a d/gS ov a d x y z 3=pl y2 a2 d2/gS ov2 a2 d2 x2 y2 z2 3∧pl z a d/gS ov a d x y z 3=pl z2 a2 d2/gS ov2 a2 d2 x2 y2 z2 3∧ov*d^5/gS ov a d x y z 3=ov2*d2^5/gS ov2 a2 d2 x2 y2 z2 3)
def Zpw(to ov:Int)(x y z:List Int)(fr2 ov2:Int)(x2 y2 z2:List Int):Bool:=decide (to=fr2) && sameP ov 1 1 x y z ov2 0 1 x2 y2 z2
structure Gin (g:Zv):Prop where
 f:Xx g.1.1
 t:Xx g.1.2.1
 o:Xx g.1.2.2
 x:∀a∈g.2.1.2,Xx a
 y:∀a∈g.2.2.1.2,Xx a
 z:∀a∈g.2.2.2.2,Xx a
def seB(g:Zv):Bool:=Kr g.1.1 g.1.2.1 g.1.2.2 g.2.1.2 g.2.2.1.2 g.2.2.2.2
def meG(g h:Zv):Bool:=Zpw g.1.2.1 g.1.2.2 g.2.1.2 g.2.2.1.2 g.2.2.2.2 h.1.1 h.1.2.2 h.2.1.2 h.2.2.1.2 h.2.2.2.2
abbrev SgG (g:Zv):Prop:=Sgo g.1.1 g.1.2.1 g.1.2.2 g.2.1.2 g.2.2.1.2 g.2.2.2.2
theorem Cz{g:Zv}(h:Gin g)(hb:seB g=true):SgG g:=Sgo.of h.x h.y h.z hb
def Zcz(ps:List Zv)(i:Nat):Bool:=seB (ps.getD i G0) && (decide (i=0) || meG (ps.getD (i-1) G0) (ps.getD i G0))
def Nr(ps:List Zv):Bool:=(List.range ps.length).all (Zcz ps) && decide (1≤ps.length) && decide (ps.length≤256)
theorem Zgy{ps:List Zv}{i:Nat}(h:Zcz ps i=true):seB (ps.getD i G0)=true:=by
 unfold Zcz at h;rw [Bool.and_eq_true]at h;exact h.1
theorem okAt_s{ps:List Zv}{i:Nat}(h:seB (ps.getD i G0)=false):Zcz ps i=false:=by unfold Zcz;rw [h];rfl
theorem okAt_0{ps:List Zv}{i:Nat}(h:seB (ps.getD i G0)=true)(h0:i=0):Zcz ps i=true:=by unfold Zcz;rw [h,decide_eq_true h0];rfl
theorem Zsf{ps:List Zv}{i:Nat}(h:seB (ps.getD i G0)=true)(h0:0<i):Zcz ps i=meG (ps.getD (i-1) G0) (ps.getD i G0):=by unfold Zcz;rw [h,decide_eq_false O];rfl
theorem Zuz{ps:List Zv}{i:Nat}(hi:i<ps.length)(h:Zcz ps i=false):Nr ps=false:=by
 unfold Nr
 have:(List.range ps.length).all (Zcz ps)=false:=by
  cases hb:(List.range ps.length).all (Zcz ps)with
  | false=>rfl
  | true=>have:=List.all_eq_true.1 hb i (List.mem_range.2 hi);rw [h]at this;cases this
 rw [this];rfl
theorem Zu0{ps:List Zv}(h:∀i,i<ps.length→Zcz ps i=true):Nr ps=decide (1≤ps.length∧ps.length≤256):=by
 unfold Nr
 rw [List.all_eq_true.2 fun i hi=>h i (List.mem_range.1 hi)]
 simp
theorem Zxj(g:Zv)(i:Nat):seB g=false∨(seB g=true∧i=0)∨(seB g=true∧0<i):=by
 cases seB g
 ·exact .inl rfl
 ·exact .inr (by rcases Nat.eq_zero_or_pos i with h | h;exact .inl ⟨rfl,h⟩;exact .inr ⟨rfl,h⟩)
theorem Dj{ps:List Zv}(h:Nr ps=true):(∀i,i<ps.length→Zcz ps i=true)∧1≤ps.length∧ps.length≤256:=by
 unfold Nr at h
 simp only [Bool.and_eq_true,decide_eq_true_eq]at h
 exact⟨fun i hi=>List.all_eq_true.1 h.1.1 i (List.mem_range.2 hi),h.1.2,h.2⟩
open Go.ChangeShapes Go.WideShapes Go.ChangeAt Go.RowKit Go.Joins Go.Deep
open Go.Proofs
variable {P:Program} {W:World} {H:Type} {enc:TypeId×Value→H}
theorem Zfi{n:Int}(h:(Lit.int .i64 n).wf=true):Xx n:=by
 simp [Lit.wf,IntKind.has,IntKind.min,IntKind.max,IntKind.bits,IntKind.signed]at h
 exact⟨O,O⟩
theorem Zpo {t ti ts e:TypeId} {f0 f1 f2 f3 f4 f5:Field} {v:Value} {d:DataW H} {p:List MemPlace} (ht:P.underlying t=some (.struct #[f0,f1,f2,f3,f4,f5])) (hts:P.cellTypes P.depth t=some [ti,ti,ti,ts,ts,ts])
  (h0:f0.type=ti) (h1:f1.type=ti) (h2:f2.type=ti) (h3:f3.type=ts) (h4:f4.type=ts) (h5:f5.type=ts) (o0:f0.offset=0) (o1:f1.offset=1) (o2:f2.offset=2) (o3:f3.offset=3) (o4:f4.offset=4) (o5:f5.offset=5)
  (hi:P.underlying ti=some (.int .i64)) (hs:P.underlying ts=some (.slice e)) (he:P.underlying e=some (.int .i64)) (hc:P.cellsOf e=1) (hci:P.cellsOf ti=1) (hcs:P.cellsOf ts=1) (hC:P.cellsOf t=6)
  {r:Reach} {b0:Nat} (hv:Value.okWide P W r b0 t v) (h:DataW.Trod enc P W 0 (fun _=>true) true t v d p) :
  ∃(fr to ov:Int) (sx sy sz:SL) (x y z:List Int),v= .agg #[.int .i64 fr,.int .i64 to,.int .i64 ov,Xb sx,Xb sy,Xb sz]∧(Yh 1 Zx (Xb sx) x).holds W∧(Yh 1 Zx (Xb sy) y).holds W∧(Yh 1 Zx (Xb sz) z).holds W∧
   Xx fr∧Xx to∧Xx ov∧(∀a∈x,Xx a)∧(∀a∈y,Xx a)∧(∀a∈z,Xx a):=by
 unfold Value.okWide at hv
 rw [ht]at hv
 simp only at hv
 obtain⟨cs,rfl,hsz,ts',hts',-,hcell⟩:=hv
 rw [hts]at hts'
 cases hts'
 obtain⟨fuel,hf⟩:=h
 obtain⟨xs,n,_,hx,hl,hlen,hfd⟩:=DataW.trod_struct ht hf
 have sl:∀(c:Value) (w:DataW H×List MemPlace),Cell.okWide P W r b0 ts c→DataW.trod enc P W 0 (fun _=>true) true n ts [c]=some w→∃(s:SL) (l:List Int),c=Xb s∧(Yh 1 Zx (Xb s) l).holds W∧∀a∈l,Xx a:=fun c w hv ht=>by
  have hv':Value.okWide P W r b0 ts c:=by unfold Value.okWide;rw [hs];exact hv
  obtain⟨a0,len,cap,rfl⟩:=okWide_slice hs hv'
  obtain⟨l,h1,h2⟩:=Zsd (enc:=enc) hs he hc hv' (d:=w.1) (p:=w.2) ⟨n,by simpa [Value.cells]using ht⟩
  exact⟨(a0,len,cap),l,rfl,h1,h2⟩
 rw [hC]at hsz
 obtain⟨l⟩:=cs
 have hsz:l.length=6:=by simpa using hsz
 match l,hsz with
 | [c0,c1,c2,c3,c4,c5],_=>
 match xs,hlen with
 | [y0,y1,y2,y3,y4,y5],_=>
 have e0:=hfd 0 f0 rfl
 have e1:=hfd 1 f1 rfl
 have e2:=hfd 2 f2 rfl
 have e3:=hfd 3 f3 rfl
 have e4:=hfd 4 f4 rfl
 have e5:=hfd 5 f5 rfl
 rw [h0,o0,hci]at e0
 rw [h1,o1,hci]at e1
 rw [h2,o2,hci]at e2
 rw [h3,o3,hcs]at e3
 rw [h4,o4,hcs]at e4
 rw [h5,o5,hcs]at e5
 obtain⟨m0,q0,w0⟩:=DataW.trod_int hi e0
 obtain⟨m1,q1,w1⟩:=DataW.trod_int hi e1
 obtain⟨m2,q2,w2⟩:=DataW.trod_int hi e2
 obtain⟨u3,k3,v3⟩:=hcell 3 c3 rfl
 obtain⟨u4,k4,v4⟩:=hcell 4 c4 rfl
 obtain⟨u5,k5,v5⟩:=hcell 5 c5 rfl
 have k3:u3=ts:=by simpa using k3.symm
 have k4:u4=ts:=by simpa using k4.symm
 have k5:u5=ts:=by simpa using k5.symm
 subst k3
 subst k4
 subst k5
 obtain⟨sx,x,rfl,hx1,hx2⟩:=sl c3 _ v3 (by simpa [Value.cells]using e3)
 obtain⟨sy,y,rfl,hy1,hy2⟩:=sl c4 _ v4 (by simpa [Value.cells]using e4)
 obtain⟨sz,z,rfl,hz1,hz2⟩:=sl c5 _ v5 (by simpa [Value.cells]using e5)
 simp [Value.cells]at q0 q1 q2
 subst q0
 subst q1
 subst q2
 exact⟨m0,m1,m2,sx,sy,sz,x,y,z,rfl,hx1,hy1,hz1,Zfi w0.2,Zfi w1.2,Zfi w2.2,hx2,hy2,hz2⟩
end Go.Sky
namespace Go.Sky
open Go.ChangeShapes Go.WideShapes Go.ChangeAt Go.RowKit Go.Joins Go.Deep
open Go.Proofs
variable {P:Program} {W:World} {H:Type} {enc:TypeId×Value→H}
theorem Zsc {t ti:TypeId} {f0 f1 f2:Field} {v:Value} {d:DataW H} {p:List MemPlace} (ht:P.underlying t=some (.struct #[f0,f1,f2])) (hC:P.cellsOf t=3) (h0:f0.type=ti) (h1:f1.type=ti) (h2:f2.type=ti) (o0:f0.offset=0) (o1:f1.offset=1) (o2:f2.offset=2)
  (hi:P.underlying ti=some (.int .i64)) (hci:P.cellsOf ti=1) {r:Reach} {b0:Nat} (hv:Value.okWide P W r b0 t v) (h:DataW.Trod enc P W 0 (fun _=>true) true t v d p):∃a b c:Int,v= .agg #[.int .i64 a,.int .i64 b,.int .i64 c]∧Xx a∧Xx b∧Xx c:=by
 obtain⟨cs,rfl,hsz⟩:=okWide_struct ht hv
 obtain⟨fuel,hf⟩:=h
 obtain⟨xs,n,_,hx,hl,hlen,hfd⟩:=DataW.trod_struct ht hf
 rw [hC]at hsz
 obtain⟨l⟩:=cs
 have hsz:l.length=3:=by simpa using hsz
 match l,hsz with
 | [c0,c1,c2],_=>
 match xs,hlen with
 | [y0,y1,y2],_=>
 have e0:=hfd 0 f0 rfl
 have e1:=hfd 1 f1 rfl
 have e2:=hfd 2 f2 rfl
 rw [h0,o0,hci]at e0
 rw [h1,o1,hci]at e1
 rw [h2,o2,hci]at e2
 obtain⟨m0,q0,w0⟩:=DataW.trod_int hi e0
 obtain⟨m1,q1,w1⟩:=DataW.trod_int hi e1
 obtain⟨m2,q2,w2⟩:=DataW.trod_int hi e2
 simp [Value.cells]at q0 q1 q2
 subst q0
 subst q1
 subst q2
 exact⟨m0,m1,m2,rfl,Zfi w0.2,Zfi w1.2,Zfi w2.2⟩
end Go.Sky
namespace Go.Proofs.YteikicbnfbgpnaaGreat
open Go Go.Joins Go.Sky
theorem Mp{a b:Bool}(h:a=true)(h2:b=true):(a && b)=true:=by rw [h,h2];rfl
theorem cf0:(fun(P:Program) (f:FuncId) (fn:Func) (s:ChangeSpec) (c:OpenClaim)=>c.wf (OpenSpec.ofChange s)) Tryz.checked.prog 4 Tryz.f4 Rows.downwashFormsSpec Rows.downwashFormsRow=true:=O6
theorem cf1:(fun(P:Program) (f:FuncId) (fn:Func) (s:ChangeSpec) (c:OpenClaim)=>laidOutB P) Tryz.checked.prog 4 Tryz.f4 Rows.downwashFormsSpec Rows.downwashFormsRow=true:=O6
theorem cf2:(fun(P:Program) (f:FuncId) (fn:Func) (s:ChangeSpec) (c:OpenClaim)=>mapsRowed P) Tryz.checked.prog 4 Tryz.f4 Rows.downwashFormsSpec Rows.downwashFormsRow=true:=O6
theorem cf3:(fun(P:Program) (f:FuncId) (fn:Func) (s:ChangeSpec) (c:OpenClaim)=>fn.params.all (P.readableRec ·)) Tryz.checked.prog 4 Tryz.f4 Rows.downwashFormsSpec Rows.downwashFormsRow=true:=O6
theorem cf4:(fun(P:Program) (f:FuncId) (fn:Func) (s:ChangeSpec) (c:OpenClaim)=>namedTie P c.named s.vars) Tryz.checked.prog 4 Tryz.f4 Rows.downwashFormsSpec Rows.downwashFormsRow=true:=O6
theorem cf5:(fun(P:Program) (f:FuncId) (fn:Func) (s:ChangeSpec) (c:OpenClaim)=>c.stops == []) Tryz.checked.prog 4 Tryz.f4 Rows.downwashFormsSpec Rows.downwashFormsRow=true:=O6
theorem cf6:(fun(P:Program) (f:FuncId) (fn:Func) (s:ChangeSpec) (c:OpenClaim)=>P.stops == []) Tryz.checked.prog 4 Tryz.f4 Rows.downwashFormsSpec Rows.downwashFormsRow=true:=O6
theorem cf7:(fun(P:Program) (f:FuncId) (fn:Func) (s:ChangeSpec) (c:OpenClaim)=>c.knobs == []) Tryz.checked.prog 4 Tryz.f4 Rows.downwashFormsSpec Rows.downwashFormsRow=true:=O6
theorem cf8:(fun(P:Program) (f:FuncId) (fn:Func) (s:ChangeSpec) (c:OpenClaim)=>P.stopKnobs == []) Tryz.checked.prog 4 Tryz.f4 Rows.downwashFormsSpec Rows.downwashFormsRow=true:=O6
theorem cf9:(fun(P:Program) (f:FuncId) (fn:Func) (s:ChangeSpec) (c:OpenClaim)=>c.inPlace == P.inPlace f) Tryz.checked.prog 4 Tryz.f4 Rows.downwashFormsSpec Rows.downwashFormsRow=true:=O6
theorem cf10:(fun(P:Program) (f:FuncId) (fn:Func) (s:ChangeSpec) (c:OpenClaim)=>c.unfollowed == P.unfollowed f) Tryz.checked.prog 4 Tryz.f4 Rows.downwashFormsSpec Rows.downwashFormsRow=true:=O6
theorem cf11:(fun(P:Program) (f:FuncId) (fn:Func) (s:ChangeSpec) (c:OpenClaim)=>c.recurses == P.recurses f) Tryz.checked.prog 4 Tryz.f4 Rows.downwashFormsSpec Rows.downwashFormsRow=true:=O6
theorem cf12:(fun(P:Program) (f:FuncId) (fn:Func) (s:ChangeSpec) (c:OpenClaim)=>c.named == P.varsNamed f) Tryz.checked.prog 4 Tryz.f4 Rows.downwashFormsSpec Rows.downwashFormsRow=true:=O6
theorem cf13:(fun(P:Program) (f:FuncId) (fn:Func) (s:ChangeSpec) (c:OpenClaim)=>(c.maps == (fn.params.toList ++ s.plain.varTypes P).any (P.mapsRec ·))) Tryz.checked.prog 4 Tryz.f4 Rows.downwashFormsSpec Rows.downwashFormsRow=true:=O6
theorem cf14:(fun(P:Program) (f:FuncId) (fn:Func) (s:ChangeSpec) (c:OpenClaim)=>(c.ifaces == (fn.params.toList ++ s.plain.varTypes P).any (P.ifacesRec ·))) Tryz.checked.prog 4 Tryz.f4 Rows.downwashFormsSpec Rows.downwashFormsRow=true:=O6
theorem cf15:(fun(P:Program) (f:FuncId) (fn:Func) (s:ChangeSpec) (c:OpenClaim)=>c.mapsOut == P.mapsAmong fn.resultTypes.toList) Tryz.checked.prog 4 Tryz.f4 Rows.downwashFormsSpec Rows.downwashFormsRow=true:=O6
theorem cf16:(fun(P:Program) (f:FuncId) (fn:Func) (s:ChangeSpec) (c:OpenClaim)=>(c.loops == (fn.params.toList ++ s.plain.varTypes P).any (P.loopsFrom ·))) Tryz.checked.prog 4 Tryz.f4 Rows.downwashFormsSpec Rows.downwashFormsRow=true:=O6
theorem cf17:(fun(P:Program) (f:FuncId) (fn:Func) (s:ChangeSpec) (c:OpenClaim)=>(c.wideKeys == (fn.params.toList ++ s.plain.varTypes P ++ fn.resultTypes.toList).any (P.wideKeysFrom ·))) Tryz.checked.prog 4 Tryz.f4 Rows.downwashFormsSpec Rows.downwashFormsRow=true:=O6
theorem cf18:(fun(P:Program) (f:FuncId) (fn:Func) (s:ChangeSpec) (c:OpenClaim)=>s.vars.all (P.varReadable ·)) Tryz.checked.prog 4 Tryz.f4 Rows.downwashFormsSpec Rows.downwashFormsRow=true:=O6
theorem cf19:(fun(P:Program) (f:FuncId) (fn:Func) (s:ChangeSpec) (c:OpenClaim)=>fn.resultTypes.all (fun t=>P.readableRec t && decide (t<P.types.size))) Tryz.checked.prog 4 Tryz.f4 Rows.downwashFormsSpec Rows.downwashFormsRow=true:=O6
theorem cf20:(fun(P:Program) (f:FuncId) (fn:Func) (s:ChangeSpec) (c:OpenClaim)=>(c.ifacesOut == fn.resultTypes.toList.any (P.ifacesRec ·))) Tryz.checked.prog 4 Tryz.f4 Rows.downwashFormsSpec Rows.downwashFormsRow=true:=O6
theorem cf21:(fun(P:Program) (f:FuncId) (fn:Func) (s:ChangeSpec) (c:OpenClaim)=>(c.loopsOut == fn.resultTypes.toList.any (P.loopsFrom ·))) Tryz.checked.prog 4 Tryz.f4 Rows.downwashFormsSpec Rows.downwashFormsRow=true:=O6
theorem cf22:(fun(P:Program) (f:FuncId) (fn:Func) (s:ChangeSpec) (c:OpenClaim)=>c.plainKeys == P.plainKeys) Tryz.checked.prog 4 Tryz.f4 Rows.downwashFormsSpec Rows.downwashFormsRow=true:=O6
theorem cf23:(fun(P:Program) (f:FuncId) (fn:Func) (s:ChangeSpec) (c:OpenClaim)=>c.shortTexts.isNone) Tryz.checked.prog 4 Tryz.f4 Rows.downwashFormsSpec Rows.downwashFormsRow=true:=O6
theorem cf24:(fun(P:Program) (f:FuncId) (fn:Func) (s:ChangeSpec) (c:OpenClaim)=>P.stopsHeard) Tryz.checked.prog 4 Tryz.f4 Rows.downwashFormsSpec Rows.downwashFormsRow=true:=O6
theorem cf25:(fun(P:Program) (f:FuncId) (fn:Func) (s:ChangeSpec) (c:OpenClaim)=>P.mayEnter) Tryz.checked.prog 4 Tryz.f4 Rows.downwashFormsSpec Rows.downwashFormsRow=true:=O6
theorem cf26:(fun(P:Program) (f:FuncId) (fn:Func) (s:ChangeSpec) (c:OpenClaim)=>c.lifted == P.liftsFinal) Tryz.checked.prog 4 Tryz.f4 Rows.downwashFormsSpec Rows.downwashFormsRow=true:=O6
theorem cf27:(fun(P:Program) (f:FuncId) (fn:Func) (s:ChangeSpec) (c:OpenClaim)=>P.make == some c.make) Tryz.checked.prog 4 Tryz.f4 Rows.downwashFormsSpec Rows.downwashFormsRow=true:=O6
theorem cf28:(fun(P:Program) (f:FuncId) (fn:Func) (s:ChangeSpec) (c:OpenClaim)=>c.kinds == (if c.domain.isEmpty then []else fn.params.toList.map fun t=>match P.underlying t with | some (.int k)=>some k | _=>none)) Tryz.checked.prog 4 Tryz.f4 Rows.downwashFormsSpec Rows.downwashFormsRow=true:=O6
theorem cf29:(fun(P:Program) (f:FuncId) (fn:Func) (s:ChangeSpec) (c:OpenClaim)=>c.pinned == c.pinnedBy) Tryz.checked.prog 4 Tryz.f4 Rows.downwashFormsSpec Rows.downwashFormsRow=true:=O6
theorem cf30:(fun(P:Program) (f:FuncId) (fn:Func) (s:ChangeSpec) (c:OpenClaim)=>(c.veiled == (fn.params.toList ++ s.plain.varTypes P ++ fn.resultTypes.toList).any (P.veiledRec ·))) Tryz.checked.prog 4 Tryz.f4 Rows.downwashFormsSpec Rows.downwashFormsRow=true:=O6
theorem cf31:(fun(P:Program) (f:FuncId) (fn:Func) (s:ChangeSpec) (c:OpenClaim)=>c.veiledFits P fn.params.toList (fn.params.toList ++ s.plain.varTypes P ++ fn.resultTypes.toList)) Tryz.checked.prog 4 Tryz.f4 Rows.downwashFormsSpec Rows.downwashFormsRow=true:=O6
set_option maxRecDepth 100000 in
theorem closed:joinedFacts Tryz.checked.prog 4 Tryz.f4 Rows.downwashFormsSpec Rows.downwashFormsRow=true:=(Mp (Mp (Mp (Mp (Mp (Mp (Mp (Mp (Mp (Mp (Mp (Mp (Mp (Mp (Mp (Mp (Mp (Mp (Mp (Mp (Mp (Mp (Mp (Mp (Mp (Mp (Mp (Mp (Mp (Mp (Mp cf0 cf1) cf2) cf3) cf4) cf5) cf6) cf7) cf8) cf9) cf10) cf11) cf12) cf13) cf14) cf15) cf16) cf17) cf18) cf19) cf20) cf21) cf22) cf23) cf24) cf25) cf26) cf27) cf28) cf29) cf30) cf31)
end Go.Proofs.YteikicbnfbgpnaaGreat
namespace Go.Sky
variable {P:Program} {N:Nat} {sc:Nat→Prop} {env env':Qw} {H H':Hp} {Q Q':Exit→Act→World→Prop} {M:Nat→Prop}
@[reducible] def lk2 {α:Type} : List (Nat×α)→Nat→Option α
 | [],_=>none
 | (k,v) :: r,n=>match Nat.beq k n with
  | true=>some v
  | false=>lk2 r n
theorem Zso{α:Type} : ∀(e:List (Nat×α)) (n:Nat),lk2 e n=lk e n
 | [],_=>rfl
 | (k,v) :: r,n=>by unfold lk2 lk;cases Nat.beq k n<;>simp [Zso r n]
@[reducible] def ev2 (e:Qw):Operand→Option Value
 | .tmp t=>lk2 e t
 | .const v=>some v
 | .global g=>some (.pointer (some ⟨g,0,none⟩))
 | .func f=>some (.func (.func f) #[] #[])
theorem ev2_eq(e:Qw)(x:Operand):ev2 e x=ev e x:=by cases x<;>simp [ev2,ev,Zso]
@[reducible] def nth {α:Type} : List α→Nat→Option α
 | [],_=>none
 | x :: r,n=>match n with
  | 0=>some x
  | n+1=>nth r n
theorem Zsg{α:Type} : ∀(l:List α) (n:Nat),nth l n=l[n]?
 | [],n=>by simp [nth]
 | x :: r,0=>by simp [nth]
 | x :: r,n+1=>by simp [nth,Zsg r n]
@[reducible] def ltb (a b:Nat):Bool:=match Nat.ble b a with
 | true=>false
 | false=>true
theorem Og{a b:Nat}(h:ltb a b=true):Nat.blt a b=true:=by
 unfold ltb at h
 cases hb:Nat.ble b a with
 | true=>rw [hb]at h;cases h
 | false=>
  have h1:¬b≤a:=fun h2=>by rw [Nat.ble_eq_true_of_le h2]at hb;cases hb
  show Nat.ble (a+1) b=true
  exact Nat.ble_eq_true_of_le O
@[reducible] def neb (a b:Nat):Bool:=match Nat.beq a b with
 | true=>false
 | false=>true
theorem Au{a b:Nat}(h:neb a b=true):a≠b:=fun e=>by
 subst e;unfold neb at h;rw [Nat.beq_refl]at h;cases h
class Som {α:Type} (a:Option α) (b:outParam α):Prop where h:a=some b
instance {α:Type} {b:α} : Som (some b) b:=⟨rfl⟩
class TB (a:Bool):Prop where h:a=true
instance:TB true:=⟨rfl⟩
theorem Som.e{x:Operand}{v:Value}(h:Som (ev2 env x) v):ev env x=some v:=(ev2_eq env x).symm.trans h.h
theorem Som.l{α:Type}{e:List (Nat×α)}{n:Nat}{v:α}(h:Som (lk2 e n) v):lk e n=some v:=(Zso e n).symm.trans h.h
theorem Som.n{α:Type}{l:List α}{n:Nat}{v:α}(h:Som (nth l n) v):l.toArray[n]? = some v:=by
 have:=(Zsg l n).symm.trans h.h;simpa using this
class AndO (s q:Prop) (r:outParam Prop):Prop where h:r→s∧q
instance (priority:=low) {s q:Prop} : AndO s q (s∧q):=⟨id⟩
instance {q:Prop} : AndO True q q:=⟨fun h=>⟨trivial,h⟩⟩
class Und (P:Program) (t:TypeId) (d:outParam TypeDesc):Prop where h:P.underlying t=some d
class Siz (P:Program) (t:TypeId) (k:outParam Nat):Prop where h:∀w,(sizeOf t).run P w= .ok k w
class Agg (P:Program) (t:TypeId) (b:outParam Bool):Prop where h:∀w,(isAgg t).run P w= .ok b w
class EncT {α:Type} (P:Program) (t:TypeId) (k:Nat) (enc:α→Value):Prop where h:Enc P t k enc
class RdI (P:Program) (H:Hp) (v:Value) (i:outParam Nat) {α:outParam Type} (k:outParam Nat) (enc:outParam (α→Value)) (xs:outParam (List α)):Prop where
 h:∃p,lk H i=some p∧Rd p k enc v xs
instance {α:Type} {v:Value} {i k:Nat} {enc:α→Value} {xs:List α} : RdI P ((i,Yh k enc v xs) :: H) v i k enc xs:=⟨_,Yb _ _ _,Zk⟩
instance {α:Type} {v:Value} {i k:Nat} {enc:α→Value} {xs:List α} {e:TypeId} [h:EncT P e k enc]:RdI P ((i,Oa k e enc v xs) :: H) v i k enc xs:=⟨_,Yb _ _ _,Ys h.h⟩
instance {β:Type} {v:Value} {i k:Nat} {enc:β→Value} {q:β→Pc} {zs:List β} : RdI P ((i,Pz k enc q v zs) :: H) v i k enc zs:=⟨_,Yb _ _ _,Zn⟩
instance (priority:=low) {α:Type} {v:Value} {i j k:Nat} {p:Pc} {enc:α→Value} {xs:List α} [h:RdI P H v i k enc xs] [hn:TB (neb j i)]:RdI P ((j,p) :: H) v i k enc xs:=
 ⟨by obtain⟨q,h1,h2⟩:=h.h;exact⟨q,by rw [Zl _ _ (Au hn.h)];exact h1,h2⟩⟩
class BxI (H:Hp) (b:Nat) (i:outParam Nat) (t:outParam TypeId) (l:outParam (List Value)):Prop where h:lk H i=some (box b t l.toArray)
instance {b i:Nat} {t:TypeId} {l:List Value} : BxI ((i,box b t l.toArray) :: H) b i t l:=⟨Yb _ _ _⟩
instance (priority:=low) {b i j:Nat} {t:TypeId} {p:Pc} {l:List Value} [h:BxI H b i t l] [hn:TB (neb j i)]:BxI ((j,p) :: H) b i t l:=⟨by rw [Zl _ _ (Au hn.h)];exact h.h⟩
class RxI (H:Hp) (b:Nat) (i:outParam Nat) (t:outParam TypeId) (l:outParam (List Value)):Prop where h:lk H i=some (Hg b t l.toArray)
instance {b i:Nat} {t:TypeId} {l:List Value} : RxI ((i,Hg b t l.toArray) :: H) b i t l:=⟨Yb _ _ _⟩
instance (priority:=low) {b i j:Nat} {t:TypeId} {p:Pc} {l:List Value} [h:RxI H b i t l] [hn:TB (neb j i)]:RxI ((j,p) :: H) b i t l:=⟨by rw [Zl _ _ (Au hn.h)];exact h.h⟩
class DI (P:Program) (N:Nat) (sc:Nat→Prop) (op:Go.Op) (env:Qw) (H:Hp) (v:outParam Value) (s:outParam Prop):Prop where
 h:s→∀{d:Option Tmp} {ty:TypeId} {pos:String} {af:Array Edge} {g:Option (Nat×Bool)},Nt P N sc ⟨d,op,ty,pos,af,g⟩ env H v
section
variable {x y c:Operand} {v u:Value} {t t':TypeId} {k:IntKind} {m n:Int}
instance [h:Som (ev2 env x) v]:DI P N sc (.move x) env H v True:=⟨fun _=>d_mv rfl h.e⟩
instance [h:Som (ev2 env x) v]:DI P N sc (.assign x) env H v True:=⟨fun _=>d_as rfl h.e⟩
instance {i:Nat} {vs:List Value} [h:Som (ev2 env x) (.tuple vs.toArray)] [h2:Som (nth vs i) v]:DI P N sc (.extract x i) env H v True:=⟨fun _=>Zs6 rfl h.e h2.n⟩
instance {ad:Addr} [h:Som (ev2 env x) (.pointer (some ad))]:DI P N sc (.nilCheck x) env H (.pointer (some ad)) True:=⟨fun _=>d_nc rfl h.e⟩
instance {p:Prop} [Decidable p] [h:Som (ev2 env x) (.bool (decide p))]:DI P N sc (.unOp .not t x) env H (.bool (decide (¬p))) True:=⟨fun _=>Zla rfl h.e⟩
instance (priority:=low) {b:Bool} [h:Som (ev2 env x) (.bool b)]:DI P N sc (.unOp .not t x) env H (.bool (!b)) True:=⟨fun _=>Qf rfl h.e⟩
instance (priority:=high) [h:Som (ev2 env x) (.bool true)]:DI P N sc (.unOp .not t x) env H (.bool false) True:=⟨fun _=>Qf rfl h.e⟩
instance (priority:=high) [h:Som (ev2 env x) (.bool false)]:DI P N sc (.unOp .not t x) env H (.bool true) True:=⟨fun _=>Qf rfl h.e⟩
instance [h:Som (ev2 env c) (.bool true)] [h1:Som (ev2 env x) v]:DI P N sc (.pick c x y) env H v True:=⟨fun _=>Yh0 rfl h.e h1.e⟩
instance [h:Som (ev2 env c) (.bool false)] [h1:Som (ev2 env y) v]:DI P N sc (.pick c x y) env H v True:=⟨fun _=>Yh1 rfl h.e h1.e⟩
instance [h:Som (ev2 env x) (.int k m)] [h1:Som (ev2 env y) (.int k n)]:DI P N sc (.binOp .lss t x y t') env H (.bool (decide (m<n))) True:=⟨fun _=>Yds rfl h.e h1.e⟩
instance [h:Som (ev2 env x) (.int k m)] [h1:Som (ev2 env y) (.int k n)]:DI P N sc (.binOp .leq t x y t') env H (.bool (decide (m≤n))) True:=⟨fun _=>d_leq rfl h.e h1.e⟩
instance [h:Som (ev2 env x) (.int k m)] [h1:Som (ev2 env y) (.int k n)]:DI P N sc (.binOp .gtr t x y t') env H (.bool (decide (n<m))) True:=⟨fun _=>Zga rfl h.e h1.e⟩
instance [h:Som (ev2 env x) (.int k m)] [h1:Som (ev2 env y) (.int k n)]:DI P N sc (.binOp .geq t x y t') env H (.bool (decide (n≤m))) True:=⟨fun _=>d_geq rfl h.e h1.e⟩
instance [h:Som (ev2 env x) (.int k m)] [h1:Som (ev2 env y) (.int k n)]:DI P N sc (.binOp .eql t x y t') env H (.bool (decide (m=n))) True:=⟨fun _=>Ydu rfl h.e h1.e⟩
instance [h:Som (ev2 env x) (.int k m)] [h1:Som (ev2 env y) (.int k n)]:DI P N sc (.binOp .neq t x y t') env H (.bool (decide (m≠n))) True:=⟨fun _=>d_neq rfl h.e h1.e⟩
instance {a b:Bool} [h:Som (ev2 env x) (.bool a)] [h1:Som (ev2 env y) (.bool b)] [h2:Und P t .bool]:DI P N sc (.binOp .eql t x y t') env H (.bool (a == b)) True:=⟨fun _=>d_eqb rfl h.e h1.e h2.h⟩
instance {a b:Bool} [h:Som (ev2 env x) (.bool a)] [h1:Som (ev2 env y) (.bool b)] [h2:Und P t .bool]:DI P N sc (.binOp .neq t x y t') env H (.bool (a != b)) True:=⟨fun _=>d_neb rfl h.e h1.e h2.h⟩
instance [h:Som (ev2 env x) (.int .i64 m)] [h1:Som (ev2 env y) (.int .i64 n)]:DI P N sc (.binOp .add t x y t') env H (.int .i64 (m+n)) (-9223372036854775808≤m+n∧m+n≤9223372036854775807):=⟨fun s=>d_add rfl h.e h1.e s⟩
instance [h:Som (ev2 env x) (.int .i64 m)] [h1:Som (ev2 env y) (.int .i64 n)]:DI P N sc (.binOp .sub t x y t') env H (.int .i64 (m-n)) (-9223372036854775808≤m-n∧m-n≤9223372036854775807):=⟨fun s=>d_sub rfl h.e h1.e s⟩
instance [h:Som (ev2 env x) (.int .i64 m)] [h1:Som (ev2 env y) (.int .i64 n)]:DI P N sc (.binOp .mul t x y t') env H (.int .i64 (m*n)) (-9223372036854775808≤m*n∧m*n≤9223372036854775807):=⟨fun s=>d_mul rfl h.e h1.e s⟩
instance {i kk:Nat} {α:Type} {enc:α→Value} {xs:List α} {e:TypeId} [h:Som (ev2 env x) v] [h1:RdI P H v i kk enc xs] [h2:Und P t (.slice e)]:DI P N sc (.call { callee:= .builtin .len,args:=#[x],argTypes:=#[t] }) env H (.int .i64 xs.length) True:=
 ⟨fun _=>by obtain⟨p,h3,h4⟩:=h1.h;exact d_len rfl h.e h3 h4 h2.h⟩
instance {s:ByteArray} [h:Som (ev2 env x) (.string s)] [h2:Und P t .string]:DI P N sc (.call { callee:= .builtin .len,args:=#[x],argTypes:=#[t] }) env H (.int .i64 s.size) True:=⟨fun _=>d_lens rfl h.e h2.h⟩
end
@[reducible] def eqb (a b:Nat):Bool:=match Nat.beq a b with
 | true=>true
 | false=>false
theorem eqb_eq{a b:Nat}(h:eqb a b=true):a=b:=by
 unfold eqb at h;cases hb:Nat.beq a b with
 | true=>exact Nat.eq_of_beq_eq_true hb
 | false=>rw [hb]at h;cases h
@[reducible] def lenq {α:Type} : List α→Nat→Bool
 | [],n=>match n with
  | 0=>true
  | _+1=>false
 | _ :: r,n=>match n with
  | 0=>false
  | n+1=>lenq r n
theorem Zec{α:Type} : ∀{l:List α} {n:Nat},lenq l n=true→l.length=n
 | [],0,_=>rfl
 | [],n+1,h=>by simp [lenq]at h
 | _ :: r,0,h=>by simp [lenq]at h
 | _ :: r,n+1,h=>by
  have:=Zec (l:=r) (n:=n) (by simpa [lenq]using h)
  simp [this]
@[reducible] def fit0 {α β:Type} : List α→List β→Bool
 | _,[]=>true
 | l,_ :: vs=>match l with
  | []=>false
  | _ :: r=>fit0 r vs
@[reducible] def fits {α β:Type} : List α→Nat→List β→Bool
 | [],j,vs=>match j with
  | 0=>fit0 ([]:List α) vs
  | _+1=>false
 | x :: r,j,vs=>match j with
  | 0=>fit0 (x :: r) vs
  | j+1=>fits r j vs
theorem Zm5{α β:Type} : ∀{vs:List β} {l:List α},fit0 l vs=true→vs.length≤l.length
 | [],_,_=>O7
 | _ :: vs,[],h=>by simp [fit0]at h
 | _ :: vs,_ :: r,h=>by
  have:=Zm5 (vs:=vs) (l:=r) (by simpa [fit0]using h)
  simp;omega
theorem Zvm{α β:Type} : ∀{l:List α} {j:Nat} {vs:List β},fits l j vs=true→j+vs.length≤l.length
 | [],0,vs,h=>by have:=Zm5 (by simpa [fits]using h);simpa using this
 | [],j+1,vs,h=>by simp [fits]at h
 | x :: r,0,vs,h=>by have:=Zm5 (l:=x :: r) (by simpa [fits]using h);simpa using this
 | x :: r,j+1,vs,h=>by
  have:=Zvm (l:=r) (j:=j) (by simpa [fits]using h)
  simp;omega
@[reducible] def seg {α:Type} : List α→Nat→Nat→List α
 | [],_,_=>[]
 | x :: r,j,k=>match j with
  | j+1=>seg r j k
  | 0=>match k with
   | 0=>[]
   | k+1=>x :: seg r 0 k
theorem Zgs{α:Type} : ∀(l:List α) (j k n:Nat) (u:α),(seg l j k)[n]? = some u→l[j+n]? = some u
 | [],_,_,_,_,h=>by simp [seg]at h
 | x :: r,j+1,k,n,u,h=>by
  have:=Zgs r j k n u (by simpa [seg]using h)
  rw [show j+1+n=(j+n)+1 by omega];simpa using this
 | x :: r,0,0,n,u,h=>by simp [seg]at h
 | x :: r,0,k+1,0,u,h=>by simpa [seg]using h
 | x :: r,0,k+1,n+1,u,h=>by
  have:=Zgs r 0 k n u (by simpa [seg]using h)
  rw [Nat.zero_add]at this ⊢;simpa using this
class LEv {α:Type} (l:List α) (r:outParam (List α)):Prop where h:l=r
instance {α:Type} : LEv ([]:List α) []:=⟨rfl⟩
instance {α:Type} {a:α} {l r:List α} [h:LEv l r]:LEv (a :: l) (a :: r):=⟨by rw [h.h]⟩
class AddN (a b:Nat) (c:outParam Nat):Prop where h:a+b=c
instance (priority:=low) {a b:Nat} : AddN a b (a+b):=⟨rfl⟩
instance {b:Nat} : AddN 0 b b:=⟨Nat.zero_add b⟩
instance {a:Nat} : AddN a 0 a:=⟨rfl⟩
class Df (α:Type) (d:outParam α):Prop where t:True
instance:Df Int 0:=⟨trivial⟩
instance:Df Nat 0:=⟨trivial⟩
section
variable {x y:Operand} {v u:Value} {t tb:TypeId} {b j i k f:Nat} {l vs ws:List Value}
instance [h:Som (ev2 env x) (.pointer (some ⟨b,j,none⟩))] [h1:Agg P t false] [h2:BxI H b i tb l] [h3:Som (nth l j) v]:DI P N sc (.load t x) env H v True:=⟨fun _=>Zyq rfl h.e h2.h h1.h h3.n⟩
instance [h:Som (ev2 env x) (.pointer (some ⟨b,j,none⟩))] [h1:Agg P t true] [h2:BxI H b i tb l] [h4:Siz P t k] [h3:LEv (seg l j k) vs] [h5:TB (lenq vs k)]:DI P N sc (.load t x) env H (.agg vs.toArray) True:=
 ⟨fun _=>Zv3 rfl h.e h2.h h1.h h4.h (Zec h5.h) (fun n u hu=>by rw [←h3.h]at hu;simpa using Zgs l j k n u hu)⟩
instance [h:Som (ev2 env x) (.pointer (some ⟨b,j,none⟩))] [h1:Agg P t false] [h2:RxI H b i tb l] [h3:Som (nth l j) v]:DI P N sc (.load t x) env H v True:=⟨fun _=>d_lr rfl h.e h2.h h1.h h3.n⟩
instance [h:Som (ev2 env x) (.pointer (some ⟨b,j,none⟩))] [h1:Agg P t true] [h2:RxI H b i tb l] [h4:Siz P t k] [h3:LEv (seg l j k) vs] [h5:TB (lenq vs k)]:DI P N sc (.load t x) env H (.agg vs.toArray) True:=
 ⟨fun _=>d_lra rfl h.e h2.h h1.h h4.h (Zec h5.h) (fun n u hu=>by rw [←h3.h]at hu;simpa using Zgs l j k n u hu)⟩
instance {fs:List Field} {c q bo:Nat} {nm tag pk:String} {ft:TypeId} {em:Bool} [h:Som (ev2 env x) (.pointer (some ⟨b,j,none⟩))] [h1:Und P t (.struct fs.toArray)] [h2:Som (nth fs f) ⟨nm,ft,q,em,tag,pk,bo⟩] [h3:Siz P ft k] [h5:TB (neb k 0)] [h4:AddN j q c] :
  DI P N sc (.fieldAddr t x f) env H (.pointer (some ⟨b,c,none⟩)) True:=⟨fun _=>by
 obtain⟨k,rfl⟩:=Nat.exists_eq_succ_of_ne_zero (Au h5.h)
 exact d_fa rfl h.e h1.h h2.n h3.h rfl h4.h⟩
instance {α:Type} {enc:α→Value} {xs:List α} {e:TypeId} {kd:IntKind} {n:Nat} [h:Som (ev2 env x) v] [h1:Som (ev2 env y) (.int kd (n:Int))] [h2:RdI P H v i k enc xs] [h3:Und P t (.slice e)] [h4:Siz P e k] :
  DI P N sc (.indexAddr t x y) env H (.pointer (some (ead v n k))) (n<xs.length):=⟨fun s=>by obtain⟨p,h5,h6⟩:=h2.h;exact Yn rfl h.e h1.e h5 h6 h3.h h4.h rfl s⟩
instance {α:Type} {enc:α→Value} {xs:List α} {e:TypeId} {kd:IntKind} {n:Nat} [h:Som (ev2 env x) v] [h1:Som (ev2 env y) (.int kd (@OfNat.ofNat Int n (@instOfNat n)))] [hl:TB (eqb n n)] [h2:RdI P H v i k enc xs] [h3:Und P t (.slice e)] [h4:Siz P e k] :
  DI P N sc (.indexAddr t x y) env H (.pointer (some (ead v (@OfNat.ofNat Nat n (instOfNatNat n)) k))) (@OfNat.ofNat Nat n (instOfNatNat n)<xs.length):=⟨fun s=>by obtain⟨p,h5,h6⟩:=h2.h;exact Yn rfl h.e h1.e h5 h6 h3.h h4.h rfl s⟩
instance {α:Type} {enc:α→Value} {xs:List α} {n:Nat} {d0:α} [h:Som (ev2 env x) (.pointer (some (ead v n k)))] [h2:RdI P H v i k enc xs] [h3:EncT P t k enc] [h4:Df α d0] :
  DI P N sc (.load t x) env H (enc (xs.getD n d0)) (n<xs.length):=⟨fun s=>by obtain⟨p,h5,h6⟩:=h2.h;exact Oi d0 rfl h.e h5 h6 h3.h s⟩
instance {fs:List Field} {q bo:Nat} {nm tag pk:String} {ft:TypeId} {em:Bool} [h:Som (ev2 env x) (.agg l.toArray)] [h1:Und P t (.struct fs.toArray)] [h2:Som (nth fs f) ⟨nm,ft,q,em,tag,pk,bo⟩] [h3:Agg P ft false] [h4:Som (nth l q) v] :
  DI P N sc (.field t x f) env H v True:=⟨fun _=>d_fld rfl h.e h1.h h2.n h3.h h4.n⟩
end
class Adv (n:Nat) (p:Prop) (q:outParam Prop):Prop where h:q→p
theorem go(n:Nat){p q:Prop}[h:Adv n p q](k:q):p:=h.h k
@[reducible] def dsto (l:List Oper) (j:Nat):Option Nat:=match nth l j with
 | some o=>o.dst
 | none=>none
theorem Ft{l:List Oper}{j e:Nat}(h:Som (dsto l j) e):(l.toArray[j]?).bind (·.dst)=some e:=by
 have h:=h.h
 unfold dsto at h
 rw [Zsg]at h
 simp only [List.getElem?_toArray]
 cases hb:l[j]? with
 | none=>rw [hb]at h;cases h
 | some o=>rw [hb]at h;exact h
section
variable {n:Nat} {q r s:Prop} {c x y:Code} {id:Nat} {l:List Oper} {ops:Array Oper} {rest:List Oper} {d j t:Nat} {op:Go.Op} {ty:TypeId} {pos:String} {af:Array Edge} {v:Value} {e:Exit} {b:Bool}
instance {p:Prop} : Adv 0 p p:=⟨fun k=>k⟩
instance [h:Adv n (E P N sc x (Exit.then (y.wp P Q) Q) env H) q]:Adv (n+1) (E P N sc (.seq x y) Q env H) q:=⟨fun k=>e_seq (h.h k)⟩
instance [h:Adv n (L P N sc l.toArray l Q env H) q]:Adv (n+1) (E P N sc (.region id l.toArray false) Q env H) q:=⟨fun k=>e_reg (h.h k)⟩
instance [h:Adv n (X N sc .normal Q env H) q]:Adv (n+1) (E P N sc .skip Q env H) q:=⟨fun k=>e_skip (h.h k)⟩
instance [h:Adv n (E P N sc c (Exit.inBlock id Q) env H) q]:Adv (n+1) (E P N sc (.block id c) Q env H) q:=⟨fun k=>Yhu (h.h k)⟩
instance [h:Adv n (X N sc (.exit id) Q env H) q]:Adv (n+1) (E P N sc (.exit id) Q env H) q:=⟨fun k=>e_exit (h.h k)⟩
instance [h:Adv n (X N sc .ret Q env H) q]:Adv (n+1) (E P N sc .ret Q env H) q:=⟨fun k=>e_ret (h.h k)⟩
instance {o:Operand} [h1:Som (ev2 env o) (.bool true)] [h:Adv n (E P N sc x Q env H) q]:Adv (n+1) (E P N sc (.cond o x y) Q env H) q:=⟨fun k=>Yhs h1.e (h.h k)⟩
instance {o:Operand} [h1:Som (ev2 env o) (.bool false)] [h:Adv n (E P N sc y Q env H) q]:Adv (n+1) (E P N sc (.cond o x y) Q env H) q:=⟨fun k=>Yht h1.e (h.h k)⟩
instance [h:Adv n (E P N sc y Q env H) q]:Adv (n+1) (X N sc .normal (Exit.then (y.wp P Q) Q) env H) q:=⟨fun k=>x_then (h.h k)⟩
instance {K:Act→World→Prop} [h:Adv n (X N sc .ret Q env H) q]:Adv (n+1) (X N sc .ret (Exit.then K Q) env H) q:=⟨fun k=>x_ret (h.h k)⟩
instance {K:Act→World→Prop} [h:Adv n (X N sc (.exit id) Q env H) q]:Adv (n+1) (X N sc (.exit id) (Exit.then K Q) env H) q:=⟨fun k=>x_exit (h.h k)⟩
instance [h:Adv n (X N sc .normal Q env H) q]:Adv (n+1) (X N sc .normal (Exit.inBlock id Q) env H) q:=⟨fun k=>x_bn (h.h k)⟩
instance [h:Adv n (X N sc .ret Q env H) q]:Adv (n+1) (X N sc .ret (Exit.inBlock id Q) env H) q:=⟨fun k=>x_br (h.h k)⟩
instance [h:Adv n (X N sc .normal Q env H) q]:Adv (n+1) (X N sc (.exit id) (Exit.inBlock id Q) env H) q:=⟨fun k=>x_be (h.h k)⟩
instance (priority:=low) {id':Nat} [hn:TB (neb id' id)] [h:Adv n (X N sc (.exit id') Q env H) q]:Adv (n+1) (X N sc (.exit id') (Exit.inBlock id Q) env H) q:=⟨fun k=>x_bo (Au hn.h) (h.h k)⟩
instance [h:Adv n (X N sc .normal Q env H) q]:Adv (n+1) (L P N sc ops [] Q env H) q:=⟨fun k=>l_nil (h.h k)⟩
instance [h1:DI P N sc op env H v s] [h2:TB (ltb d N)] [h:Adv n (L P N sc ops rest Q ((d,v) :: env) H) q] [h3:AndO s q r]:Adv (n+1) (L P N sc ops (⟨some d,op,ty,pos,af,none⟩ :: rest) Q env H) r:=
 ⟨fun k=>dt (h1.h (h3.h k).1) (h.h (h3.h k).2) (Og h2.h)⟩
instance [hj:Som (dsto l j) t] [hg:Som (lk2 env t) (.bool b)] [h4:TB (ltb t N)] [h1:DI P N sc op env H v s] [h2:TB (ltb d N)] [h:Adv n (L P N sc l.toArray rest Q ((d,v) :: env) H) q] [h3:AndO s q r]:Adv (n+1) (L P N sc l.toArray (⟨some d,op,ty,pos,af,some (j,b)⟩ :: rest) Q env H) r:=
 ⟨fun k=>Ej (h1.h (h3.h k).1) (Ft hj) hg.l (h.h (h3.h k).2) (Og h4.h) (Og h2.h)⟩
instance [hj:Som (dsto l j) t] [hg:Som (lk2 env t) (.bool false)] [h4:TB (ltb t N)] [h2:TB (ltb d N)] [h:Adv n (L P N sc l.toArray rest Q ((d,undef) :: env) H) q]:Adv (n+1) (L P N sc l.toArray (⟨some d,op,ty,pos,af,some (j,true)⟩ :: rest) Q env H) q:=
 ⟨fun k=>gsk (Ft hj) hg.l rfl (Og h4.h) (Og h2.h) (h.h k)⟩
instance [hj:Som (dsto l j) t] [hg:Som (lk2 env t) (.bool true)] [h4:TB (ltb t N)] [h2:TB (ltb d N)] [h:Adv n (L P N sc l.toArray rest Q ((d,undef) :: env) H) q]:Adv (n+1) (L P N sc l.toArray (⟨some d,op,ty,pos,af,some (j,false)⟩ :: rest) Q env H) q:=
 ⟨fun k=>gsk (Ft hj) hg.l rfl (Og h4.h) (Og h2.h) (h.h k)⟩
instance [hj:Som (dsto l j) t] [hg:Som (lk2 env t) undef] [h2:TB (ltb d N)] [h:Adv n (L P N sc l.toArray rest Q ((d,undef) :: env) H) q]:Adv (n+1) (L P N sc l.toArray (⟨some d,op,ty,pos,af,some (j,b)⟩ :: rest) Q env H) q:=
 ⟨fun k=>gsku (Ft hj) hg.l (Og h2.h) (h.h k)⟩
end
end Go.Sky
namespace Go.Sky
variable {P:Program} {N:Nat} {sc:Nat→Prop} {env env':Qw} {H H':Hp} {Q Q':Exit→Act→World→Prop} {M:Nat→Prop}
class Hw (w0:World) (sc:Nat→Prop):Prop where h:∀b,w0.heap.size≤b→sc b
class EvI (env:Qw) (xs:List Operand) (vs:outParam (List Value)):Prop where h:EvL env xs vs
instance:EvI env [] []:=⟨trivial⟩
instance {x:Operand} {r:List Operand} {v:Value} {vs:List Value} [h:Som (ev2 env x) v] [h2:EvI env r vs]:EvI env (x :: r) (v :: vs):=⟨⟨h.e,h2.h⟩⟩
class CalF (P:Program) (f:FuncId):Prop where h:∀args w,(callFunc f args).run P w= .ok (.enter f args) w
class AddI (n:Nat) (l:List Pc) (H:Hp) (H':outParam Hp):Prop where h:adds n l H=H'
instance {n:Nat} : AddI n [] H H:=⟨rfl⟩
instance {n:Nat} {p:Pc} {r:List Pc} [h:AddI (n+1) r H H']:AddI n (p :: r) H ((n,p) :: H'):=⟨by rw [←h.h]⟩
class PreL (P:Program) (H:Hp) (al:Bool) (ids:List Nat) (pre:outParam (List Pc)):Prop where h:PreOk H al pre
class RoI (p:Pc):Prop where h:p.own=false
instance {α:Type} {k:Nat} {enc:α→Value} {v:Value} {xs:List α} : RoI (Yh k enc v xs):=⟨rfl⟩
instance {β:Type} {k:Nat} {enc:β→Value} {q:β→Pc} {v:Value} {zs:List β} : RoI (Pz k enc q v zs):=⟨rfl⟩
instance {b:Nat} {t:TypeId} {cs:Array Value} : RoI (Hg b t cs):=⟨rfl⟩
class LnI (P:Program) (al:Bool) (i:Nat) (p:Pc) (q:outParam Pc):Prop where
 h:i≠0→∀{H r},lk H i=some p→PreOk H al r→PreOk H al (q :: r)
theorem Zrd{i:Nat}(h:i≠0):Nat.beq i 0=false:=by
 cases hb:Nat.beq i 0 with
 | true=>exact absurd (Nat.eq_of_beq_eq_true hb) h
 | false=>rfl
instance {al:Bool} {i:Nat} {p:Pc} [h:RoI p]:LnI P al i p p:=⟨fun h0 _ _ hi hr=>Yd i hi (Zrd h0) h.h hr⟩
instance {α:Type} {i k:Nat} {e:TypeId} {enc:α→Value} {v:Value} {xs:List α} [h:EncT P e k enc]:LnI P false i (Oa k e enc v xs) (Yh k enc v xs):=⟨fun h0 _ _ hi hr=>Ya5 i hi (Zrd h0) h.h hr⟩
instance {i b:Nat} {t:TypeId} {cs:Array Value} : LnI P false i (box b t cs) (Hg b t cs):=⟨fun h0 _ _ hi hr=>Zfe i hi (Zrd h0) hr⟩
instance {al:Bool} : PreL P H al [] []:=⟨trivial⟩
instance {al:Bool} {i:Nat} {ids:List Nat} {p q:Pc} {r:List Pc} [h:Som (lk2 H i) p] [h0:TB (neb i 0)] [h1:LnI P al i p q] [h2:PreL P H al ids r]:PreL P H al (i :: ids) (q :: r):=⟨h1.h (Au h0.h) h.l h2.h⟩
theorem T.conv{o:Oper}{G:Type}{φ:G→Prop}{e1:G→Qw}{H1 H2:G→Hp}(h:T P N sc M o env H φ e1 H1)(he:∀g,H1 g=H2 g):T P N sc M o env H φ e1 H2:=by
 rw [show H2=H1 from(funext he).symm];exact h
section
variable {f:FuncId} {xs:List Operand} {ats:Array TypeId} {d:Nat} {vs fs us:List Value} {pre:List Pc} {al:Bool} {G:Type} {φ:G→Prop} {Ye:G→Value} {its:G→List Pc} {w0:World} {M0:Nat→Prop} {ty:TypeId} {pos:String} {af:Array Edge} {g:Option (Nat×Bool)}
theorem Zg(n:Nat)(ids:List Nat)(hc:Cal P f vs.toArray pre al φ Ye its){G':G→Hp}[hx:EvI env xs vs][hf:CalF P f][hp:PreL P H al ids pre][h0:Som (lk2 H 0) (Xm w0 M0)][hN:TB (ltb d N)][hw:Hw w0 sc][ha:∀g,AddI n (its g) H (G' g)] :
  T P N sc M ⟨some d,.call { callee:= .value (.func f),args:=xs.toArray,argTypes:=ats },ty,pos,af,g⟩ env H φ (fun g=>(d,Ye g) :: env) G':=
 (Ov (n:=n) hc rfl rfl (Og hN.h) hx.h hf.h hp.h h0.l hw.h).conv fun g=>(ha g).h
class On1 (P:Program) (N:Nat) (sc:Nat→Prop) (env:Qw) (H:Hp) (v:Value):Prop where h:One N sc env H v
instance {k:IntKind} {n:Int} : On1 P N sc env H (.int k n):=⟨Yo rfl⟩
instance {b:Bool} : On1 P N sc env H (.bool b):=⟨Yo rfl⟩
instance {s:ByteArray} : On1 P N sc env H (.string s):=⟨Yo rfl⟩
instance {a:Option Addr} : On1 P N sc env H (.pointer a):=⟨Yo rfl⟩
instance {a:Option Addr} {m n:Nat} : On1 P N sc env H (.slice a m n):=⟨Yo rfl⟩
instance (priority:=low) {α:Type} {i k:Nat} {v:Value} {enc:α→Value} {ys:List α} [h:RdI P H v i k enc ys]:On1 P N sc env H v:=⟨by obtain⟨p,h1,h2⟩:=h.h;exact Pl h1 h2⟩
class OnL (P:Program) (N:Nat) (sc:Nat→Prop) (env:Qw) (H:Hp) (l:List Value):Prop where h:∀u∈l,One N sc env H u
instance:OnL P N sc env H []:=⟨fun _ h=>nomatch h⟩
instance {v:Value} {l:List Value} [h:On1 P N sc env H v] [h2:OnL P N sc env H l]:OnL P N sc env H (v :: l):=⟨fun u hu=>by
 cases hu with
 | head=>exact h.h
 | tail _ hu=>exact h2.h u hu⟩
class CeI (P:Program) (N:Nat) (sc:Nat→Prop) (env:Qw) (H:Hp) (v:Value) (l:outParam (List Value)):Prop where
 h:∀a w,Sat N sc env H a w→v.cells=l.toArray
 o:∀u∈l,One N sc env H u
instance {l:List Value} [h:OnL P N sc env H l]:CeI P N sc env H (.agg l.toArray) l:=⟨fun _ _ _=>rfl,h.h⟩
instance (priority:=low) {v:Value} [h:On1 P N sc env H v]:CeI P N sc env H v [v]:=⟨fun a w hs=>Zu (h.h a w hs),fun u hu=>by rw [List.mem_singleton.1 hu];exact h.h⟩
class ClI (v:Value) (l:outParam (List Value)):Prop where h:v.cells=l.toArray
instance {l:List Value} : ClI (.agg l.toArray) l:=⟨rfl⟩
instance {k:IntKind} {n:Int} : ClI (.int k n) [.int k n]:=⟨rfl⟩
instance {b:Bool} : ClI (.bool b) [.bool b]:=⟨rfl⟩
instance {s:ByteArray} : ClI (.string s) [.string s]:=⟨rfl⟩
instance {a:Option Addr} : ClI (.pointer a) [.pointer a]:=⟨rfl⟩
instance {a:Option Addr} {m n:Nat} : ClI (.slice a m n) [.slice a m n]:=⟨rfl⟩
class Zer (P:Program) (t:TypeId) (z:outParam Value):Prop where h:∀w,(zeroValue t).run P w= .ok z w
variable {t tb:TypeId} {l l':List Value} {v z:Value} {x y:Operand} {i j k b:Nat}
theorem Zz(n:Nat)[hz:Zer P t z][hc:ClI z l][h0:Som (lk2 H 0) (Xm w0 M0)][hN:TB (ltb d N)][hw:Hw w0 sc] :
  T P N sc M ⟨some d,.alloc t,ty,pos,af,g⟩ env H (G:=Nat) (fun _=>True) (fun b=>(d,.pointer (some ⟨b,0,none⟩)) :: env) (fun b=>(n,box b t l.toArray) :: H):=Zgn rfl rfl (Og hN.h) hz.h hc.h h0.l hw.h
theorem Yj(n:Nat)[hx:Som (ev2 env x) v][hc:ClI v l][h0:Som (lk2 H 0) (Xm w0 M0)][hN:TB (ltb d N)][hw:Hw w0 sc] :
  T P N sc M ⟨some d,.box t x,ty,pos,af,g⟩ env H (G:=Nat) (fun _=>True) (fun b=>(d,.pointer (some ⟨b,0,none⟩)) :: env) (fun b=>(n,box b t l.toArray) :: H):=t_box rfl rfl (Og hN.h) hx.e hc.h h0.l hw.h
@[reducible] def lay2 {α:Type} : List α→Nat→List α→List α
 | [],_,_=>[]
 | c :: r,j,vs=>match j with
  | j+1=>c :: lay2 r j vs
  | 0=>match vs with
   | []=>c :: r
   | v :: vs=>v :: lay2 r 0 vs
theorem Zmy{α:Type} : ∀(l:List α) (j:Nat) (vs:List α),j+vs.length≤l.length→lay2 l j vs=l.take j ++ vs ++ l.drop (j+vs.length)
 | [],j,vs,h=>by
  have h1:vs=[]:=List.eq_nil_of_length_eq_zero (by simp only [List.length_nil]at h;omega)
  subst h1;simp [lay2]
 | c :: r,j+1,vs,h=>by
  rw [show j+1+vs.length=(j+vs.length)+1 by omega]
  simp only [lay2,List.take_succ_cons,List.drop_succ_cons,List.cons_append]
  rw [Zmy r j vs (by simp at h;omega)]
 | c :: r,0,[],h=>by simp [lay2]
 | c :: r,0,v :: vs,h=>by
  have h2:0+vs.length≤r.length:=by simp only [List.length_cons]at h;omega
  have:=Zmy r 0 vs h2
  simp only [lay2,this,Nat.zero_add,List.take_zero,List.nil_append,List.length_cons,List.drop_succ_cons,List.cons_append]
theorem Zzh [hx:Som (ev2 env x) (.pointer (some ⟨b,j,none⟩))] [hy:Som (ev2 env y) v] [hB:BxI H b i tb l] [hi:TB (neb i 0)] [hv:CeI P N sc env H v vs] [hk:Siz P t k] [hl:TB (lenq vs k)] [hf:TB (fits l j vs)] [hr:LEv (lay2 l j vs) l']
  [h0:Som (lk2 H 0) (Xm w0 M0)] [hw:Hw w0 sc] (hM:M b):T P N sc M ⟨none,.store t x y,ty,pos,af,g⟩ env H (G:=Unit) (fun _=>True) (fun _=>env) (fun _=>(i,box b tb l'.toArray) :: H):=fun a w hs=>by
 have hle:=Zvm hf.h
 refine Zhl rfl rfl hx.e hy.e hB.h (Au hi.h) (hv.h a w hs) hk.h (Zec hl.h) (by simpa using hle) hv.o ?_ h0.l hw.h hM a w hs
 unfold Hu
 rw [←hr.h,Zmy l j vs hle]
variable {ops:Array Oper} {rest:List Oper} {op:Go.Op} {genv:G→Qw} {gH:G→Hp} {dd:Option Tmp}
theorem Yk(ht:T P N sc (fun _=>True) ⟨dd,op,ty,pos,af,none⟩ env H φ genv gH)(h:∀g,φ g→L P N sc ops rest Q (genv g) (gH g)):L P N sc ops (⟨dd,op,ty,pos,af,none⟩ :: rest) Q env H:=tt ht h
theorem gt' {ll:List Oper} {e:Nat} {bb:Bool} (ht:T P N sc (fun _=>True) ⟨dd,op,ty,pos,af,some (j,bb)⟩ env H φ genv gH) [hj:Som (dsto ll j) e] [he:Som (lk2 env e) (.bool bb)] [hN:TB (ltb e N)]
  (h:∀g,φ g→L P N sc ll.toArray rest Q (genv g) (gH g)):L P N sc ll.toArray (⟨dd,op,ty,pos,af,some (j,bb)⟩ :: rest) Q env H:=gtt ht rfl (Ft hj) he.l (Og hN.h) h
instance {n:Nat} {q:Prop} [hx:Som (ev2 env x) (.pointer (some ⟨b,j,none⟩))] [hy:Som (ev2 env y) v] [hB:BxI H b i tb l] [hi:TB (neb i 0)] [hv:CeI P N sc env H v vs] [hk:Siz P t k] [hl:TB (lenq vs k)] [hf:TB (fits l j vs)] [hr:LEv (lay2 l j vs) l']
  [h0:Som (lk2 H 0) (Xm w0 M0)] [hw:Hw w0 sc] [h:Adv n (L P N sc ops rest Q env ((i,box b tb l'.toArray) :: H)) q]:Adv (n+1) (L P N sc ops (⟨none,.store t x y,ty,pos,af,none⟩ :: rest) Q env H) q:=
 ⟨fun q=>Yk (Zzh trivial) fun _ _=>h.h q⟩
end
end Go.Sky
namespace Go.Sky
variable {P:Program} {N:Nat} {sc:Nat→Prop} {env env':Qw} {H H' H0:Hp} {Q Q':Exit→Act→World→Prop} {M:Nat→Prop}
@[reducible] def drp2:Nat→Hp→Hp
 | _,[]=>[]
 | k,(i,p) :: r=>match Nat.beq i k with
  | true=>drp2 k r
  | false=>(i,p) :: drp2 k r
theorem Zvw:∀(k:Nat) (H:Hp),drp2 k H=drp k H
 | _,[]=>rfl
 | k,(i,p) :: r=>by unfold drp2 drp;cases Nat.beq i k<;>simp [Zvw k r]
@[reducible] def anyb:List Nat→Nat→Bool
 | [],_=>false
 | k :: r,i=>match Nat.beq i k with
  | true=>true
  | false=>anyb r i
theorem Zn2:∀(ks:List Nat) (i:Nat),anyb ks i=ks.any (Nat.beq i)
 | [],_=>rfl
 | k :: r,i=>by unfold anyb;rw [List.any_cons,←Zn2 r i];cases Nat.beq i k<;>rfl
@[reducible] def rst2 (ks:List Nat):Hp→Hp
 | []=>[]
 | (i,p) :: r=>match anyb ks i with
  | true=>(i,p) :: rst2 ks r
  | false=>rst2 ks r
theorem Zuk(ks:List Nat):∀H:Hp,rst2 ks H=rst ks H
 | []=>rfl
 | (i,p) :: r=>by unfold rst2 rst;rw [←Zn2];cases anyb ks i<;>simp [Zuk ks r]
class AgI (H0 H:Hp) (ks:List Nat):Prop where h:Agr H0 H ks
instance:AgI H0 H []:=⟨trivial⟩
instance {k:Nat} {ks:List Nat} {p:Pc} [h1:Som (lk2 H k) p] [h2:Som (lk2 H0 k) p] [h:AgI H0 H ks]:AgI H0 H (k :: ks):=⟨⟨h1.l.trans h2.l.symm,h.h⟩⟩
class StI (P:Program) (N:Nat) (sc:Nat→Prop) (M:Nat→Prop) (op:Go.Op) (env:Qw) (H:Hp) (v:outParam Value) (s:outParam Prop):Prop where
 h:s→∀{d:Option Tmp} {ty:TypeId} {pos:String} {af:Array Edge} {g:Option (Nat×Bool)},Stb P N sc M ⟨d,op,ty,pos,af,g⟩ env H v
section
variable {op:Go.Op} {v:Value} {s:Prop} {k b:Nat} {t:TypeId} {l:List Value} {ks:List Nat}
instance [h:DI P N sc op env H v s]:StI P N sc (fun _=>False) op env H v s:=⟨fun hs=>Qy (h.h hs)⟩
instance [hb:BxI H b k t l] [h:DI P N sc op env (drp2 k H) v s]:StI P N sc (fun x=>x=b) op env H v s:=⟨fun hs=>st1 k hb.h (by rw [←Zvw];exact h.h hs)⟩
instance [ha:AgI H0 H ks] [h:DI P N sc op env (rst2 ks H) v s]:StI P N sc (Off H0 ks) op env H v s:=⟨fun hs=>stf (by rw [←Zuk];exact h.h hs) ha.h⟩
end
class MI (M:Nat→Prop) (b:Nat):Prop where h:M b
class MS (N:Nat) (sc:Nat→Prop) (M:Nat→Prop) (env:Qw) (H:Hp) (b:Nat):Prop where h:∀a w,Sat N sc env H a w→M b
instance {b:Nat} : MS N sc (fun _=>True) env H b:=⟨fun _ _ _=>trivial⟩
instance {b:Nat} : MS N sc (fun x=>x=b) env H b:=⟨fun _ _ _=>rfl⟩
instance {b:Nat} [h:MI M b]:MS N sc M env H b:=⟨fun _ _ _=>h.h⟩
@[reducible] def nin (ks:List Nat) (i:Nat):Bool:=match anyb ks i with
 | true=>false
 | false=>true
instance (priority:=low) {b i:Nat} {t:TypeId} {l:List Value} {ks:List Nat} [hb:BxI H b i t l] [hn:TB (nin ks i)] [ha:AgI H0 H ks]:MS N sc (Off H0 ks) env H b:=⟨fun a w hs=>fun k hk p hp hf=>by
 rw [←ha.h.mem k hk]at hp
 have hne:i≠k:=fun e=>by
  subst e
  have h1:=hn.h
  unfold nin at h1
  rw [Zn2]at h1
  cases h2:ks.any (Nat.beq i)with
  | true=>rw [h2]at h1;cases h1
  | false=>
   have:=List.any_eq_false.1 h2 i hk
   simp at this
 exact hs.sep i k _ p hne hb.h hp rfl b rfl hf⟩
section
variable {d i j k b e n:Nat} {vs ws l l':List Value} {w0:World} {M0:Nat→Prop} {ty t tb:TypeId} {pos:String} {af:Array Edge} {g:Option (Nat×Bool)} {x y:Operand} {v z:Value} {bb:Bool}
variable {ll:List Oper} {F:Qw→Hp→Prop} {rest:List (Nat×Nat)} {op:Go.Op} {G:Type} {φ:G→Prop} {genv:G→Qw} {gH:G→Hp} {dd:Option Tmp} {q r s:Prop}
theorem t_stm [hx:Som (ev2 env x) (.pointer (some ⟨b,j,none⟩))] [hy:Som (ev2 env y) v] [hB:BxI H b i tb l] [hi:TB (neb i 0)] [hv:CeI P N sc env H v vs] [hk:Siz P t k] [hl:TB (lenq vs k)] [hf:TB (fits l j vs)] [hr:LEv (lay2 l j vs) l']
  [h0:Som (lk2 H 0) (Xm w0 M0)] [hw:Hw w0 sc] [hM:MS N sc M env H b]:T P N sc M ⟨none,.store t x y,ty,pos,af,g⟩ env H (G:=Unit) (fun _=>True) (fun _=>env) (fun _=>(i,box b tb l'.toArray) :: H):=fun a w hs=>Zzh (hM.h a w hs) a w hs
theorem Qr(n:Nat){ks:List Nat}[hz:Zer P t z][hc:ClI z l][h0:Som (lk2 H 0) (Xm w0 M0)][hN:TB (ltb d N)][hw:Hw w0 sc][ha:AgI H0 H ks] :
  T P N sc (Off H0 ks) ⟨some d,.alloc t,ty,pos,af,g⟩ env H (G:=Nat) (fun b=>MI (Off H0 ks) b) (fun b=>(d,.pointer (some ⟨b,0,none⟩)) :: env) (fun b=>(n,box b t l.toArray) :: H):=fun a w hs K Q hK=>
 Zzj (i:=n) rfl rfl (Og hN.h) hz.h hc.h h0.l hw.h ha.h a w hs K Q fun g a' w' hg=>hK g a' w' ⟨hg⟩
theorem Yz(ht:T P N sc M ⟨dd,op,ty,pos,af,none⟩ env H φ genv gH)[ho:Som (nth ll i) ⟨dd,op,ty,pos,af,none⟩](h:∀g,φ g→LD P N sc M ll.toArray F rest (genv g) (gH g)):LD P N sc M ll.toArray F ((i,1) :: rest) env H:=Ev ho.n ht h
theorem r3x(ht:T P N sc (fun _=>True) ⟨dd,op,ty,pos,af,none⟩ env H φ genv gH)[ho:Som (nth ll i) ⟨dd,op,ty,pos,af,none⟩](h:∀g,φ g→LD P N sc M ll.toArray F rest (genv g) (gH g)):LD P N sc M ll.toArray F ((i,3) :: rest) env H:=r3' ho.n ht h
theorem Ol{ts:List Nat}{listed:Array Bool}(ht:T P N sc M ⟨dd,op,ty,pos,af,none⟩ env H φ genv gH)[ho:Som (nth ll i) ⟨dd,op,ty,pos,af,none⟩](h:∀g,φ g→A P N sc M ll.toArray ts Q n (listed.setIfInBounds i true) (genv g) (gH g)):Zn5 P N sc M ll.toArray ts Q n listed env H i:=Cw ho.n ht h
instance [ho:Som (nth ll i) ⟨some d,op,ty,pos,af,none⟩] [h1:StI P N sc M op env H v s] [h2:TB (ltb d N)] [h:Adv n (LD P N sc M ll.toArray F rest ((d,v) :: env) H) q] [h3:AndO s q r]:Adv (n+1) (LD P N sc M ll.toArray F ((i,0) :: rest) env H) r:=
 ⟨fun k=>Qc ho.n rfl (h1.h (h3.h k).1) (h.h (h3.h k).2) rfl (Og h2.h)⟩
instance [ho:Som (nth ll i) ⟨some d,op,ty,pos,af,some (j,bb)⟩] [hj:Som (dsto ll j) e] [he:Som (lk2 env e) (.bool bb)] [hN:TB (ltb e N)] [h1:StI P N sc M op env H v s] [h2:TB (ltb d N)] [h:Adv n (LD P N sc M ll.toArray F rest ((d,v) :: env) H) q] [h3:AndO s q r]:Adv (n+1) (LD P N sc M ll.toArray F ((i,0) :: rest) env H) r:=
 ⟨fun k=>r0g (h1.h (h3.h k).1) ho.n rfl (Ft hj) he.l rfl (h.h (h3.h k).2) (Og hN.h) (Og h2.h)⟩
instance [ho:Som (nth ll i) ⟨some d,op,ty,pos,af,some (j,true)⟩] [hj:Som (dsto ll j) e] [he:Som (lk2 env e) (.bool false)] [hN:TB (ltb e N)] [h2:TB (ltb d N)] [h:Adv n (LD P N sc M ll.toArray F rest ((d,undef) :: env) H) q]:Adv (n+1) (LD P N sc M ll.toArray F ((i,2) :: rest) env H) q:=
 ⟨fun k=>r2 ho.n rfl (Ft hj) he.l rfl (Og hN.h) rfl (Og h2.h) (h.h k)⟩
instance [ho:Som (nth ll i) ⟨some d,op,ty,pos,af,some (j,false)⟩] [hj:Som (dsto ll j) e] [he:Som (lk2 env e) (.bool true)] [hN:TB (ltb e N)] [h2:TB (ltb d N)] [h:Adv n (LD P N sc M ll.toArray F rest ((d,undef) :: env) H) q]:Adv (n+1) (LD P N sc M ll.toArray F ((i,2) :: rest) env H) q:=
 ⟨fun k=>r2 ho.n rfl (Ft hj) he.l rfl (Og hN.h) rfl (Og h2.h) (h.h k)⟩
instance [ho:Som (nth ll i) ⟨none,.store t x y,ty,pos,af,none⟩] [hx:Som (ev2 env x) (.pointer (some ⟨b,j,none⟩))] [hy:Som (ev2 env y) v] [hB:BxI H b k tb l] [hi:TB (neb k 0)] [hv:CeI P N sc env H v vs] [hk:Siz P t e] [hl:TB (lenq vs e)] [hf:TB (fits l j vs)] [hr:LEv (lay2 l j vs) l']
  [h0:Som (lk2 H 0) (Xm w0 M0)] [hw:Hw w0 sc] [h:Adv n (LD P N sc M ll.toArray F rest env ((k,box b tb l'.toArray) :: H)) q]:Adv (n+1) (LD P N sc M ll.toArray F ((i,3) :: rest) env H) q:=
 ⟨fun q=>r3' ho.n (Zzh trivial) fun _ _=>h.h q⟩
instance [ho:Som (nth ll i) ⟨none,.store t x y,ty,pos,af,none⟩] [hx:Som (ev2 env x) (.pointer (some ⟨b,j,none⟩))] [hy:Som (ev2 env y) v] [hB:BxI H b k tb l] [hi:TB (neb k 0)] [hM:MS N sc M env H b] [hv:CeI P N sc env H v vs] [hk:Siz P t e] [hl:TB (lenq vs e)] [hf:TB (fits l j vs)] [hr:LEv (lay2 l j vs) l']
  [h0:Som (lk2 H 0) (Xm w0 M0)] [hw:Hw w0 sc] [h:Adv n (LD P N sc M ll.toArray F rest env ((k,box b tb l'.toArray) :: H)) q]:Adv (n+1) (LD P N sc M ll.toArray F ((i,1) :: rest) env H) q:=
 ⟨fun q=>Ev ho.n t_stm fun _ _=>h.h q⟩
instance [ho:Som (nth ll i) ⟨some d,op,ty,pos,af,none⟩] [h1:DI P N sc op env H v s] [h2:TB (ltb d N)] [h:Adv n (LD P N sc M ll.toArray F rest ((d,v) :: env) H) q] [h3:AndO s q r]:Adv (n+1) (LD P N sc M ll.toArray F ((i,1) :: rest) env H) r:=
 ⟨fun k=>Ev ho.n (Zcc (h1.h (h3.h k).1) rfl (Og h2.h)) fun _ _=>h.h (h3.h k).2⟩
instance [ho:Som (nth ll i) ⟨some d,op,ty,pos,af,none⟩] [h1:DI P N sc op env H v s] [h2:TB (ltb d N)] [h:Adv n (LD P N sc M ll.toArray F rest ((d,v) :: env) H) q] [h3:AndO s q r]:Adv (n+1) (LD P N sc M ll.toArray F ((i,3) :: rest) env H) r:=
 ⟨fun k=>r3' ho.n (Zcc (h1.h (h3.h k).1) rfl (Og h2.h)) fun _ _=>h.h (h3.h k).2⟩
instance [h:Adv n (F env H) q] {ops:Array Oper} : Adv (n+1) (LD P N sc M ops F [] env H) q:=⟨fun k=>r_fin (h.h k)⟩
theorem Qe {id:Nat} {l:List Oper} (M:Nat→Prop) (plan:List (Nat×Nat)) (h:LD P N sc M l.toArray (X N sc .normal Q) plan env H) (hm:P.follows .mixedOrders=true:=by kernel_rfl)
  (hp:(Region.noSelect l.toArray && Nat.beq plan.length l.length && Fh l.toArray (Zas plan) plan (Array.replicate l.length false) && (Region.ready .any l.toArray (Dw plan (Array.replicate l.length false))).isEmpty)=true:=by kernel_rfl) :
  E P N sc (.region id l.toArray true) Q env H:=e_dreg M plan hm hp h
end
end Go.Sky
namespace Go.Sky
open Go.RowKit (Below)
variable {P:Program} {N:Nat} {sc:Nat→Prop} {env env':Qw} {H H':Hp} {Q Q':Exit→Act→World→Prop} {M:Nat→Prop}
class EnI (vs:List Value) (env:outParam Qw):Prop where h:Pa 0 vs=env
class PnI (vs:List Pc) (H:outParam Hp):Prop where h:Xu 1 vs=H
section
variable {a b c d e f g i j:Value} {p q r s t u v w x y:Pc}
instance:EnI [] []:=⟨rfl⟩
instance:EnI [a] [(0,a)]:=⟨rfl⟩
instance:EnI [a,b] [(0,a),(1,b)]:=⟨rfl⟩
instance:EnI [a,b,c] [(0,a),(1,b),(2,c)]:=⟨rfl⟩
instance:EnI [a,b,c,d] [(0,a),(1,b),(2,c),(3,d)]:=⟨rfl⟩
instance:EnI [a,b,c,d,e] [(0,a),(1,b),(2,c),(3,d),(4,e)]:=⟨rfl⟩
instance:EnI [a,b,c,d,e,f] [(0,a),(1,b),(2,c),(3,d),(4,e),(5,f)]:=⟨rfl⟩
instance:EnI [a,b,c,d,e,f,g] [(0,a),(1,b),(2,c),(3,d),(4,e),(5,f),(6,g)]:=⟨rfl⟩
instance:PnI [] []:=⟨rfl⟩
instance:PnI [p] [(1,p)]:=⟨rfl⟩
instance:PnI [p,q] [(1,p),(2,q)]:=⟨rfl⟩
instance:PnI [p,q,r] [(1,p),(2,q),(3,r)]:=⟨rfl⟩
instance:PnI [p,q,r,s] [(1,p),(2,q),(3,r),(4,s)]:=⟨rfl⟩
instance:PnI [p,q,r,s,t] [(1,p),(2,q),(3,r),(4,s),(5,t)]:=⟨rfl⟩
instance:PnI [p,q,r,s,t,u] [(1,p),(2,q),(3,r),(4,s),(5,t),(6,u)]:=⟨rfl⟩
instance:PnI [p,q,r,s,t,u,v] [(1,p),(2,q),(3,r),(4,s),(5,t),(6,u),(7,v)]:=⟨rfl⟩
instance:PnI [p,q,r,s,t,u,v,w] [(1,p),(2,q),(3,r),(4,s),(5,t),(6,u),(7,v),(8,w)]:=⟨rfl⟩
instance:PnI [p,q,r,s,t,u,v,w,x] [(1,p),(2,q),(3,r),(4,s),(5,t),(6,u),(7,v),(8,w),(9,x)]:=⟨rfl⟩
instance:PnI [p,q,r,s,t,u,v,w,x,y] [(1,p),(2,q),(3,r),(4,s),(5,t),(6,u),(7,v),(8,w),(9,x),(10,y)]:=⟨rfl⟩
end
class RoL (l:List Pc):Prop where h:AllRo l
instance:RoL []:=⟨trivial⟩
instance {p:Pc} {r:List Pc} [h:RoI p] [h2:RoL r]:RoL (p :: r):=⟨⟨h.h,h2.h⟩⟩
theorem Zd {f:FuncId} {fn:Func} {c:Code} {vs:List Value} {pre:List Pc} {al:Bool} {G:Type} {φ:G→Prop} {Ye:G→Value} {its:G→List Pc} {N:Nat} (hf:P.funcs[f]? = some fn) (hN:fn.ntmps=N)
  [he:EnI vs env] [hp:PnI pre H] [hro:RoL pre] (h:∀w0 (sc:Nat→Prop),Hw w0 sc→(∀b,sc b→w0.heap.size≤b∨∃q∈pre,q.fp b)→E P N sc c (Zbg P fn w0 pre al φ Ye its) env ((0,Xm w0 (fun _=>False)) :: H))
  (hb:fn.body=some c:=by rfl) (hle:Nat.ble vs.length N=true:=by rfl):Cal P f vs.toArray pre al φ Ye its:=
 cal_in hf hb hN hle hro.h fun w0 sc hw hsc=>by rw [he.h,hp.h];exact h w0 sc ⟨hw⟩ hsc
class RvI (P:Program) (N:Nat) (sc:Nat→Prop) (env:Qw) (H:Hp) (r:ResultVar) (v:outParam Value):Prop where h:RV P N sc env H r v
instance {t:Nat} {v:Value} [h:Som (lk2 env t) v]:RvI P N sc env H (.tmp t) v:=⟨h.l⟩
instance {c b i k:Nat} {t tb:TypeId} {l:List Value} [h:Som (lk2 env c) (.pointer (some ⟨b,0,none⟩))] [h1:Agg P t true] [h2:BxI H b i tb l] [h3:Siz P t k] [h4:TB (lenq l k)]:RvI P N sc env H (.cell c t) (.agg l.toArray):=⟨Gf h.l h2.h h1.h h3.h (Zec h4.h)⟩
instance {c b i:Nat} {t tb:TypeId} {v:Value} [h:Som (lk2 env c) (.pointer (some ⟨b,0,none⟩))] [h1:Agg P t false] [h2:BxI H b i tb [v]]:RvI P N sc env H (.cell c t) v:=⟨Yam h.l h2.h h1.h⟩
section
variable {fn:Func} {pre:List Pc} {al:Bool} {G:Type} {φ:G→Prop} {Ye:G→Value} {its:G→List Pc} {w0:World} {r1 r2 r3:ResultVar} {v1 v2 v3:Value}
theorem Xn(hsc:∀b,sc b→w0.heap.size≤b∨∃q∈pre,q.fp b)(g:G)(hf:fn.results=#[r1])[h1:RvI P N sc env H r1 v1][h0:Som (lk2 H 0) (Xm w0 (fun _=>False))](hv:Ye g=v1)(hg:φ g)(hgive:Give H al (its g)) :
  X N sc .ret (Zbg P fn w0 pre al φ Ye its) env H:=Zn7 (.inl rfl) hsc g v1 (fun a w hs=>Zb6 hs hf h1.h) hv hg h0.l hgive
theorem Mi(hsc:∀b,sc b→w0.heap.size≤b∨∃q∈pre,q.fp b)(g:G)(hf:fn.results=#[r1,r2])[h1:RvI P N sc env H r1 v1][h2:RvI P N sc env H r2 v2][h0:Som (lk2 H 0) (Xm w0 (fun _=>False))](hv:Ye g= .tuple #[v1,v2])(hg:φ g)(hgive:Give H al (its g)) :
  X N sc .ret (Zbg P fn w0 pre al φ Ye its) env H:=Zn7 (.inl rfl) hsc g (.tuple #[v1,v2]) (fun a w hs=>Zxp hs hf h1.h h2.h) hv hg h0.l hgive
theorem xe3(hsc:∀b,sc b→w0.heap.size≤b∨∃q∈pre,q.fp b)(g:G)(hf:fn.results=#[r1,r2,r3])[h1:RvI P N sc env H r1 v1][h2:RvI P N sc env H r2 v2][h3:RvI P N sc env H r3 v3][h0:Som (lk2 H 0) (Xm w0 (fun _=>False))](hv:Ye g= .tuple #[v1,v2,v3])(hg:φ g)(hgive:Give H al (its g)) :
  X N sc .ret (Zbg P fn w0 pre al φ Ye its) env H:=Zn7 (.inl rfl) hsc g (.tuple #[v1,v2,v3]) (fun a w hs=>res3 hs hf h1.h h2.h h3.h) hv hg h0.l hgive
end
class EncE {α:Type} (k:Nat) (enc:α→Value):Prop where h:∃(P:Program) (t:TypeId),Enc P t k enc
theorem Ot{p p':Pc}{r:List Pc}(i:Nat)[hi:Som (lk2 H i) p'][h0:TB (neb i 0)][ho:RoI p'](h:Give H true r)(e:p'=p:=by rfl):Give H true (p :: r):=e▸Ip i hi.l (Zrd (Au h0.h)) ho.h h
section
variable {α:Type} {k i:Nat} {e:TypeId} {enc:α→Value} {v v':Value} {xs ys:List α} {al:Bool} {r:List Pc}
theorem gow(i:Nat)[hi:Som (lk2 H i) (Oa k e enc v xs)][h0:TB (neb i 0)][he:EncE k enc](h:Give H al r)(heq:xs=ys:=by rfl):Give H al (Yh k enc v ys :: r):=by
 obtain⟨_,_,h1⟩:=he.h
 exact Zyg i hi.l (Zrd (Au h0.h)) h1 heq h
end
section
variable {n:Nat} {x b:Bool} {d e j:Nat} {op:Go.Op} {ty:TypeId} {pos:String} {af:Array Edge} {rest:List Oper} {ops:Array Oper} {ll:List Oper}
theorem kf [h1:DI P N sc op env H (.bool x) True][h2:TB (ltb d N)](e:x=false)(h:L P N sc ops rest Q ((d,.bool false) :: env) H):L P N sc ops (⟨some d,op,ty,pos,af,none⟩ :: rest) Q env H:=dt (Zw (h1.h trivial) (congrArg _ e)) h (Og h2.h)
theorem kt [h1:DI P N sc op env H (.bool x) True][h2:TB (ltb d N)](e:x=true)(h:L P N sc ops rest Q ((d,.bool true) :: env) H):L P N sc ops (⟨some d,op,ty,pos,af,none⟩ :: rest) Q env H:=dt (Zw (h1.h trivial) (congrArg _ e)) h (Og h2.h)
theorem kfg [h1:DI P N sc op env H (.bool x) True][hj:Som (dsto ll j) e][hg:Som (lk2 env e) (.bool b)][h4:TB (ltb e N)][h2:TB (ltb d N)](e:x=false)(h:L P N sc ll.toArray rest Q ((d,.bool false) :: env) H):L P N sc ll.toArray (⟨some d,op,ty,pos,af,some (j,b)⟩ :: rest) Q env H:=Ej (Zw (h1.h trivial) (congrArg _ e)) (Ft hj) hg.l h (Og h4.h) (Og h2.h)
theorem ktg [h1:DI P N sc op env H (.bool x) True][hj:Som (dsto ll j) e][hg:Som (lk2 env e) (.bool b)][h4:TB (ltb e N)][h2:TB (ltb d N)](e:x=true)(h:L P N sc ll.toArray rest Q ((d,.bool true) :: env) H):L P N sc ll.toArray (⟨some d,op,ty,pos,af,some (j,b)⟩ :: rest) Q env H:=Ej (Zw (h1.h trivial) (congrArg _ e)) (Ft hj) hg.l h (Og h4.h) (Og h2.h)
end
section
variable {f:FuncId} {xs:List Operand} {ats:Array TypeId} {d i j e n:Nat} {vs:List Value} {pre:List Pc} {al b:Bool} {G:Type} {φ:G→Prop} {Ye:G→Value} {its:G→List Pc} {w0:World} {M0:Nat→Prop} {ty:TypeId} {pos:String} {af:Array Edge} {G':G→Hp} {ops:Array Oper} {rest ll:List Oper}
theorem cl (n:Nat) (ids:List Nat) (hc:Cal P f vs.toArray pre al φ Ye its) [hx:EvI env xs vs] [hf:CalF P f] [hp:PreL P H al ids pre] [h0:Som (lk2 H 0) (Xm w0 M0)] [hN:TB (ltb d N)] [hw:Hw w0 sc] [ha:∀g,AddI n (its g) H (G' g)]
  (h:∀g,φ g→L P N sc ops rest Q ((d,Ye g) :: env) (G' g)):L P N sc ops (⟨some d,.call { callee:= .value (.func f),args:=xs.toArray,argTypes:=ats },ty,pos,af,none⟩ :: rest) Q env H:=Yk (Zg n ids hc) h
theorem Gy (n:Nat) (ids:List Nat) (hc:Cal P f vs.toArray pre al φ Ye its) [hx:EvI env xs vs] [hf:CalF P f] [hp:PreL P H al ids pre] [h0:Som (lk2 H 0) (Xm w0 M0)] [hN:TB (ltb d N)] [hw:Hw w0 sc] [ha:∀g,AddI n (its g) H (G' g)] [hj:Som (dsto ll j) e] [he:Som (lk2 env e) (.bool b)] [hN2:TB (ltb e N)]
  (h:∀g,φ g→L P N sc ll.toArray rest Q ((d,Ye g) :: env) (G' g)):L P N sc ll.toArray (⟨some d,.call { callee:= .value (.func f),args:=xs.toArray,argTypes:=ats },ty,pos,af,some (j,b)⟩ :: rest) Q env H:=gt' (Zg n ids hc) h
end
class SeI (l:List Nat) (env:Qw) (cs:outParam Qw):Prop where h:Sub cs env
instance:SeI [] env []:=⟨trivial⟩
instance {t:Nat} {l:List Nat} {v:Value} {cs:Qw} [h:Som (lk2 env t) v] [h2:SeI l env cs]:SeI (t :: l) env ((t,v) :: cs):=⟨⟨h.l,h2.h⟩⟩
class SeH (l:List Nat) (H:Hp) (ch:outParam Hp):Prop where h:HSub ch H
instance:SeH [] H []:=⟨trivial⟩
instance {t:Nat} {l:List Nat} {v:Pc} {cs:Hp} [h:Som (lk2 H t) v] [h2:SeH l H cs]:SeH (t :: l) H ((t,v) :: cs):=⟨⟨h.l,h2.h⟩⟩
class ApI {α:Type _} (a b:List α) (c:outParam (List α)):Prop where h:a ++ b=c
instance {α:Type _} {b:List α} : ApI [] b b:=⟨rfl⟩
instance {α:Type _} {x:α} {a b c:List α} [h:ApI a b c]:ApI (x :: a) b (x :: c):=⟨by rw [←h.h];rfl⟩
class SbI (cs env:Qw):Prop where h:Sub cs env
instance:SbI [] env:=⟨trivial⟩
instance {t:Nat} {v:Value} {cs:Qw} [h:Som (lk2 env t) v] [h2:SbI cs env]:SbI ((t,v) :: cs) env:=⟨⟨h.l,h2.h⟩⟩
class HbI (ch H:Hp):Prop where h:HSub ch H
instance:HbI [] H:=⟨trivial⟩
instance {t:Nat} {v:Pc} {cs:Hp} [h:Som (lk2 H t) v] [h2:HbI cs H]:HbI ((t,v) :: cs) H:=⟨⟨h.l,h2.h⟩⟩
theorem Sub.app:∀{a b e:Qw},Sub a e→Sub b e→Sub (a ++ b) e
 | [],_,_,_,h=>h
 | (_,_) :: _,_,_,h1,h=>⟨h1.1,Sub.app h1.2 h⟩
theorem HSub.app:∀{a b e:Hp},HSub a e→HSub b e→HSub (a ++ b) e
 | [],_,_,_,h=>h
 | (_,_) :: _,_,_,h1,h=>⟨h1.1,HSub.app h1.2 h⟩
section
variable {c x y:Code} {G:Type} {cs:Qw} {ch:Hp} {e1:G→Qw} {H1:G→Hp} {ov:G→Qw} {oh:G→Hp} {inv:G→Prop} {μ:G→Nat} {g:G}
theorem lp (l lh:List Nat) (ov:G→Qw) (oh:G→Hp) (inv:G→Prop) (μ:G→Nat) (g₀:G) (h₀:inv g₀) (hs:Sub (ov g₀) env) (hh:HSub (oh g₀) H) [h1:SeI l env cs] [h2:SeH lh H ch] [h3:∀g,ApI (ov g) cs (e1 g)] [h4:∀g,ApI (oh g) ch (H1 g)]
  (round:∀g,inv g→E P N sc c (Exit.then (Yi7 N sc cs ch ov oh inv μ g) Q) (e1 g) (H1 g)):E P N sc (.loop c) Q env H:=
 e_lp cs ch ov oh inv μ g₀ h₀ (hs.app h1.h) (hh.app h2.h) fun g hg=>by rw [(h3 g).h,(h4 g).h];exact round g hg
theorem Xf(g':G)(h1:inv g')(h2:μ g'<μ g)(hs:Sub (ov g') env)(hh:HSub (oh g') H)[k1:SbI cs env][k2:HbI ch H]:X N sc .normal (Exit.then (Yi7 N sc cs ch ov oh inv μ g) Q) env H:=x_rnd g' h1 h2 (hs.app k1.h) (hh.app k2.h)
theorem jn (l lh:List Nat) (ov:G→Qw) (oh:G→Hp) (inv:G→Prop) [h1:SeI l env cs] [h2:SeH lh H ch] [h3:∀g,ApI (ov g) cs (e1 g)] [h4:∀g,ApI (oh g) ch (H1 g)]
  (hx:E P N sc x (Exit.then (JnK N sc cs ch ov oh inv) Q) env H) (hy:∀g,inv g→E P N sc y Q (e1 g) (H1 g)):E P N sc (.seq x y) Q env H:=
 e_jn cs ch ov oh inv h1.h h2.h hx fun g hg=>by rw [(h3 g).h,(h4 g).h];exact hy g hg
theorem Pr(g':G)(h1:inv g')(hs:Sub (ov g') env)(hh:HSub (oh g') H)[k1:SbI cs env][k2:HbI ch H]:X N sc .normal (Exit.then (JnK N sc cs ch ov oh inv) Q) env H:=x_jn g' h1 (hs.app k1.h) (hh.app k2.h)
end
end Go.Sky

