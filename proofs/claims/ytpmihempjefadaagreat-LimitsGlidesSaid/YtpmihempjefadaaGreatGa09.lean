/- Rules, arithmetic and contracts: part 10. No conditions but those that each theorem names. -/
import Derived.Test.YtpmihempjefadaaGreatGa08
set_option linter.all false
set_option maxHeartbeats 4000000
namespace Go.Sky
variable{listed:Array Bool}{ts:List Nat}{ops:Array Oper}
variable {P:Program} {N:Nat} {sc:Nat->Prop} {M:Nat->Prop} {env:Xu} {H:Hp} {Q:Exit->Act->World->Prop}
structure BAct (i:Nat) (A:Prop):Prop where h:A
def bq(i:Nat){A:Prop}(h:A):BAct i A:=⟨h⟩
theorem Zus {l:List Oper}  {n:Nat}  (i k:Nat) (a:(Region.noSelect l.toArray && Ih l.toArray ts [(i,k)] listed)=true)
  (h:LD P N sc M l.toArray (A P N sc M l.toArray ts Q n (Mg [(i,k)] listed)) [(i,k)] env H):A P N sc M l.toArray ts Q (n+1) listed env H:=
 Yn _ [(i,k)] h (by rw [a,jH];show Nat.beq (1+n) (n+1)=true;rw [gK];exact Nat.beq_refl _)
theorem Zwm    {n:Nat} (i:Nat) (c:((Region.ready .any ops listed == [i]) && !(Mz ops ts listed) && !([i]:List Nat).isEmpty)=true)
  (a:BAct i (Zbz P N sc M ops ts Q n listed env H i)):A P N sc M ops ts Q (n+1) listed env H:=Yb8 [i] c λq b=>by
 rw [aK.1 b];exact a.h
theorem Zrc    {n:Nat} (i j:Nat) (d:((Region.ready .any ops listed == [i,j]) && !(Mz ops ts listed) && !([i,j]:List Nat).isEmpty)=true)
  (b:BAct i (Zbz P N sc M ops ts Q n listed env H i)) (c:BAct j (Zbz P N sc M ops ts Q n listed env H j)):A P N sc M ops ts Q (n+1) listed env H:=Yb8 [i,j] d λq a=>by
 simp only [bO,dV,gX]at a;rcases a with rfl|rfl
 .exact b.h
 .exact c.h
theorem a_b3    {n:Nat} (i j k:Nat) (e:((Region.ready .any ops listed == [i,j,k]) && !(Mz ops ts listed) && !([i,j,k]:List Nat).isEmpty)=true)
  (b:BAct i (Zbz P N sc M ops ts Q n listed env H i)) (c:BAct j (Zbz P N sc M ops ts Q n listed env H j)) (d:BAct k (Zbz P N sc M ops ts Q n listed env H k)):A P N sc M ops ts Q (n+1) listed env H:=Yb8 [i,j,k] e λq a=>by
 simp only [bO,dV,gX]at a;rcases a with rfl|rfl|rfl
 .exact b.h
 .exact c.h
 .exact d.h
end Go.Sky
namespace Go.Sky
open Go.Proofs.Tryz
open Go.Proofs
set_option synthInstance.maxHeartbeats 0
set_option synthInstance.maxSize 100000
set_option maxRecDepth 20000
set_option linter.unusedSimpArgs false
variable{b:Bool}{x y:Int}{t:TypeId}{v u:Value}{xs ys:List Int}{bd:Nat}
theorem Ce{s:ByteArray}:Yx prog 176 #[.agg #[.bool b,.string s]] [] (.bool (okW b s)):=by
 refine Zd func176 ntmps176 λg f e c=>go 2 ?_;refine Zw (Zu 1) λb _=>go 8 ?_;refine dt (Zqz J J J J)<|go 2 ?_;refine Zc J (λa=>?_) (λa=>?_)
 .refine go 10 ?_;exact Xg c () results176 (by unfold okW;rw [aG a]) aA Za
 .refine go 6 ?_;refine dt (Ya7 (i:=0) J J J uT9 J)<|go 2 ?_;refine Yq 13 J (λd=>?_) (λd=>?_)
  .refine go 9 ?_;exact Xg c () results176 (by unfold okW;rw [aE a];simp_all<;>omega) aA Za
  .refine go 9 ?_;exact Xg c () results176 (by unfold okW;rw [aE a];simp_all<;>omega) aA Za
def Ew(a:bl x.natAbs<=65536):Cal prog 176 #[wv x] [] false (G:=Unit) (λ_=>True) (λ_=> .bool true) (λ_=>[]):=Ah a▸Ce
theorem Zid(b:Bool)(s:ByteArray)(c:Bool)(t:ByteArray):Yx prog 232 #[.agg #[.bool b,.string s],.agg #[.bool c,.string t]] [] (.bool (okW b s && okW c t)):=by
 refine Zd func232 ntmps232 λh g f a=>go 2 ?_;refine Zw (Zu 1) λb _=>Zw (Zu 2) λe _=>go 6 ?_;refine cl 2 [] Ce λ_ _=>go 1<|Gi 7 J (λd=>?_) (λd=>?_)
 .refine go 1 ?_;refine Fy 2 [] Ce λ_ _=>go 5 ?_;exact Xg a () results232 (by simp_all) aA Za
 .refine go 7 ?_;exact Xg a () results232 (by simp_all) aA Za
theorem Mn(a:bl x.natAbs<=65536)(c:bl y.natAbs<=65536):Yx prog 232 #[wv x,wv y] [] (.bool true):=by have h:=Zid (decide (x<0)) (Yw x.natAbs) (decide (y<0)) (Yw y.natAbs);rw [Ah a,Ah c]at h;exact h
theorem Ly(e:bl x.natAbs<=65536):Yx prog 235 #[wv x] [] (.int .i64 x.sign):=by refine Zd func235 ntmps235 λh f d a=>go 2 ?_;refine Zw (Zu 1) λb _=>go 7 ?_;refine cl 1 [] (Ew ‹_›) λ_ _=>go 9 ?_;refine cl 2 [] (Pf (Xl _)) λg c=>cl 2 [2] (Zgt ‹_›) λ_ _=>go 4 ?_;exact Xg a () results235 J aA Za
theorem Zfw(d:bl x.natAbs<=65536):Yx prog 298 #[wv x] [] (.int .i64 (bl x.natAbs:Int)):=by refine Zd func298 ntmps298 λf e c a=>go 2 ?_;refine Zw (Zu 1) λb _=>go 7 ?_;refine cl 1 [] (Ew ‹_›) λ_ _=>go 10 ?_;refine cl 2 [] Zae λv _=>cl 2 [2] Zgw λ_ _=>go 4 ?_;exact Xg a () results298 J aA Za
theorem Gb(x y:Int)(m:bl x.natAbs<=65536)(n:bl y.natAbs<=65536):Yx prog 179 #[wv x,wv y] [] (Bs (x+y)):=by refine Zd func179 ntmps179 λp o l a=>?_;have j:=Bf x y;refine go 2<|Zw (Zu 1) λb _=>Zw (Zu 2) λe _=>Zw (Zr 3) λf _=>go 8 ?_;refine cl 3 [] (Mn ‹_› ‹_›) λ_ _=>go 7<|Qg (λ_=>False) [(0,0),(2,0),(1,1),(3,1),(4,1),(5,1),(6,0),(7,0),(8,3),(9,3)]<|go 2<|Xs (Zm 4 [] (Pf (Xl _))) λg k=>Xs (Zm 5 [] (Pf (Xl _))) λh c=>Xs (Zm 6 [4,5] (Zcw ‹_› ‹_›)) λi d=>Xs (Zm 6 [6] (Ll ‹_›)) λ_ _=>go 7 ?_;exact Na a () results179 J aA Za
theorem Zwp(p:bl x.natAbs<=65536)(q:bl y.natAbs<=65536):Yx prog 359 #[wv x,wv y] [] (Bs (x-y)):=by refine Zd func359 ntmps359 λs r o a=>?_;have m:=Zdi x y;have l:=Zly y;refine go 2<|Zw (Zu 1) λb _=>Zw (Zu 2) λf _=>Zw (Zr 3) λh _=>go 8 ?_;refine cl 3 [] (Mn ‹_› ‹_›) λ_ _=>go 7<|Qg (λ_=>False) [(0,0),(2,0),(1,1),(3,1),(4,1),(5,1),(6,1),(7,0),(8,0),(9,3),(10,3)]<|go 2<|Xs (Zm 4 [] (Pf (Xl _))) λg n=>Xs (Zm 5 [] (Pf (Xl _))) λi c=>Xs (Zm 6 [5] (Zkm ‹_›)) λj d=>Xs (Zm 7 [4,6] (Zcw ‹_› ‹_›)) λk e=>Xs (Zm 7 [7] (Ll ‹_› (by rw [<-eT];omega))) λ_ _=>go 7 ?_;exact Na a () results359 (by rw [eT]<;>rfl) aA Za
theorem Zb2(x y:Int)(m:bl x.natAbs<=65536)(n:bl y.natAbs<=65536):Yx prog 268 #[wv x,wv y] [] (Bs (x*y)):=by refine Zd func268 ntmps268 λp o l a=>?_;have j:=Xb x y;refine go 2<|Zw (Zu 1) λb _=>Zw (Zu 2) λe _=>Zw (Zr 3) λf _=>go 8 ?_;refine cl 3 [] (Mn ‹_› ‹_›) λ_ _=>go 7<|Qg (λ_=>False) [(0,0),(2,0),(1,1),(3,1),(4,1),(5,1),(6,0),(7,0),(8,3),(9,3)]<|go 2<|Xs (Zm 4 [] (Pf (Xl _))) λg k=>Xs (Zm 5 [] (Pf (Xl _))) λh c=>Xs (Zm 6 [4,5] (Zan ‹_› ‹_›)) λi d=>Xs (Zm 6 [6] (Ll ‹_›)) λ_ _=>go 7 ?_;exact Na a () results268 J aA Za
theorem Zmf(x y:Int)(j:bl x.natAbs<=65536)(k:bl y.natAbs<=65536):Yx prog 231 #[wv x,wv y] [] (Bs (Int.gcd x y:Int)):=by refine Zd func231 ntmps231 λm l i c=>?_;have h:=Zl0 x.natAbs y.natAbs;refine go 2<|Zw (Zu 1) λb _=>Zw (Zu 2) λd _=>Zw (Zr 3) λe _=>go 8 ?_;refine cl 3 [] (Mn ‹_› ‹_›) λ_ _=>go 7<|Qg (λ_=>False) [(0,0),(1,0),(3,0),(4,0),(2,1),(5,1),(6,1),(7,0),(8,1),(9,0),(10,0),(11,3),(12,3)]<|go 4<|Xs (Zm 4 [] Zae) λv _=>Xs (Zm 5 [] Zae) λf _=>Xs (Zm 6 [4,5] Zkq) λg _=>?_;refine Pe J J (Pz (Xd [(0,_),(1,_)] J K4 (λa w hs=>Mb ((Zf J) a w hs) ((Qm 6 J Zh) a w hs))))<|Xs (Zm 6 [6] (Ll (s:=false) (x:=(Int.gcd x y:Int)) (by simp [sg]) (by show bl (Nat.gcd x.natAbs y.natAbs)<=_;omega))) λ_ _=>go 7 ?_;exact Na c () results231 J aA Za
theorem Fi(H:bl x.natAbs<=65536)(I:bl y.natAbs<=65536)(c:y≠0):Yx prog 178 #[wv x,wv y] [] (.tuple #[wv (Db (x/y)),wv (Db (x%y)),.int .i64 0]):=by
 refine Zd func178 ntmps178 λQ P w d=>?_;have D:=Zfv x y;have o:=Zum x y c;refine go 2<|Zw (Zu 1) λb _=>Zw (Zu 2) λh _=>Zw (Zr 3) λi _=>Zw (Zr 4) λj _=>go 8 ?_;refine cl 4 [] (Mn ‹_› ‹_›) λ_ _=>go 11 ?_;refine dt (Zqz J J J J)<|go 2 ?_;refine Zc J (λa=>?_) (λa=>?_)
 .rw [Hj]at a;exfalso;exact c (by have:=(Qp (by omega:2<=256) y.natAbs).1 a;omega)
 .refine go 2 ?_;refine jn (G:=Bool×Value×Value×Nat×Nat) [4,5] [0,1,2,3,4] (λq=>[(7,.pointer (some ⟨q.2.2.2.1,0,none⟩)),(8,.pointer (some ⟨q.2.2.2.2,0,none⟩))]) (λq=>[(84,Iz q.2.1 (x/y).natAbs),(85,Iz q.2.2.1 (x%y).natAbs),(86,box q.2.2.2.1 272 #[.bool q.1,q.2.1]),(87,box q.2.2.2.2 272 #[.bool false,q.2.2.1])]) (λq=>sg q.1 (x/y)) ?_ ?_
  .refine Mr [1,2] [11]<|Yn 10 [(0,0),(2,0)]<|go 3 ?_
   repeat' first|refine bq 1 ?_;refine Bm (Zm 81 [] (Pf (Xl _))) λg F=>?_|refine bq 3 ?_;refine Bm (Zm 82 [] (Pf (Xl _))) λm e=>?_|refine bq 4 ?_;refine Bm (Zm 84 [81,82] (Zcv _ _ ‹_› ‹_› O c)) λn f=>?_|refine bq 8 ?_;refine Bm (Za3 86) λk p=>?_|refine bq 9 ?_;refine Bm (Za3 87) λl r=>?_|refine bq 10 ?_;refine Gr rfl rfl (Zcd 86 rfl rfl rfl rfl rfl rfl sizeOf272 rfl rfl ⟨Zf rfl,Qm 84 rfl Zh,aA⟩ rfl w.h p.h) (λ_ _=>?_)|refine a_b3 1 8 9 O5 ?_ ?_ ?_|refine Zrc 1 8 O5 ?_ ?_|refine Zwm 1 O5 ?_|refine Zwm 3 O5 ?_|refine Zwm 4 O5 ?_|refine Zwm 10 O5 ?_|refine Zrc 3 8 O5 ?_ ?_|refine Zrc 4 8 O5 ?_ ?_|refine Zwm 8 O5 ?_|refine Zrc 1 9 O5 ?_ ?_|refine Zrc 3 9 O5 ?_ ?_|refine Zrc 4 9 O5 ?_ ?_|refine Zwm 9 O5 ?_|refine a_b3 3 8 9 O5 ?_ ?_ ?_|refine a_b3 4 8 9 O5 ?_ ?_ ?_|refine Zrc 8 9 O5 ?_ ?_|refine Zus 5 0 O5 ?_;refine go 2 ?_|refine Zus 6 0 O5 ?_;refine go 2 ?_|refine Zus 7 0 O5 ?_;refine go 2 ?_|refine Zus 11 3 O5 ?_;refine go 2 ?_|refine Xp ?_ O5;exact Kh (_,_,_,_,_) ‹_› ⟨rfl,rfl,aA⟩ ⟨rfl,rfl,rfl,rfl,aA⟩
  .rintro⟨M,qv,N,z,B⟩ s;dsimp only at s;dsimp only;refine go 3 ?_;refine cl 4 [84] (Ll ‹_›) λ_ _=>go 9 ?_;refine cl 4 [85] (Ll (Yc6 x c)) λ_ _=>go 7<|Mr [4] [3,4] ?_;refine Yn 0 [(1,0),(0,1),(2,1),(3,3),(4,3)]<|go 6 ?_;exact Xp<|go 2<|xe3 d () results178 J aA Za
theorem Br{s t:Bool}{w:Value}(hs:sg s x)(m:sg t y)(k:y≠0)(Y:bl x.natAbs<=1000000000:=by omega)(Z:bl y.natAbs<=1000000000:=by omega):Yx prog 269 #[.agg #[.bool s,v],.agg #[.bool t,w]] [Iz v x.natAbs,Iz w y.natAbs] (Cl x y):=by
 refine Zd func269 ntmps269 λw0 sc W c=>?_;have S:=Zl0 x.natAbs y.natAbs;have e:Nc x y≠0:=Yd2 k;have h:sg t (Nc x y):=Yc4 m k;have f:=Al x y;have P:=Zfv x (Nc x y);have Q:=Zfv y (Nc x y);refine go 2<|Zw (Zu 3) λb _=>Zw (Zu 4) λq _=>Zw (Zr 5) λr _=>go 4<|Zaw (λ_=>False) [9] ?_;refine Yn 4 [(0,0),(1,0),(2,0),(3,0),(4,0),(5,0)]<|go 7 ?_;refine Ib 3 6 8 ?_ ?_
 .refine Bm (Zm 81 [1,2] Zkq) λv _=>?_;refine Yn 0 [(7,0),(8,1),(9,3)]<|Pe J J (Pz (Xd [(0,_),(1,_)] J K4 (λa w hs=>Mb ((Zf J) a w hs) ((Qm 81 J Zh) a w hs))))<|Xs (Zr 82) λz _=>go 2 ?_;refine Xp<|go 2<|Zg (Gf 81 (Zs4 x y) J J)<|go 3 ?_;refine cl 6 [1,81] (Zcv x (Nc x y) hs h (by rw [f];omega) e) λg V=>go 10 ?_;refine cl 8 [2,81] (Zcv y (Nc x y) m h (by rw [f];omega) e) λI n=>go 9 ?_;refine cl 9 [6] (Ll ‹_›) λ_ _=>go 3<|Zw (Zr 10) λB _=>go 7 ?_;refine cl 10 [8] (Ll ‹_›) λ_ _=>go 3<|Zw (Zr 11) λD _=>go 10<|Yq 43 J (λl=>?_) (λl=>?_)
  .refine go 8 ?_;refine dt (Xd [] J aA (λa w hs=>Zpb))<|go 6 ?_;exact Na c () results269 (Ck (by unfold Md;first|exact .inl (Eu ‹_›)|exact .inr (Eu ‹_›))) aA Za
  .refine go 5<|Zc J (λj=>?_) (λj=>?_)
   .refine go 2 ?_;refine dt (Xd [] J aA (λa w hs=>Zpb))<|go 6 ?_;exact Na c () results269 (Ck (by unfold Md;first|exact .inl (Eu ‹_›)|exact .inr (Eu ‹_›))) aA Za
   .refine go 6 ?_;refine dt (Xd [(0,_),(1,_)] J K4 (λa w hs=>Zdk))<|go 5 ?_;exact Na c () results269 (Zm8 (bT ‹_›) (bT ‹_›)) aA Za
 .refine Bm (Zr 82) λF _=>?_;refine Yn 0 [(6,1),(7,0),(9,3)]<|Xs (Zm 81 [1,2] Zkq) λR _=>?_;refine Pe J J (Pz (Xd [(0,_),(1,_)] J K4 (λa w hs=>Mb ((Zf J) a w hs) ((Qm 81 J Zh) a w hs))))<|go 2 ?_;refine Xp<|go 2<|Zg (Gf 81 (Zs4 x y) J J)<|go 3 ?_;refine cl 12 [1,81] (Zcv x (Nc x y) hs h (by rw [f];omega) e) λM o=>go 10 ?_;refine cl 14 [2,81] (Zcv y (Nc x y) m h (by rw [f];omega) e) λN p=>go 9 ?_;refine cl 15 [12] (Ll ‹_›) λ_ _=>go 3<|Zw (Zr 16) λG _=>go 7 ?_;refine cl 16 [14] (Ll ‹_›) λ_ _=>go 3<|Zw (Zr 17) λH _=>go 10<|Yq 43 J (λi=>?_) (λi=>?_)
  .refine go 8 ?_;refine dt (Xd [] J aA (λa w hs=>Zpb))<|go 6 ?_;exact Na c () results269 (Ck (by unfold Md;first|exact .inl (Eu ‹_›)|exact .inr (Eu ‹_›))) aA Za
  .refine go 5<|Zc J (λd=>?_) (λd=>?_)
   .refine go 2 ?_;refine dt (Xd [] J aA (λa w hs=>Zpb))<|go 6 ?_;exact Na c () results269 (Ck (by unfold Md;first|exact .inl (Eu ‹_›)|exact .inr (Eu ‹_›))) aA Za
   .refine go 6 ?_;refine dt (Xd [(0,_),(1,_)] J K4 (λa w hs=>Zdk))<|go 5 ?_;exact Na c () results269 (Zm8 (bT ‹_›) (bT ‹_›)) aA Za
theorem Fh(x y:Int)(l:bl x.natAbs<=65536)(m:bl y.natAbs<=65536)(c:y≠0:=by omega):Yx prog 199 #[wv x,wv y] [] (Cl x y):=by
 refine Zd func199 ntmps199 λo n k d=>go 2 ?_;refine Zw (Zu 1) λb _=>Zw (Zu 2) λf _=>Zw (Zr 3) λh _=>go 8 ?_;refine cl 3 [] (Mn ‹_› ‹_›) λ_ _=>go 11 ?_;refine dt (Zqz J J J J)<|go 2 ?_;refine Zc J (λa=>?_) (λa=>?_)
 .rw [Hj]at a;exfalso;exact c (by have:=(Qp (by omega:2<=256) y.natAbs).1 a;omega)
 .refine go 3<|Qg (λ_=>False) [(0,0),(2,0),(1,1),(3,1),(4,1),(5,0),(6,0),(7,3),(8,3)]<|go 2<|Xs (Zm 4 [] (Pf (Xl _))) λg j=>Xs (Zm 5 [] (Pf (Xl _))) λi e=>Xs (Zm 5 [4,5] (Br ‹_› ‹_› c)) λ_ _=>go 7 ?_;exact Na d () results199 J aA Za
theorem Ze3{s:ByteArray}{c:Bool}{t:ByteArray}:Yx prog 198 #[.agg #[.bool b,.string s,.bool c,.string t]] [] (.bool (okR b s c t)):=by
 refine Zd func198 ntmps198 λl k j g=>go 2 ?_;refine Zw (Zu 1) λb _=>go 9 ?_;refine cl 1 [] (Zid _ _ _ _) λ_ _=>go 1<|Gi 8 J (λh=>?_) (λh=>?_)
 .have i:okW c t=true:=by simp_all
  have d:=Zkk i;obtain⟨a,e,f⟩:=Classical.choose_spec d;generalize Classical.choose d=z at a e f ⊢;subst e;subst f
  try clear d
  refine go 2 ?_;refine Fy 1 [] (Ly (x:=z) a) λ_ _=>go 6 ?_;exact Xg g () results198 (by first|rw [Znl (by simp_all) a]|(unfold okR;simp_all)) aA Za
 .refine go 9 ?_;exact Xg g () results198 (by first|rw [Znl (by simp_all) a]|(unfold okR;simp_all)) aA Za
def Nb(c:bl x.natAbs<=65536)(d:bl y.natAbs<=65536)(a:0<y):Cal prog 198 #[rX x y] [] false (G:=Unit) (λ_=>True) (λ_=> .bool true) (λ_=>[]):=okR_wv c d a▸Ze3
theorem Zt(x:Int)(f:Qf x:=by exact⟨O,O⟩):Yx prog 99 #[.int .i64 x] [] (wv x):=by
 refine Zd func99 ntmps99 λm l h e=>?_;have i:=f.1;have j:=f.2;have d:x.natAbs<U:=by simp only [U];omega
 have k:bl x.natAbs<=64:=(Xo 64 _).2 (by rw [<-Yb9];exact d);refine go 2<|Zw (Zr 1) λb _=>go 5 ?_;refine dt (Yey (r:=x%18446744073709551616) J J uT3 De J)<|go 3 ?_;refine jn (G:=Unit) [0,2] [0,1] (λ_=>[(3,.int .u64 ((x.natAbs:Nat):Int))]) (λ_=>[]) (λ_=>True) ?_ ?_
 .refine go 6<|Zc J (λc=>?_) (λc=>?_)
  .refine go 2 ?_;refine dt (u_negm (r:=x.natAbs) J J O)<|go 2 ?_;exact Kh () aA ⟨by first|rfl|(rw [show x%18446744073709551616=((x.natAbs:Nat):Int) by omega];rfl),aA⟩ aA
  .refine go 1 ?_;exact Kh () aA ⟨by first|rfl|(rw [show x%18446744073709551616=((x.natAbs:Nat):Int) by omega];rfl),aA⟩ aA
 .rintro _ -;refine go 5 ?_;refine tt (Xw [(0,_)] 2 (enc:=Og) [x.natAbs] J J K2 Qi ti125 J J J J J pU.cells J J h.h) λv _=>cl 2 [2] Qn λ_ _=>?_;refine Qy (Zbg 2 J J pU)<|Qy (Zix 2 (Zdq d) J J)<|dt (Xd [(0,_),(1,_)] J K4 (λa w hs=>Mb ((Zf J) a w hs) ((Qm 2 J (Xc pU)) a w hs)))<|cl 2 [2] (Ll (x:=x) (Xl _)) λ_ _=>go 3 ?_;refine Zw (Zr 3) λg _=>go 11 ?_;exact Xg e () results99 (by rw [Ng O]<;>rfl) aA Za
theorem Zaj(hs:Sz 65536 xs):Cal prog 233 #[v] [Ym 2 wv v xs] true (G:=Unit) (λ_=>True) (λ_=>Nr v (tzl xs).length) (λ_=>[Ym 2 wv (Nr v (tzl xs).length) (tzl xs)]):=by
 refine Zd func233 ntmps233 λp o n d=>?_;refine Oo (Zqp (i:=1) J Zh) (λa=>?_);refine Oo (It (i:=1) J Zh) λm=>go 7 ?_;refine lp (G:=Nat) [] [0] (λk=>[(0,Nr v k)]) (λk=>[(1,Ym 2 wv (Nr v k) (xs.take k))]) (λk=>(k<=xs.length)/\(tzl (xs.take k)=tzl xs)) (λk=>k) xs.length ⟨aH _,by rw [bN]⟩ ⟨by rw [a];rfl,aA⟩ ⟨by rw [a,bN];rfl,aA⟩ ?_;rintro k ⟨h,j⟩;have f:(xs.take k).length=k:=by rw [aN];omega
 refine go 7<|Yq 6 J (λl=>?_) (λl=>?_)
 .refine go 4 ⟨O,?_⟩;refine Et (Yu 1 (k-1) J J J J Zh Qt Xz) J J<|go 1 ⟨O,?_⟩;refine Fy 1 [] (Ly ((hs.take _).getD _)) λ_ _=>go 4<|Zc J (λg=>?_) (λg=>?_)
  .have c:=Zmj h O (Zf4 k O (eY.1 ‹_›):cf xs (k-1)=0);refine go 8 ⟨O,?_⟩;refine dt (Ztv 1 (k-1) J J J J Zh Qt Xz)<|go 3 ?_;exact Xh (Zxv 1 1 (k-1) J J)<|Xe (k-1) ⟨O1,by rw [<-j,<-c]⟩ O1 ⟨by rw [<-Kx v k (k-1)];rfl,aA⟩ ⟨by rw [Kx,gC,cW O];rfl,aA⟩
  .refine go 12 ?_;have e:tzl xs=xs.take k:=by rw [<-j];exact Zb7 h (by first|(left;omega)|(right;exact Zcc k O ‹_›))
   exact Xg d () results233 (by rw [e,f]) aA (Nz 1 Za (by rw [e,f]))
 .refine go 24 ?_;have e:tzl xs=xs.take k:=by rw [<-j];exact Zb7 h (by first|(left;omega)|(right;exact Zcc k O ‹_›))
  exact Xg d () results233 (by rw [e,f]) aA (Nz 1 Za (by rw [e,f]))
theorem Zp5(v:Value)(r:List (Bool×ByteArray)):Yx prog 234 #[v] [Ym 2 Zqt v r] (.bool (okP r)):=by
 refine Zd func234 ntmps234 λz s p a=>?_;refine Oo (It (i:=1) J Zh) λg=>go 14 ?_;refine lp (G:=Nat) [0,5,6] [0,1] (λk=>[(7,.int .i64 (k:Int))]) (λk=>[]) (λk=>(k<=r.length)/\((r.take k).all (λw=>okW w.1 w.2)=true)) (λk=>r.length-k) 0 ⟨O1,O7⟩ K1 aA ?_;rintro k ⟨o,l⟩;refine go 6<|Zc J (λj=>?_) (λj=>?_)
 .refine go 7 ⟨O2,?_⟩;refine dt (Mh 1 (false,⟨#[]⟩) J J J Zh pW O2)<|Zw (Zr 2) λb _=>go 6 ?_;refine cl 2 [] Ce λ_ _=>go 3<|Ow J (λf=>?_) (λf=>?_)
  .refine go 11 ?_;exact Xg a () results234 (by rw [Ydr (Zo (i:=k) (d:=(false,⟨#[]⟩))) (by simp_all)]) aA Za
  .refine go 7 ⟨O,?_⟩;exact Xe (k+1) ⟨O1,by rw [Ql (false,⟨#[]⟩) _ _ O,List.all_append,l];simpa using f⟩ O1 K1 aA
 .refine go 6 ?_;obtain rfl:k=r.length:=O;rw [bN]at l;obtain⟨xs,c,rfl⟩:=Znk (bR.1 l);have m:=Sz.of_mem c;rw [bX]at g;refine Zg (Zj7 1 (q:=Ym 2 wv v xs) J J (Yc2 v xs) (λ_ h=>fpn h) J)<|go 5<|Yq 18 J (λn=>?_) (λn=>?_)
  .refine go 4<|Yq 22 J (λe=>?_) (λe=>?_)
   .refine go 14 ?_;exact Xg a () results234 (by rw [Zkl c];first|(simp_all;done)|(simp_all;omega)) aA Za
   .refine go 4 ⟨O,?_⟩;refine Et (Yu 1 (xs.length-1) J J J J Zh Qt Xz) J J<|go 1 ⟨O,?_⟩;refine Fy 2 [] (Ly (m.getD _)) λ_ _=>go 7 ?_;exact Xg a () results234 (by rw [Zkl c];first|(simp_all;done)|(simp_all;omega)) aA Za
  .refine go 18 ?_;exact Xg a () results234 (by rw [Zkl c];first|(simp_all;done)|(simp_all;omega)) aA Za
def Yo(h:Vp xs):Cal prog 234 #[v] [Ym 2 wv v xs] false (G:=Unit) (λ_=>True) (λ_=> .bool true) (λ_=>[]):=okP_wr h▸(Zp5 v (xs.map wr)).imp (Zpu v xs) (λ_ h=>fpm h)
theorem Me(hs:Sz 65536 xs):Yx prog 236 #[v] [Ym 2 wv v xs] (.int .i64 (Qs xs:Int)):=by
 refine Zd func236 ntmps236 λh g f c=>?_;refine Oo (It (i:=1) J Zh) λd=>go 19 ?_;refine lp (G:=Nat) [6,7] [0,1] (λk=>[(8,.int .i64 (k:Int)),(3,.int .i64 (Qs (xs.take k):Int))]) (λk=>[]) (λk=>k<=xs.length) (λk=>xs.length-k) 0 O1 K2 aA ?_;rintro k e;refine go 6<|Zc J (λa=>?_) (λa=>?_)
 .refine go 8 ⟨O2,O2,?_⟩;refine Zw (Zr 2) λb _=>go 6 ?_;refine cl 2 [] (Zfw (hs.getD _)) λ_ _=>?_;refine dt (Zjl J J J)<|go 8 ⟨O,?_⟩;exact Xe (k+1) O1 O1 ⟨J,by rw [Ql 0 _ _ O,Zzd];exact aP some (Ap O),aA⟩ aA
 .refine go 12 ?_;exact Xg c () results236 (by rw [bW O]) aA Za
theorem Zla{e f:Int}{n:Bool}{s:ByteArray}:Zel prog 299 #[.pointer (some ⟨bd,0,none⟩),.agg #[.bool n,.string s],.int .i64 f] [] false bd t #[.int .i64 e] (G:=Unit) (λ_=>True) (λ_=> .agg #[.bool n,.string s]) (λ_=>#[.int .i64 (if e=0 then f else e)]) (λ_=>[]):=by
 refine Bc func299 J ntmps299 J aA ?_;intro j i g c;have g:=Hw.mk g;simp only [Pa,Qc];refine go 2<|Zw (Zu 2) λb _=>Zw (Zr 3) λh _=>go 12<|Zc J (λd=>?_) (λd=>?_)
 .refine go 15 ?_;exact Bp (.inl J) c () (λa w hs=>Zd1 hs results299 (Km 3 J J isAgg176 Xz J)) J aA 1 J (by simp_all [Gp]) J J Za
 .refine go 9 ?_;exact Bp (.inl J) c () (λa w hs=>Zd1 hs results299 (Km 3 J J isAgg176 Xz J)) J aA 1 J (by simp_all [Gp]) J J Za
theorem d_mul_(bd:Nat)(e x y:Int)(h:bl x.natAbs<=65536)(i:bl y.natAbs<=65536):Zel prog 237 #[.pointer (some ⟨bd,0,none⟩),wv x,wv y] [] false bd 347 #[.int .i64 e] (G:=Unit) (λ_=>True) (λ_=>wv (Db (x*y))) (λ_=>#[.int .i64 (err e (x*y))]) (λ_=>[]):=by refine Bc func237 J ntmps237 J aA ?_;intro k j d c;have d:=Hw.mk d;simp only [Pa,Qc];refine go 2<|Zw (Zu 2) λb _=>Zw (Zu 3) λf _=>Zw (Zr 4) λg _=>go 3<|Qg (λx=>x=bd) [(0,0),(1,0),(2,0),(3,0),(4,0),(5,1),(6,0),(7,0),(8,1),(9,3)]<|go 5<|Xs (Zm 4 [] (Zb2 _ _ ‹_› ‹_›)) λ_ _=>go 2 ?_;refine Ec J (Qr 4 1 Zla J J J K3 call299 J O3 Yb J d.h J) λ_ _=>go 4 ?_;exact Bp (.inl J) c () (λa w hs=>Zd1 hs results237 (Km 4 J J isAgg176 Xz J)) J aA 1 J J J J Za
theorem Ba(c:bl x.natAbs<=65536)(d:bl y.natAbs<=65536)(a:bl (x*y).natAbs<=65536):Zel prog 237 #[.pointer (some ⟨bd,0,none⟩),wv x,wv y] [] false bd 347 #[.int .i64 0] (G:=Unit) (λ_=>True) (λ_=>wv (x*y)) (λ_=>#[.int .i64 0]) (λ_=>[]):=by have h:=d_mul_ bd 0 x y c d;rw [Ng a,Zqr a]at h;exact h
theorem d_add_(bd:Nat)(e x y:Int)(h:bl x.natAbs<=65536)(i:bl y.natAbs<=65536):Zel prog 238 #[.pointer (some ⟨bd,0,none⟩),wv x,wv y] [] false bd 347 #[.int .i64 e] (G:=Unit) (λ_=>True) (λ_=>wv (Db (x+y))) (λ_=>#[.int .i64 (err e (x+y))]) (λ_=>[]):=by refine Bc func238 J ntmps238 J aA ?_;intro k j d c;have d:=Hw.mk d;simp only [Pa,Qc];refine go 2<|Zw (Zu 2) λb _=>Zw (Zu 3) λf _=>Zw (Zr 4) λg _=>go 3<|Qg (λx=>x=bd) [(0,0),(1,0),(2,0),(3,0),(4,0),(5,1),(6,0),(7,0),(8,1),(9,3)]<|go 5<|Xs (Zm 4 [] (Gb _ _ ‹_› ‹_›)) λ_ _=>go 2 ?_;refine Ec J (Qr 4 1 Zla J J J K3 call299 J O3 Yb J d.h J) λ_ _=>go 4 ?_;exact Bp (.inl J) c () (λa w hs=>Zd1 hs results238 (Km 4 J J isAgg176 Xz J)) J aA 1 J J J J Za
theorem Zqx(c:bl x.natAbs<=65536)(d:bl y.natAbs<=65536)(a:bl (x+y).natAbs<=65536):Zel prog 238 #[.pointer (some ⟨bd,0,none⟩),wv x,wv y] [] false bd 347 #[.int .i64 0] (G:=Unit) (λ_=>True) (λ_=>wv (x+y)) (λ_=>#[.int .i64 0]) (λ_=>[]):=by have h:=d_add_ bd 0 x y c d;rw [Ng a,Zqr a]at h;exact h
theorem d_sub_(bd:Nat)(e x y:Int)(h:bl x.natAbs<=65536)(i:bl y.natAbs<=65536):Zel prog 330 #[.pointer (some ⟨bd,0,none⟩),wv x,wv y] [] false bd 347 #[.int .i64 e] (G:=Unit) (λ_=>True) (λ_=>wv (Db (x-y))) (λ_=>#[.int .i64 (err e (x-y))]) (λ_=>[]):=by refine Bc func330 J ntmps330 J aA ?_;intro k j d c;have d:=Hw.mk d;simp only [Pa,Qc];refine go 2<|Zw (Zu 2) λb _=>Zw (Zu 3) λf _=>Zw (Zr 4) λg _=>go 3<|Qg (λx=>x=bd) [(0,0),(1,0),(2,0),(3,0),(4,0),(5,1),(6,0),(7,0),(8,1),(9,3)]<|go 5<|Xs (Zm 4 [] (Zwp ‹_› ‹_›)) λ_ _=>go 2 ?_;refine Ec J (Qr 4 1 Zla J J J K3 call299 J O3 Yb J d.h J) λ_ _=>go 4 ?_;exact Bp (.inl J) c () (λa w hs=>Zd1 hs results330 (Km 4 J J isAgg176 Xz J)) J aA 1 J J J J Za
theorem Zqw(c:bl x.natAbs<=65536)(d:bl y.natAbs<=65536)(a:bl (x-y).natAbs<=65536):Zel prog 330 #[.pointer (some ⟨bd,0,none⟩),wv x,wv y] [] false bd 347 #[.int .i64 0] (G:=Unit) (λ_=>True) (λ_=>wv (x-y)) (λ_=>#[.int .i64 0]) (λ_=>[]):=by have h:=d_sub_ bd 0 x y c d;rw [Ng a,Zqr a]at h;exact h
theorem Yba(hs:Sz 65536 xs):Cal prog 239 #[.pointer (some ⟨bd,0,none⟩),v] [Ka bd 347 #[.int .i64 0],Ym 2 wv v xs] true (G:=Unit) (λ_=>True) (λ_=> .tuple #[Nr v (tzl xs).length,.int .i64 0]) (λ_=>[Ym 2 wv (Nr v (tzl xs).length) (tzl xs)]):=by
 refine Zd func239 ntmps239 λf e d c=>go 17 ?_;refine Zc J (λa=>?_) (λa=>?_)
 .exfalso;simp_all
 .refine go 5 ?_;refine cl 3 [2] (Zaj ‹_›) λ_ _=>go 5 ?_;exact Na c () results239 J aA (Nz 3 Za)
theorem Kv(c:Int)(g:Vp xs)(m:bl c.natAbs<=65536)(h:∀i,bl (cf xs i*c).natAbs<=65536):Cal prog 170 #[v,wv c] [Ym 2 wv v xs] true (G:=Value) (λr=>True) (λr=> .tuple #[r,.int .i64 0]) (λr=>[Ym 2 wv r (Yc xs c)]):=by
 refine Zd func170 ntmps170 λp o e d=>?_;have f:=g.len;refine go 2<|Zw (Zu 2) λb _=>go 8 ?_;refine cl 2 [1] (Yo ‹_›) λ_ _=>go 3 ?_;refine Fy 2 [] (Ew ‹_›) λ_ _=>go 9<|Zw (Zr 3) λj _=>go 6 ?_;refine tt (Gd 4 _ 24 (enc:=wv) 0 J J J J Qt ti176 J pV.cells pV.pos J J J e.h J J) λv _=>go 12 ?_;refine lp (G:=Nat) [3,6,7,21,22] [0,1,2,3] (λk=>[(23,.int .i64 (k:Int))]) (λk=>[(4,Nl 2 176 wv v (fill xs.length k (λi=>cf xs i*c)))]) (λk=>k<=xs.length) (λk=>xs.length-k) 0 O1 K1 ⟨by rw [Fg xs.length (λi=>cf xs i*c)];rfl,aA⟩ ?_;rintro k n;refine go 6<|Zc J (λa=>?_) (λa=>?_)
 .refine go 9 ⟨O2,O2,?_⟩;refine Zw (Zr 5) λl _=>go 9 ?_;refine tt (Qr 5 3 (Ba (g.sz.getD _) m (h _)) J J J K3 call237 J O3 Yb J e.h aA) (λ_ _=>?_);refine dt (Yu 4 k J J J J (Xc pV) Qt Xz J (by rw [Xx];omega))<|tt (Lb 4 (enc:=wv) J J J J J J pV J e.h O3 (by rw [Xx];omega)) (λ_ _=>?_);refine go 7 ⟨O,?_⟩;exact Xe (k+1) O1 O1 K1 ⟨by rw [<-Ar O];rfl,aA⟩
 .refine go 6 ?_;obtain rfl:k=xs.length:=O;refine Zg (Pd 4 J J pV)<|Zg (Zj6 3 J J)<|go 2 ?_;refine cl 6 [3,4] (Yba (by rw [Ir];exact Zcz λi _=>h i)) λ_ _=>go 7 ?_;exact Na d _ results170 J aA (Nz 6 Za (by rw [Zvf]<;>rfl))
theorem Gh(e:Vp xs)(h:∀i,bl (cf xs (i+1)*((i:Int)+1)).natAbs<=65536):Cal prog 278 #[v] [Ym 2 wv v xs] true (G:=Value) (λr=>True) (λr=> .tuple #[r,.int .i64 0]) (λr=>[Ym 2 wv r (Zy xs)]):=by
 refine Zd func278 ntmps278 λo m f d=>?_;have g:=e.len;refine go 10 ?_;refine cl 1 [1] (Yo ‹_›) λ_ _=>go 14<|Zc J (λa=>?_) (λa=>?_)
 .refine go 8 ?_;exact Na d _ results278 J aA (Kg (Zyq O) Za)
 .refine go 4<|Zw (Zr 2) λb _=>?_;refine go 7 ⟨O,?_⟩;refine tt (Gd 3 (xs.length-1) 24 (enc:=wv) 0 J J J J Qt ti176 J pV.cells pV.pos J J J f.h) λv _=>go 12 ?_;refine lp (G:=Nat) [0,4,5,18] [0,1,2] (λk=>[(19,.int .i64 (k:Int))]) (λk=>[(3,Nl 2 176 wv v (fill (xs.length-1) k (λi=>cf xs (i+1)*((i:Int)+1))))]) (λk=>k<=xs.length-1) (λk=>xs.length-1-k) 0 O1 K1 ⟨by rw [Fg (xs.length-1) (λi=>cf xs (i+1)*((i:Int)+1))];rfl,aA⟩ ?_;rintro k l;have j:(fill (xs.length-1) k (λi=>cf xs (i+1)*((i:Int)+1))).length=xs.length-1:=Xx _ _ _;refine go 6<|Zc J (λc=>?_) (λc=>?_)
  .try rw [aW]at *
   refine go 10<|Qg (λx=>x=b) [(0,0),(1,0),(2,0),(3,0),(4,0),(5,0),(6,0),(7,0),(8,0),(9,1),(10,1),(11,0),(12,3)]<|go 5 ⟨O,?_⟩;refine Pe J J (st1 2 J (Yu 1 (k+1) J J J J Zh Qt Xz))<|go 3 ⟨O,O,?_⟩;refine Xs (Zm 3 [] (Zt _ (by first|assumption|exact⟨O,O⟩))) λ_ _=>?_;refine Ec J (Qr 3 2 (Ba (x:=cf xs (k+1)) (y:=((k:Int)+1)) (e.sz _) (aB (Py (n:=32) O) O3) (h k)) J J J K3 call237 J O3 Yb J f.h J) (λ_ _=>?_);refine Pe J J (st1 2 J (Yu 3 k J J J J (Xc pV) Qt Xz J (by rw [Xx];omega)))<|r3' J (Lb 3 (enc:=wv) J J J J J J pV J f.h O3 (by rw [Xx];omega)) (λ_ _=>?_);refine go 7 ⟨O,?_⟩;exact Xe (k+1) O1 O1 K1 ⟨by rw [<-Ar O];rfl,aA⟩
  .try rw [aW]at *
   refine go 6 ?_;obtain rfl:k=xs.length-1:=O;refine Zg (Pd 3 J J pV)<|Zg (Zj6 2 J J)<|go 2 ?_;refine cl 4 [2,3] (Yba (by rw [Ir];exact Zcz λi _=>h i)) λ_ _=>go 7 ?_;exact Na d _ results278 J aA (Nz 4 Za (by rw [Ydl e.tr]<;>rfl))
theorem Zkg(j:Vp xs):Yx prog 331 #[v] [Ym 2 wv v xs] (.tuple #[wv (Yj xs),.int .i64 0]):=by
 refine Zd func331 ntmps331 λr q n i=>?_;have l:=j.len;have d:∀k,bl (Yj (xs.take k)).natAbs<=65536:=λk=>Zni _ (j.sz.take k);refine go 2<|Zw (Zr 2) λb _=>go 7 ?_;refine cl 2 [1] (Yo ‹_›) λ_ _=>go 8<|Zw (Zr 3) λf _=>go 4<|Zw (Zr 4) λg _=>go 11 ?_;refine lp (G:=Nat) [2,4,5,12,13] [0,1,2] (λk=>[(14,.int .i64 (k:Int))]) (λk=>[(4,box g 176 #[.bool (decide (Yj (xs.take k)<0)),.string (Yw (Yj (xs.take k)).natAbs)]),(3,box f 347 #[.int .i64 0])]) (λk=>k<=xs.length) (λk=>xs.length-k) 0 O1 K1 K2 ?_;rintro k o;have e:=λh=>Mv (p:=xs) (k:=k) h;refine go 6<|Zc J (λc=>?_) (λc=>?_)
 .refine go 8 ⟨O2,O2,?_⟩;refine Zw (Zr 5) λm _=>go 7 ?_;refine cl 5 [] (Zmf (Yj (xs.take k)) (xs.getD k 0) (d _) (j.sz.getD _)) λ_ _=>go 2 ?_;refine tt (Qr 5 3 Zla J J J K3 call299 J O3 Yb J n.h aA) (λ_ _=>?_);refine go 8 ⟨O,?_⟩;have a:=d (k+1);rw [e O]at a;exact Xe (k+1) O1 O1 K1 ⟨by rw [e O];simp only [Ng a];rfl,by simp only [Zk3 a];rfl,aA⟩
 .refine go 6<|Mr [3,4] [5] ?_;refine Yn 0 [(0,0),(1,0),(2,0),(3,0),(4,1),(5,3)]<|go 7 ?_;refine Xp<|go 2 ?_;exact Na i () results331 (by rw [show k=xs.length by omega,bN]<;>rfl) aA Za
theorem Zh8{c:Int}(l:Sz 65536 xs)(j:xs.length<=1000)(q:bl c.natAbs<=65536)(s:∀i,c∣cf xs i)(f:xs≠[]->c≠0):Cal prog 332 #[v,wv c] [Ym 2 wv v xs] true (G:=Value) (λr=>True) (λr=> .tuple #[r,.int .i64 0]) (λr=>[Ym 2 wv r (xs.map (· / c))]):=by
 refine Zd func332 ntmps332 λB z m h=>go 2 ?_;refine Zw (Zu 2) λb _=>go 8 ?_;refine tt (Gd 3 _ 24 (enc:=wv) 0 J J J J Qt ti176 J pV.cells pV.pos J J J m.h J J) λv _=>go 12 ?_;refine lp (G:=Nat) [3,6,15,16] [0,1,2] (λk=>[(17,.int .i64 (k:Int))]) (λk=>[(3,Nl 2 176 wv v (fill xs.length k (λi=>cf xs i/c)))]) (λk=>k<=xs.length) (λk=>xs.length-k) 0 O1 K1 ⟨by rw [Fg xs.length (λi=>cf xs i/c)];rfl,aA⟩ ?_;rintro k w;have g:Db (xs.getD k 0/c)=cf xs k/c:=Ng (Cz (s k) (l k));refine go 6<|Zc J (λa=>?_) (λa=>?_)
 .refine go 9 ⟨O2,O2,?_⟩;refine Zw (Zr 4) λn _=>go 8 ?_;refine cl 4 [] (Fi (l.getD _) q (f (by intro e;rw [e]at a;simp at a;omega))) λ_ _=>go 4<|Zw (Zr 5) λo _=>Zw (Zr 6) λp _=>go 12<|Zc J (λd=>?_) (λd=>?_)
  .exfalso;simp_all
  .refine go 6 ?_;refine dt (Yu 3 k J J J J (Xc pV) Qt Xz J (by rw [Xx];omega))<|tt (Lb 3 (enc:=wv) J J J J J J pV J m.h O3 (by rw [Xx];omega)) (λ_ _=>?_);refine go 7 ⟨O,?_⟩;exact Xe (k+1) O1 O1 K1 ⟨by rw [<-Ar O];simp only [g];rfl,aA⟩
 .refine go 13 ?_;obtain rfl:k=xs.length:=O;exact Na h _ results332 J aA (gow 3 Za (by rw [Ir,Zzh xs (· / c)]<;>rfl))
theorem Oc(c:Vp xs):Cal prog 282 #[v] [Ym 2 wv v xs] true (G:=Value) (λr=>True) (λr=> .tuple #[r,.int .i64 0]) (λr=>[Ym 2 wv r (Zs xs)]):=by
 refine Zd func282 ntmps282 λh g f d=>?_;have e:=c.len;refine go 9 ?_;refine cl 1 [1] (Zkg ‹_›) λ_ _=>go 3<|Zw (Zr 2) λb _=>go 11<|Zc J (λa=>?_) (λa=>?_)
 .exfalso;simp_all
 .refine go 6 ?_;refine cl 3 [1] (Zh8 c.sz O (Zni _ c.sz) (Nk _) c.ne) λ_ _=>go 7 ?_;exact Na d _ results282 J aA (Nz 3 Za J)
theorem Zvi(n:Vp xs)(S:bl x.natAbs<=65536)(hy:bl y.natAbs<=65536)(a8:0<y):Yx prog 403 #[v,rX x y] [Ym 2 wv v xs] (.tuple #[wv (evv xs x y),.int .i64 (eve xs x y)]):=by
 refine Zd func403 ntmps403 λw0 sc p o=>?_;have c:=n.len;refine go 2<|Zw (Zu 2) λb _=>Zw (Zr 3) λZ _=>go 7 ?_;refine cl 3 [1] (Yo ‹_›) λ_ _=>go 3 ?_;refine Fy 3 [] (Nb ‹_› ‹_› ‹_›) λ_ _=>go 15<|Zc J (λj=>?_) (λj=>?_)
 .refine go 2 ?_;refine dt (Xd [] J aA (λa w hs=>Yby))<|go 6 ?_;exact Na o () results403 (by rw [aF (l:=xs) O];rfl) aA Za
 .have M:xs≠[]:=λe=>by rw [e]at j;simp at j
  have a6:=Qv n.sz;have g:Sz 65536 [x,y]:=Sz.of_mem (by intro z V;simp at V;rcases V with rfl|rfl<;>assumption);have I:=Qv g;have a7:(xs.length-1)*Qs [x,y]<=24*65536:=aY O I;have f:((xs.length:Int)-1)*(Qs [x,y]:Int)=(((xs.length-1)*Qs [x,y]:Nat):Int):=by rw [dM];congr 1;omega
  refine go 3 ?_;refine jn (G:=Unit) [0,3,4] [0,1,2,3] (λ_=>[(37,.bool (decide ((65536:Int)<(Qs xs:Int)+((xs.length:Int)-1)*(Qs [x,y]:Int)+8)))]) (λ_=>[]) (λ_=>True) ?_ ?_
  .refine Zaw (λ_=>False) []<|Yn 7 [(0,0),(2,0),(3,0),(4,0),(5,0),(6,0),(7,0),(8,0)]<|go 9 ⟨O,?_⟩;refine Ib 6 1 9 ?_ ?_
   .refine Bm (Zm 3 [1] (Me (by first|exact n.sz|exact g))) λ_ _=>?_;refine Yn 0 [(9,1),(10,1),(11,0),(12,0),(13,0),(14,0)]<|Ec J (Xw [(0,_),(1,_)] 90 (enc:=wv) [x,y] J J K4 uT132 ti176 J J J J J pV.cells J J p.h) λv _=>Xs (Zm 3 [90] (Me (by first|exact n.sz|exact g))) λ_ _=>?_;refine go 5 ⟨by rw [f];exact⟨O,O⟩,by rw [f];exact⟨O,O⟩,by rw [f];exact⟨O,O⟩,?_⟩;exact Xp<|Kh () aA K1 aA
   .refine Gr J J (Xw [(0,_),(1,_)] 90 (enc:=wv) [x,y] J J K4 uT132 ti176 J J J J J pV.cells J J p.h) (λa9 _=>?_);refine Yn 0 [(1,1),(10,1),(11,0),(12,0),(13,0),(14,0)]<|Xs (Zm 3 [1] (Me (by first|exact n.sz|exact g))) λ_ _=>Xs (Zm 3 [90] (Me (by first|exact n.sz|exact g))) λ_ _=>?_;refine go 5 ⟨by rw [f];exact⟨O,O⟩,by rw [f];exact⟨O,O⟩,by rw [f];exact⟨O,O⟩,?_⟩;exact Xp<|Kh () aA K1 aA
  .rintro _ -;refine Zc J (λm=>?_) (λm=>?_)
   .have B:Nu xs x y:=⟨M,by rw [f]at m;omega⟩;refine go 2 ?_;refine dt (Xd [] J aA (λa w hs=>Yby))<|go 6 ?_;exact Na o () results403 (by unfold evv eve;rw [aG B,aG B]<;>rfl) aA Za
   .have i:Qs xs+(xs.length-1)*Qs [x,y]+8<=65536:=by rw [f]at m;omega
    refine go 4<|Zw (Zr 4) λH _=>go 2 ?_;refine jn (G:=Nat×Nat) [0,3,4,6] [0,1,2,3,4] (λq=>[(7,.pointer (some ⟨q.1,0,none⟩)),(8,.pointer (some ⟨q.2,0,none⟩))]) (λq=>[(97,box q.1 176 (wc (xs.getD (xs.length-1) 0))),(98,box q.2 176 (wc 1))]) (λq=>True) ?_ ?_
    .refine Zaw (λ_=>False) [9,10]<|Yn 5 [(0,0),(1,0),(2,0),(3,0),(4,0),(5,0)]<|go 4 ⟨O,?_⟩;refine Pe J J (Pz (Yu 1 (xs.length-1) J J J J Zh Qt Xz))<|go 2 ⟨O,?_⟩;refine a_br3 4 6 7 8 ?_ ?_ ?_
     .refine Bm (Zm 4 [] (Zt _ (by first|assumption|exact⟨O,O⟩))) λ_ _=>?_;refine Ib 3 7 8 ?_ ?_
      .refine Bm (Zr 97) λa0 _=>?_;refine Yn 0 [(8,1),(9,3),(10,3)]<|Xs (Zr 98) λa1 _=>go 3 ?_;exact Xp<|Kh (_,_) aA K2 K2
      .refine Bm (Zr 98) λa2 _=>?_;refine Yn 0 [(7,1),(9,3),(10,3)]<|Xs (Zr 97) λa3 _=>go 3 ?_;exact Xp<|Kh (_,_) aA K2 K2
     .refine Bm (Zr 97) λa4 _=>?_;refine Ib 3 6 8 ?_ ?_
      .refine Bm (Zm 4 [] (Zt _ (by first|assumption|exact⟨O,O⟩))) λ_ _=>?_;refine Yn 0 [(8,1),(9,3),(10,3)]<|Xs (Zr 98) λa5 _=>go 3 ?_;exact Xp<|Kh (_,_) aA K2 K2
      .refine Bm (Zr 98) λN _=>?_;refine Yn 0 [(6,1),(9,3),(10,3)]<|Xs (Zm 4 [] (Zt _ (by first|assumption|exact⟨O,O⟩))) λ_ _=>go 3 ?_;exact Xp<|Kh (_,_) aA K2 K2
     .refine Bm (Zr 98) λP _=>?_;refine Ib 3 6 7 ?_ ?_
      .refine Bm (Zm 4 [] (Zt _ (by first|assumption|exact⟨O,O⟩))) λ_ _=>?_;refine Yn 0 [(7,1),(9,3),(10,3)]<|Xs (Zr 97) λQ _=>go 3 ?_;exact Xp<|Kh (_,_) aA K2 K2
      .refine Bm (Zr 97) λR _=>?_;refine Yn 0 [(6,1),(9,3),(10,3)]<|Xs (Zm 4 [] (Zt _ (by first|assumption|exact⟨O,O⟩))) λ_ _=>go 3 ?_;exact Xp<|Kh (_,_) aA K2 K2
    .rintro⟨W,Y⟩ -;dsimp only;refine go 10 ⟨O,?_⟩;refine lp (G:=Nat) [0,3,4,6,7,8] [0,1,2,3,4] (λk=>[(9,.int .i64 ((k:Int)-1))]) (λk=>[(97,box W 176 (wc (My xs x y k))),(98,box Y 176 (wc (y^(xs.length-1-k))))]) (λk=>k<=xs.length-1) (λk=>k) (xs.length-1) O1 ⟨by rw [show((xs.length-1:Nat):Int)-1=(xs.length:Int)-2 by omega];rfl,aA⟩ ⟨by rw [Yee x y O];rfl,by rw [mV,dE];rfl,aA⟩ ?_;rintro k D;refine go 7<|Zc J (λr=>?_) (λr=>?_)
     .have d:y^(xs.length-1-k)*y=y^(xs.length-1-(k-1)):=Zyh y O D;have F:My xs x y k*x+xs.getD (k-1) 0*y^(xs.length-1-(k-1))=My xs x y (k-1):=Zv6 x y O D;refine go 9 ?_;refine tt (Qr 4 4 (Ba (Zlc i) hy (by rw [d];exact Zlc i)) J J J K3 call237 J O3 Yb J p.h aA) λ_ _=>go 3 ?_;refine Qg (λx=>x=H) [(0,0),(1,0),(2,0),(4,0),(5,0),(6,0),(7,0),(8,0),(3,1),(9,1),(10,1),(11,3)]<|go 5 ?_;refine Pe J J (st1 4 J (Yu 1 (k-1) J J J J Zh Qt Xz))<|go 2 ⟨O,?_⟩;refine Ec J (Qr 4 4 (Ba (by first|exact Zld i c _|exact n.sz.getD _) (by first|exact S|(rw [d];exact Zlc i)) (by first|exact Zqq i c O D|(rw [d];exact Zlb i))) J J J K3 call237 J O3 Yb J p.h J) (λ_ _=>?_);refine Ec J (Qr 4 4 (Ba (by first|exact Zld i c _|exact n.sz.getD _) (by first|exact S|(rw [d];exact Zlc i)) (by first|exact Zqq i c O D|(rw [d];exact Zlb i))) J J J K3 call237 J O3 Yb J p.h J) (λ_ _=>?_);refine Ec J (Qr 4 4 (Zqx (Zqq i c O D) (by rw [d];exact Zlb i) (by rw [d,F];exact Zld i c _)) J J J K3 call238 J O3 Yb J p.h J) (λ_ _=>?_);refine go 9 ⟨O,?_⟩;exact Xe (k-1) O1 O1 ⟨by rw [show((k-1:Nat):Int)-1=(k:Int)-1-1 by omega];rfl,aA⟩ ⟨by rw [d,F];rfl,by rw [d];rfl,aA⟩
     .refine go 14<|Zc J (λs=>?_) (λs=>?_)
      .exfalso;simp_all
      .refine go 10 ?_;obtain rfl:k=0:=O;have B:¬Nu xs x y:=λh=>by have:=h.2;omega
       exact Na o () results403 (by unfold evv eve;rw [aE B,aE B,<-Zn5]<;>rfl) aA Za
theorem Znf(e:Vp xs)(g:bl x.natAbs<=65536)(h:bl y.natAbs<=65536)(d:0<y):Yx prog 378 #[v,rX x y] [Ym 2 wv v xs] (.tuple #[.int .i64 (evv xs x y).sign,.int .i64 (eve xs x y)]):=by refine Zd func378 ntmps378 λk j i c=>?_;have a:=e.len;refine go 2<|Zw (Zu 2) λb _=>go 8 ?_;refine cl 2 [1] (Zvi e g h d) λ_ _=>go 3<|Zw (Zr 3) λf _=>go 7 ?_;refine cl 3 [] (Ly (evv_bl a)) λ_ _=>go 6 ?_;exact Na c () results378 J aA Za
theorem Aw(hs:Sz 65536 xs):Zel prog 239 #[.pointer (some ⟨bd,0,none⟩),v] [Ym 2 wv v xs] true bd 347 #[.int .i64 0] (G:=Unit) (λ_=>True) (λ_=> .tuple #[Nr v (tzl xs).length,.int .i64 0]) (λ_=>#[.int .i64 0]) (λ_=>[Ym 2 wv (Nr v (tzl xs).length) (tzl xs)]):=by
 refine Bc func239 J ntmps239 J K1 ?_;intro g f e d;have e:=Hw.mk e;simp only [Pa,Qc];refine go 17<|Zc J (λc=>?_) (λc=>?_)
 .exfalso;simp_all
 .refine go 5 ?_;refine cl 3 [2] (Zaj ‹_›) λ_ _=>go 5 ?_;exact Bp (.inl J) d () (λa w hs=>Zx7 hs results239 J J) J aA 1 J J J J (Zd9 3 J J J Za)
theorem Zt8(h:xs.length*24<=140737488355328:=by omega):Yfu prog 400 #[v] [Ym 2 wv v xs] (G:=Value) (λr=>True) (λr=>r) (λr=>Nl 2 176 wv r xs):=by
 refine Zuh func400 J ntmps400 J K1 ?_;intro k j e f;have e:=Hw.mk e;simp only [Pa,Qc];refine Oo (f_nil (i:=1) J Zh) λd=>go 9 ?_;refine dt (Zt1 J J J (i:=1) J Zh Qt)<|go 2 ?_;refine Ow J (λc=>?_) (λc=>?_)
 .refine go 7 ?_;obtain rfl:xs=[]:=d (by simpa using c);exact Xh (Ml 9 2 176 wv)<|Zjq (.inl J) (.slice none 0 0) (λa w hs=>Zd1 hs results400 J) J aA J 9 J J J
 .refine go 4 ?_;refine tt (t_bs0 2 (enc:=wv) J J J Qt pV J e.h) λv _=>go 1 ?_;refine tt (Ha 2 1 24 J J J J J J O3 J Zh Qt ti176 J pV J J J O9 O3 J e.h) λg _=>go 4 ?_;exact Zjq (.inl J) _ (λa w hs=>Zd1 hs results400 J) J aA J 2 J (by rfl) J
theorem Zev(d:Vp xs):Yx prog 396 #[v] [Ym 2 wv v xs] (.tuple #[.int .i64 ((xs.length:Int)-1),.int .i64 0]):=by refine Zd func396 ntmps396 λg f e a=>?_;have c:=d.len;refine go 10 ?_;refine cl 1 [1] (Yo ‹_›) λ_ _=>?_;refine go 16 ⟨O,?_⟩;exact Na a () results396 J aA Za
theorem Zi6(c:Vp xs):Yx prog 397 #[v] [Ym 2 wv v xs] (.tuple #[.int .i64 (Qs xs:Int),.int .i64 0]):=by refine Zd func397 ntmps397 λf e d a=>go 10 ?_;refine cl 1 [1] (Yo ‹_›) λ_ _=>go 9 ?_;refine cl 1 [1] (Me c.sz) λ_ _=>go 5 ?_;exact Na a () results397 J aA Za
theorem Zo0(n:Vp xs)(m:Vp ys)(o:∀i,bl (cf xs i+cf ys i).natAbs<=65536):Zel prog 329 #[v,u,.pointer (some ⟨bd,0,none⟩),.func (.func 238) #[.pointer (some ⟨bd,0,none⟩)] #[]] [Ym 2 wv v xs,Ym 2 wv u ys] true bd 347 #[.int .i64 0] (G:=Value) (λr=>True) (λr=> .tuple #[r,.int .i64 0]) (λr=>#[.int .i64 0]) (λr=>[Ym 2 wv r (Hf xs ys)]):=by
 refine Bc func329 J ntmps329 J K2 ?_;intro B z c j;have c:=Hw.mk c;simp only [Pa,Qc];have l:=n.len;have h:=m.len;refine go 10 ?_;refine cl 3 [2] (Yo ‹_›) λ_ _=>go 3 ?_;refine Fy 3 [3] (Yo ‹_›) λ_ _=>go 13 ?_;refine dt (Zjl J J J)<|tt (Gd 4 (max xs.length ys.length) 24 (enc:=wv) 0 J J J J Qt ti176 J pV.cells pV.pos J J J c.h) λv _=>go 12 ?_;refine lp (G:=Nat) [0,1,2,3,10,29] [0,1,2,3] (λk=>[(30,.int .i64 (k:Int))]) (λk=>[(4,Nl 2 176 wv v (fill (max xs.length ys.length) k (λi=>cf xs i+cf ys i)))]) (λk=>k<=max xs.length ys.length) (λk=>max xs.length ys.length-k) 0 O1 K1 ⟨by rw [Fg (max xs.length ys.length) (λi=>cf xs i+cf ys i)];rfl,aA⟩ ?_;rintro k s;have q:(fill (max xs.length ys.length) k (λi=>cf xs i+cf ys i)).length=max xs.length ys.length:=Xx _ _ _;refine go 6<|Zc J (λd=>?_) (λd=>?_)
 .try rw [aW]at *
  refine go 12<|Zw (Zr 5) λb _=>Zw (Zr 6) λg _=>go 2 ?_;refine jn (G:=Unit) [0,1,2,3,10,11,12,13,29,30] [0,4,1,2,3,6] (λ_=>[]) (λ_=>[(5,box b 176 (wc (cf xs k)))]) (λ_=>True) ?_ ?_
  .refine go 8<|Zc J (λe=>?_) (λe=>?_)
   .refine go 7 ⟨O2,O2,?_⟩;exact Kh () aA aA ⟨by first|rfl|(rw [Zv (p:=xs) O];rfl),aA⟩
   .refine go 1 ?_;exact Kh () aA aA ⟨by first|rfl|(rw [Zv (p:=xs) O];rfl),aA⟩
  .rintro _ -;refine jn (G:=Unit) [0,1,2,3,10,11,12,13,29,30] [0,5,4,1,2,3] (λ_=>[]) (λ_=>[(6,box g 176 (wc (cf ys k)))]) (λ_=>True) ?_ ?_
   .refine go 8<|Zc J (λf=>?_) (λf=>?_)
    .refine go 7 ⟨O2,O2,?_⟩;exact Kh () aA aA ⟨by first|rfl|(rw [Zv (p:=ys) O];rfl),aA⟩
    .refine go 1 ?_;exact Kh () aA aA ⟨by first|rfl|(rw [Zv (p:=ys) O];rfl),aA⟩
   .rintro _ -;refine go 6 ?_;refine tt (Zml 6 1 [_] [_,_] (Zqx (n.sz _) (m.sz _) (o _)) J J J J K2 call238 J O3 Yb J c.h aA) (λ_ _=>?_);refine dt (Yu 4 k J J J J (Xc pV) Qt Xz J (by rw [Xx];omega))<|tt (Lb 4 (enc:=wv) J J J J J J pV J c.h O3 (by rw [Xx];omega)) (λ_ _=>?_);refine go 7 ⟨O,?_⟩;exact Xe (k+1) O1 O1 K1 ⟨by rw [<-Ar O];rfl,aA⟩
 .try rw [aW]at *
  refine go 6 ?_;obtain rfl:k=max xs.length ys.length:=O;refine Zg (Pd 4 J J pV)<|go 3 ?_;refine tt (Qr 7 1 (Aw (by rw [Ir];exact Zcz λi _=>o i)) J J J K2 call239 J O3 (Zn 4 J J J Yb) J c.h aA) λ_ _=>go 7 ?_;exact Bp (.inl J) j _ (λa w hs=>Zx7 hs results329 J J) J aA 1 J J J J (Zhf 7 J J J (by rw [Ir]<;>rfl) Za)
theorem Zoz(n:Vp xs)(m:Vp ys)(o:∀i,bl (cf xs i-cf ys i).natAbs<=65536):Zel prog 329 #[v,u,.pointer (some ⟨bd,0,none⟩),.func (.func 330) #[.pointer (some ⟨bd,0,none⟩)] #[]] [Ym 2 wv v xs,Ym 2 wv u ys] true bd 347 #[.int .i64 0] (G:=Value) (λr=>True) (λr=> .tuple #[r,.int .i64 0]) (λr=>#[.int .i64 0]) (λr=>[Ym 2 wv r (Gw xs ys)]):=by
 refine Bc func329 J ntmps329 J K2 ?_;intro B z c j;have c:=Hw.mk c;simp only [Pa,Qc];have l:=n.len;have h:=m.len;refine go 10 ?_;refine cl 3 [2] (Yo ‹_›) λ_ _=>go 3 ?_;refine Fy 3 [3] (Yo ‹_›) λ_ _=>go 13 ?_;refine dt (Zjl J J J)<|tt (Gd 4 (max xs.length ys.length) 24 (enc:=wv) 0 J J J J Qt ti176 J pV.cells pV.pos J J J c.h) λv _=>go 12 ?_;refine lp (G:=Nat) [0,1,2,3,10,29] [0,1,2,3] (λk=>[(30,.int .i64 (k:Int))]) (λk=>[(4,Nl 2 176 wv v (fill (max xs.length ys.length) k (λi=>cf xs i-cf ys i)))]) (λk=>k<=max xs.length ys.length) (λk=>max xs.length ys.length-k) 0 O1 K1 ⟨by rw [Fg (max xs.length ys.length) (λi=>cf xs i-cf ys i)];rfl,aA⟩ ?_;rintro k s;have q:(fill (max xs.length ys.length) k (λi=>cf xs i-cf ys i)).length=max xs.length ys.length:=Xx _ _ _;refine go 6<|Zc J (λd=>?_) (λd=>?_)
 .try rw [aW]at *
  refine go 12<|Zw (Zr 5) λb _=>Zw (Zr 6) λg _=>go 2 ?_;refine jn (G:=Unit) [0,1,2,3,10,11,12,13,29,30] [0,4,1,2,3,6] (λ_=>[]) (λ_=>[(5,box b 176 (wc (cf xs k)))]) (λ_=>True) ?_ ?_
  .refine go 8<|Zc J (λe=>?_) (λe=>?_)
   .refine go 7 ⟨O2,O2,?_⟩;exact Kh () aA aA ⟨by first|rfl|(rw [Zv (p:=xs) O];rfl),aA⟩
   .refine go 1 ?_;exact Kh () aA aA ⟨by first|rfl|(rw [Zv (p:=xs) O];rfl),aA⟩
  .rintro _ -;refine jn (G:=Unit) [0,1,2,3,10,11,12,13,29,30] [0,5,4,1,2,3] (λ_=>[]) (λ_=>[(6,box g 176 (wc (cf ys k)))]) (λ_=>True) ?_ ?_
   .refine go 8<|Zc J (λf=>?_) (λf=>?_)
    .refine go 7 ⟨O2,O2,?_⟩;exact Kh () aA aA ⟨by first|rfl|(rw [Zv (p:=ys) O];rfl),aA⟩
    .refine go 1 ?_;exact Kh () aA aA ⟨by first|rfl|(rw [Zv (p:=ys) O];rfl),aA⟩
   .rintro _ -;refine go 6 ?_;refine tt (Zml 6 1 [_] [_,_] (Zqw (n.sz _) (m.sz _) (o _)) J J J J K2 call330 J O3 Yb J c.h aA) (λ_ _=>?_);refine dt (Yu 4 k J J J J (Xc pV) Qt Xz J (by rw [Xx];omega))<|tt (Lb 4 (enc:=wv) J J J J J J pV J c.h O3 (by rw [Xx];omega)) (λ_ _=>?_);refine go 7 ⟨O,?_⟩;exact Xe (k+1) O1 O1 K1 ⟨by rw [<-Ar O];rfl,aA⟩
 .try rw [aW]at *
  refine go 6 ?_;obtain rfl:k=max xs.length ys.length:=O;refine Zg (Pd 4 J J pV)<|go 3 ?_;refine tt (Qr 7 1 (Aw (by rw [Ir];exact Zcz λi _=>o i)) J J J K2 call239 J O3 (Zn 4 J J J Yb) J c.h aA) λ_ _=>go 7 ?_;exact Bp (.inl J) j _ (λa w hs=>Zx7 hs results329 J J) J aA 1 J J J J (Zhf 7 J J J (by rw [Ir]<;>rfl) Za)
theorem Zyj(xs ys:List Int)(e:Vp xs)(d:Vp ys)(f:∀i,bl (cf xs i+cf ys i).natAbs<=65536):Cal prog 280 #[v,u] [Ym 2 wv v xs,Ym 2 wv u ys] true (G:=Value) (λr=>True) (λr=> .tuple #[r,.int .i64 0]) (λr=>[Ym 2 wv r (Hf xs ys)]):=by refine Zd func280 ntmps280 λh g c a=>go 8 ?_;refine Zw (Zr 3) λb _=>go 6 ?_;refine dt (Ztw [_] J K1)<|tt (Qr 4 3 (Zo0 ‹_› ‹_› ‹_›) J J J K4 call329 J O3 (Zn 1 J J J (Zn 2 J J J Yb)) J c.h aA) λ_ _=>go 7 ?_;exact Na a _ results280 J aA (Nz 4 Za)
theorem Zyi(xs ys:List Int)(e:Vp xs)(d:Vp ys)(f:∀i,bl (cf xs i-cf ys i).natAbs<=65536):Cal prog 281 #[v,u] [Ym 2 wv v xs,Ym 2 wv u ys] true (G:=Value) (λr=>True) (λr=> .tuple #[r,.int .i64 0]) (λr=>[Ym 2 wv r (Gw xs ys)]):=by refine Zd func281 ntmps281 λh g c a=>go 8 ?_;refine Zw (Zr 3) λb _=>go 6 ?_;refine dt (Ztw [_] J K1)<|tt (Qr 4 3 (Zoz ‹_› ‹_› ‹_›) J J J K4 call329 J O3 (Zn 1 J J J (Zn 2 J J J Yb)) J c.h aA) λ_ _=>go 7 ?_;exact Na a _ results281 J aA (Nz 4 Za)
theorem Zgo(xs ys:List Int)(B:Vp xs)(z:Vp ys)(M:¬Gy xs ys):Cal prog 279 #[v,u] [Ym 2 wv v xs,Ym 2 wv u ys] true (G:=Value) (λr=>True) (λr=> .tuple #[r,.int .i64 0]) (λr=>[Ym 2 wv r (Yy xs ys)]):=by
 refine Zd func279 ntmps279 λw0 sc D f=>?_;have N:=B.len;have I:=z.len;have V:=Qv B.sz;have W:=Qv z.sz;refine go 10 ?_;refine cl 2 [1] (Yo ‹_›) λ_ _=>go 3 ?_;refine Fy 2 [2] (Yo ‹_›) λ_ _=>go 14<|Yq 23 J (λF=>?_) (λF=>?_)
 .refine go 15 ?_;exact Na f _ results279 J aA (Kg (Zcr (p:=xs) (q:=ys) (by first|(left;omega)|(right;omega))) Za)
 .refine go 6<|Zc J (λg=>?_) (λg=>?_)
  .refine go 8 ?_;exact Na f _ results279 J aA (Kg (Zcr (p:=xs) (q:=ys) (by first|(left;omega)|(right;omega))) Za)
  .have c:xs≠[]:=by intro e;subst e;simp_all
   have d:ys≠[]:=by intro e;subst e;simp_all
   have R:0<xs.length:=aD.2 c;have S:0<ys.length:=aD.2 d;refine go 13 ⟨O,O,?_⟩;refine Yq 35 J (λH=>?_) (λH=>?_)
   .exfalso;exact M ⟨c,d,.inl O⟩
   .refine go 1 ?_;refine Fy 2 [1] (Me (by first|exact B.sz|exact z.sz)) λ_ _=>go 1 ?_;refine Fy 2 [2] (Me (by first|exact B.sz|exact z.sz)) λ_ _=>?_;refine go 6 ⟨O,O,?_⟩;refine Zc J (λk=>?_) (λk=>?_)
    .exfalso;exact M ⟨c,d,by first|(left;omega)|(right;omega)⟩
    .have Y:Qs xs+Qs ys+5<=65536:=O;have s:∀i j,bl (cf xs i*cf ys j).natAbs<=65536:=λi j=>by have:=Xb (cf xs i) (cf ys j);have:=Lm xs i;have:=Lm ys j;omega
     have n:∀i j t,i<25->bl (Ca xs ys i j t).natAbs<=65536:=λi j t hi=>by have:=Yfm (i:=i) (j:=j) (t:=t) (Lm xs) (Lm ys) O;omega
     have o:∀t,bl (acc xs ys xs.length t).natAbs<=65536:=λt=>by have:=bl_acc (i:=xs.length) (t:=t) (Lm xs) (Lm ys) O;omega
     have w:∀i j,i<25->bl (Ca xs ys i j (i+j)+cf xs i*cf ys j).natAbs<=65536:=λi j hi=>by rw [<-Zwl];exact n i (j+1) _ hi
     refine go 4<|Zw (Zr 3) λb _=>?_;refine go 10 ⟨O,O,?_⟩;refine tt (Gd 4 (xs.length+ys.length-1) 24 (enc:=wv) 0 J J J J Qt ti176 J pV.cells pV.pos J J J D.h) λv _=>go 12 ?_;refine lp (G:=Nat) [1,6,7,51,52] [0,1,2,3] (λi=>[(53,.int .i64 (i:Int))]) (λi=>[(4,Nl 2 176 wv v (mk (xs.length+ys.length-1) (acc xs ys i)))]) (λi=>i<=xs.length) (λi=>xs.length-i) 0 O1 K1 ⟨by rw [Zx9];rfl,aA⟩ ?_;rintro i hi;refine go 6<|Zc J (λl=>?_) (λl=>?_)
     .refine go 9 ⟨O2,O2,?_⟩;refine Zw (Zr 5) λP _=>go 12 ?_;refine lp (G:=Nat) [1,6,7,8,9,51,52,53,58,59] [0,1,2,3,5] (λj=>[(60,.int .i64 (j:Int))]) (λj=>[(4,Nl 2 176 wv v (mk (xs.length+ys.length-1) (Ca xs ys i j)))]) (λj=>j<=ys.length) (λj=>ys.length-j) 0 O1 K1 ⟨by rw [Zwk];rfl,aA⟩ ?_;rintro j Z;have a:i+j<xs.length+ys.length-1->(mk (xs.length+ys.length-1) (Ca xs ys i j)).getD (i+j) 0=Ca xs ys i j (i+j):=λh=>Zfo h;refine go 6<|Zc J (λm=>?_) (λm=>?_)
      .refine go 9 ⟨O2,O2,?_⟩;refine Zw (Zr 6) λQ _=>go 4<|Qg (λx=>x=b) [(0,0),(1,0),(2,0),(3,0),(4,0),(5,0),(6,0),(7,0),(8,0),(9,0),(10,0),(11,0),(12,1),(13,1),(14,0),(15,3)]<|go 8 ⟨O,O,?_⟩;refine Pe J J (st1 3 J (Yu 4 (i+j) J J J J (Xc pV) Qt Xz O (by rw [Ye];omega)))<|go 3 ⟨by rw [Ye];omega,?_⟩;refine Ec J (Qr 6 3 (Ba (B.sz _) (z.sz _) (s i j)) J J J K3 call237 J O3 Yb J D.h J) (λ_ _=>?_);refine Ec J (Qr 6 3 (Zqx (by rw [a O];exact n i j _ O) (s i j) (by rw [a O];exact w i j O)) J J J K3 call238 J O3 Yb J D.h J) (λ_ _=>?_);refine Pe J J (st1 3 J (Yu 4 (i+j) J J J J (Xc pV) Qt Xz O (by rw [Ye];omega)))<|r3' J (Lb 4 (enc:=wv) J J J J J J pV J D.h O3 (by rw [Ye];omega)) (λ_ _=>?_);refine go 7 ⟨O,?_⟩;exact Xe (j+1) O1 O1 K1 ⟨by rw [<-Yb4 O,<-a O];rfl,aA⟩
      .refine go 10 ⟨O,?_⟩;obtain rfl:j=ys.length:=O;exact Xe (i+1) O1 O1 K1 ⟨by rw [<-Yb5];rfl,aA⟩
     .refine go 6 ?_;obtain rfl:i=xs.length:=O;refine Zg (Pd 4 J J pV)<|go 2 ?_;refine tt (Qr 7 3 (Aw (Zcz λt _=>o t)) J J J K2 call239 J O3 (Zn 4 J J J Yb) J D.h aA) λ_ _=>go 7 ?_;exact Na f _ results279 J aA (Nz 7 Za (by rw [Zyl]<;>rfl))
end Go.Sky

