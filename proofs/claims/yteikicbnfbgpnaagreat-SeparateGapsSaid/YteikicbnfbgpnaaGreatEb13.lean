/- Rules, arithmetic and contracts: part 14. No conditions but those that each theorem names. -/
import Derived.Test.YteikicbnfbgpnaaGreatEb12
set_option linter.all false
set_option maxHeartbeats 4000000
namespace Go.Sky
variable{m i:Nat}{x y z c l1 l2 l3:List Int}{d d0:SL×List Int}{a ov:Int}{b v u:Value}{f:Nat->Value}{zs:List (SL×List Int)}{s:SL}{M M0:Nat->Prop}
def joG(g h:Zj):Bool:=joinB g.1.1 g.1.2.1 g.1.2.2 g.2.1.2 g.2.2.1.2 g.2.2.2.2 h.1.1 h.1.2.1 h.1.2.2 h.2.1.2 h.2.2.1.2 h.2.2.2.2
def joAll(ps:List Zj):Bool:=(List.range ps.length).all λi=>decide (i=0) || joG (ps.getD (i-1) G0) (ps.getD i G0)
def topV(ps:List Zj):Int×Int×Int:=
 if 10000<Ylv 1 ps\/10000<Ylv 2 ps then(0,0,3)else if joAll ps then((Ylv 1 ps:Int),(Ylv 2 ps:Int),0)else(0,0,10)
theorem Zpq{ps:List Zj}(l:∀g∈ps,Gin g)(k:Xn ps=true):∀g∈ps,SgG g:=λg j=>by obtain⟨i,hi,e⟩:=List.mem_iff_getElem.1 j;have h:=Fz ((On k).1 i hi);rw [List.getD_eq_getElem?_getD,List.getElem?_eq_getElem hi,Option.getD_some,e]at h;exact My (l g j) h
def g8(g:Zj):Bool:=decide (g.2.1.2.length<=8) && decide (g.2.2.1.2.length<=8) && decide (g.2.2.2.2.length<=8)
def Zcx(ps:List Zj)(m:Nat):Bool:=(List.range ps.length).all (λi=>decide (m<i) || g8 (ps.getD i G0)) && decide (ps.length<=m)
theorem g8_t{g:Zj}(e:g.2.1.2.length<=8)(h:g.2.2.1.2.length<=8)(j:g.2.2.2.2.length<=8):g8 g=true:=by unfold g8;rw [decide_eq_true e,decide_eq_true h,decide_eq_true j];rfl
theorem g8_f{g:Zj}(h:¬(g.2.1.2.length<=8/\g.2.2.1.2.length<=8/\g.2.2.2.2.length<=8)):g8 g=false:=by
 cases hb:g8 g with
 | false=>rfl
 | true=>
  unfold g8 at hb;simp only [Bool.and_eq_true,decide_eq_true_eq]at hb;exact absurd ⟨hb.1.1,hb.1.2,hb.2⟩ h
theorem Zw8{ps:List Zj}(hi:i<ps.length)(e:i<=m)(h:g8 (ps.getD i G0)=false):Zcx ps m=false:=by
 cases hb:Zcx ps m with
 | false=>rfl
 | true=>
  unfold Zcx at hb;rw [Bool.and_eq_true]at hb;have:=List.all_eq_true.1 hb.1 i (List.mem_range.2 hi);rw [h,decide_eq_false O]at this;cases this
theorem Yit{ps:List Zj}{n:Nat}(e:n=ps.length\/m<n)(h:∀k,k<n->g8 (ps.getD k G0)=true):Zcx ps m=decide (ps.length<=m):=by
 unfold Zcx;rw [List.all_eq_true.2 λi hi=>by
  have hi:=List.mem_range.1 hi;rcases Nat.lt_or_ge m i with q|q
  .rw [decide_eq_true q];rfl
  .rw [h i O,Bool.or_true]]
 rfl
theorem Yo9:∀n,n<=5->∀i,i<n->(Oi n i:Int)*((n:Int)-(i:Int))/((i:Int)+1)=(Oi n (i+1):Int):=by intro n g i hi;have e:∀n,n<6->∀i,i<n->(Oi n i:Int)*((n:Int)-(i:Int))/((i:Int)+1)=(Oi n (i+1):Int):=O6;exact e n O i hi
theorem getD3{α:Type}{a b c d:α}(h:i<3):[a,b,c].getD i d=Zo i a b c:=by
 match i,h with
 | 0,_=>rfl
 | 1,_=>rfl
 | 2,_=>rfl
theorem Yfg{α β:Type}(i:Nat)(a b c:α×β):(Zo i a b c).2=Zo i a.2 b.2 c.2:=by unfold Zo;split<;>rfl
theorem Zgy{e g j:SL}(h:i<3):([(e,x),(g,y),(j,z)].getD i d).2=Zo i x y z:=by rw [getD3 h,Yfg]
theorem Zv8{b:Int} : 0<(a-b).sign↔b<a:=by rw [sgp];omega
theorem Ye8{b:Int} : (a-b).sign<0↔a<b:=by rw [Oc];omega
def You(t m:Int):m<t\/(¬m<t/\t < -m)\/(¬m<t/\¬t < -m):=O
def axc(c:List Int):Bool:=!(decide (1<=c.length) && decide (c.length<=6) && !(decide (1<c.length) && decide (c.getD (c.length-1) 0=0)))
theorem axc_f{b:Bool}(h:b=axc c)(e:b=false):1<=c.length/\c.length<=6/\¬(1<c.length/\c.getD (c.length-1) 0=0):=by subst h;unfold axc at e;simp only [Bool.not_eq_false',Bool.and_eq_true,Bool.not_eq_true',Bool.and_eq_false_iff,decide_eq_true_eq,decide_eq_false_iff_not]at e;exact⟨e.1.1,e.1.2,λh=>by rcases e.2 with q|q;exact q h.1;exact q h.2⟩
theorem axc_t{b:Bool}(h:b=axc c)(e:b=true):axB c ov=false:=by
 cases ha:axB c ov with
 | false=>rfl
 | true=>
  exfalso;unfold axB at ha;rw [Bool.and_eq_true]at ha;have:axc c=false:=by unfold axc;rw [ha.1];rfl
  rw [h,this]at e;cases e
theorem Ybn(h:¬1<=c.length):true=axc c:=by unfold axc;rw [decide_eq_false h];rfl
theorem Ybm(h:¬c.length<=6):true=axc c:=by unfold axc;rw [decide_eq_false h,Bool.and_false];rfl
theorem Ybl(e:1<=c.length)(g:c.length<=6)(h:¬1<c.length):false=axc c:=by unfold axc;rw [decide_eq_true e,decide_eq_true g,decide_eq_false h];rfl
theorem Ybk(e:1<=c.length)(g:c.length<=6)(h:1<c.length):decide (c.getD (c.length-1) 0=0)=axc c:=by unfold axc;rw [decide_eq_true e,decide_eq_true g,decide_eq_true h];simp
theorem Ypt(h:bl ov.natAbs<=64):bl (62914560*ov).natAbs<=100:=by have e:=Xa 62914560 ov;have g:bl (62914560:Int).natAbs<=30:=O2;omega
variable {P:Program} {N:Nat} {sc:Nat->Prop} {env env':Ph} {H H':Hp}
def Hi(c:List Int)(g:Int):List Int:=if c.length=0 then [0]else c.map (· / g)
def mdO(ov g:Int):Int:=if ov/g<=4294967296 then ov/g else 0
def mdL(ov g:Int)(c:List Int):List Int:=if ov/g<=4294967296 then Hi c g else []
def Ke(ov:Int)(x y z:List Int):Int:=Np ov (Nw 3 x y z)
structure Mdh (ov:Int) (x y z:List Int):Prop where
 o:0<ov
 b:bl ov.natAbs<=1000
 s:∀i,Sz 1000 (Zo i x y z)
 l:∀i,(Zo i x y z).length<=6
 c:∀i k,(cf (Zo i x y z) k).natAbs<=ov.natAbs*2146435072
def Zgc:∀(l:List Int) (g:Int),0<=g->0<=Np g l
 | [],_,h=>h
 | x::l,g,h=>Zgc l _ (Int.natCast_nonneg _)
theorem Zz8:∀(l:List Int) (g:Int),Np g l∣g/\∀x∈l,Np g l∣x
 | [],g=>⟨Int.dvd_refl _,λx h=>nomatch h⟩
 | x::l,g=>by
  obtain⟨j,k⟩:=Zz8 l ((Int.gcd g x:Nat):Int);exact⟨Int.dvd_trans j (Int.gcd_dvd_left ..),λy e=>by
   rcases List.mem_cons.1 e with rfl|e
   .exact Int.dvd_trans j (Int.gcd_dvd_right ..)
   .exact k y e⟩
theorem Zww(hi:i<3)(h:a∈Zo i x y z):a∈Nw 3 x y z:=by
 match i,hi with
 | 0,_=>exact List.mem_append.2 (.inl (List.mem_append.2 (.inl h)))
 | 1,_=>exact List.mem_append.2 (.inl (List.mem_append.2 (.inr h)))
 | 2,_=>exact List.mem_append.2 (.inr h)
theorem Mdh.g(h:Mdh ov x y z):0<Ke ov x y z/\Ke ov x y z∣ov/\∀i,i<3->∀a∈Zo i x y z,Ke ov x y z∣a:=by
 obtain⟨e,g⟩:=Zz8 (Nw 3 x y z) ov;have j:=Zgc (Nw 3 x y z) ov (Int.le_of_lt h.o);have l:=h.o;refine⟨?_,e,λi hi a k=>g a (Zww hi k)⟩;rcases Int.lt_or_eq_of_le j with q|q
 .exact q
 .exact absurd (Int.zero_dvd.1 (q▸e)) O
theorem Mdh.fc(h:Mdh ov x y z)(i k:Nat):bl (Np (Np ov (Nw i x y z)) ((Zo i x y z).take k)).natAbs<=1000:=by
 have l:∀i,∀a∈Zo i x y z,bl a.natAbs<=1000:=λi a e=>by obtain⟨j,r⟩:=List.mem_iff_getElem?.1 e;have:=h.s i j;unfold cf at this;rw [List.getD_eq_getElem?_getD,r]at this;exact this
 have p:∀a∈Nw i x y z,bl a.natAbs<=1000:=λa e=>by
  unfold Nw at e;have g:=l 0;have n:=l 1;have o:=l 2;simp only [Zo]at g n o;split at e
  .cases e
  .exact g a e
  .rcases List.mem_append.1 e with q|q
   .exact g a q
   .exact n a q
  .rcases List.mem_append.1 e with q|q
   .rcases List.mem_append.1 q with q|q
    .exact g a q
    .exact n a q
   .exact o a q
 exact Zgu (λa e=>l i a (List.mem_of_mem_take e)) (Zgu p h.b)
theorem Mdh.fit(h:Mdh ov x y z)(hs:ov/Ke ov x y z<=4294967296)(hi:i<3)(k:Nat):((Zo i x y z).getD k 0/Ke ov x y z).natAbs<=9223372036854775807:=by
 obtain⟨n,⟨s,e⟩,o⟩:=h.g;have w:Ke ov x y z∣(Zo i x y z).getD k 0:=by
  rcases Nat.lt_or_ge k (Zo i x y z).length with q|q
  .exact o i hi _ (Ze (d:=0) q)
  .rw [List.getD_eq_getElem?_getD,List.getElem?_eq_none q];exact Int.dvd_zero _
 obtain⟨t,l⟩:=w;have j:((Zo i x y z).getD k 0).natAbs<=ov.natAbs*2146435072:=h.c i k;generalize Ke ov x y z=g at *;rw [l,Int.mul_ediv_cancel_left _ O];rw [e,Int.mul_ediv_cancel_left _ O]at hs;rw [l,e,Int.natAbs_mul,Int.natAbs_mul,Nat.mul_assoc]at j;have r:=Nat.le_of_mul_le_mul_left j O;have B:=h.o;have D:0<s:=by
  rw [e]at B;by_cases q:0<s
  .exact q
  .have:=Int.mul_nonpos_of_nonneg_of_nonpos (Int.le_of_lt n) (show s<=0 by omega);omega
 have p:s.natAbs*2146435072<=4294967296*2146435072:=Nat.mul_le_mul_right _ O;exact Nat.le_trans r (Nat.le_trans p O2)
def mdO_t{g:Int}(h:ov/g<=4294967296):mdO ov g=ov/g:=if_pos h
def Zf7{g:Int}(h:ov/g<=4294967296):mdL ov g c=Hi c g:=if_pos h
def mdO_f{g:Int}(h:¬ov/g<=4294967296):mdO ov g=0:=if_neg h
def Yhq{g:Int}(h:¬ov/g<=4294967296):mdL ov g c=[]:=if_neg h
def dvL_0{g:Int}(h:c.length=0):Hi c g=[0]:=if_pos h
def dvL_n{g:Int}(h:c.length≠0):Hi c g=c.map (· / g):=if_neg h
theorem Zt3{g:Int}{k:Nat}(h:k<c.length):(c.take k).map (· / g) ++ [c.getD k 0/g]=(c.take (k+1)).map (· / g):=by rw [Ps 0 _ _ h,List.map_append];rfl
abbrev C6 (a b c:Value) (f:Nat->Value):Array Value:=#[a,b,c,f 0,f 1,f 2]
def upd(f:Nat->Value)(i:Nat)(v:Value)(j:Nat):Value:=if j=i then v else f j
theorem c6_get{a c:Value}(h:i<3):(C6 a b c f)[3+i]? = some (f i):=by
 match i,h with
 | 0,_=>rfl
 | 1,_=>rfl
 | 2,_=>rfl
theorem Ykg{a c:Value}(h:i<3):(C6 a b c (upd f i v))[3+i]? = some v:=by rw [c6_get h];unfold upd;rw [if_pos rfl]
theorem c6_lay{a c:Value}(h:i<3):Fl (C6 a b c (upd f i u)) (3+i) [v]=C6 a b c (upd f i v):=by
 match i,h with
 | 0,_=>rfl
 | 1,_=>rfl
 | 2,_=>rfl
theorem Zxv{a c:Value}{g:Nat->Value}(h:∀j,j<3->f j=g j):C6 a b c f=C6 a b c g:=by unfold C6;rw [h 0 O2,h 1 O2,h 2 O2]
theorem p3_sel{b:Nat}(h:i<3):Zo i (Value.pointer (some ⟨b,3,none⟩)) (Value.pointer (some ⟨b,4,none⟩)) (Value.pointer (some ⟨b,5,none⟩))= .pointer (some ⟨b,3+i,none⟩):=by
 match i,h with
 | 0,_=>rfl
 | 1,_=>rfl
 | 2,_=>rfl
theorem c3_get{a c:Value}(h:i<3):(#[a,b,c]:Array Value)[0+i*1]? = some (Zo i a b c):=by
 match i,h with
 | 0,_=>rfl
 | 1,_=>rfl
 | 2,_=>rfl
def fz(zs:List (SL×List Int))(j:Nat):Value:=Xi (zs.getD j ((none,0,0),[])).1
theorem fz_upd(h:zs.length=i)(j:Nat):fz zs j=upd (fz zs) i (.slice none 0 0) j:=by
 unfold upd;split
 .rename_i e;subst e;subst h;unfold fz;rw [List.getD_eq_getElem?_getD,List.getElem?_eq_none (Nat.le_refl _)];rfl
 .rfl
theorem Yaa(h:zs.length=i)(j:Nat):upd (fz zs) i (Xi s) j=fz (zs ++ [(s,c)]) j:=by
 subst h;unfold upd fz;split
 .rename_i e;subst e;simp
 .rename_i e;rw [List.getD_eq_getElem?_getD,List.getD_eq_getElem?_getD];rcases Nat.lt_or_ge j zs.length with q|q
  .rw [List.getElem?_append_left q]
  .rw [List.getElem?_eq_none q,List.getElem?_eq_none O8]
def Zf6{t:Nat}{f:Nat->List Int}(g:zs.length=i)(h:∀t,t<i->(zs.getD t d0).2=f t)(e:c=f i)(j:t<i+1):((zs ++ [(s,c)]).getD t d0).2=f t:=e▸Zvh g h j
theorem Yhp{g:Int}(l:zs.length=3)(h:∀t,t<3->(zs.getD t d0).2=Hi (Zo t x y z) g):∃n o p:SL,zs=[(n,Hi x g),(o,Hi y g),(p,Hi z g)]:=by
 match zs,l with
 | [q,r,w],_=>
  have e:=h 0 O2;have j:=h 1 O2;have k:=h 2 O2;simp [Zo]at e j k;exact⟨q.1,r.1,w.1,by rw [<-e,<-j,<-k]⟩
theorem Ye9{b:Int} : 0<(a-b).sign↔¬a<=b:=by rw [sgp];omega
theorem t_st6  {o:Oper} {x y:Operand} {t k:TypeId} {b n:Nat} {g h j:Value}   {w0:World}  (I:o.op= .store t x y) (B:o.dst=none)
  (R:ev env x=some (.pointer (some ⟨b,3+n,none⟩))) (S:ev env y=some v) (q:lk H i=some (box b k (C6 g h j (upd f n u)))) (e:i≠0) (D:∀w,(sizeOf t).run P w= .ok 1 w) (F:n<3) (p:One N sc env H v)
  (l:lk H 0=some (Yo w0 M0)) (Q:∀b,w0.heap.size<=b->sc b) (r:M b) :
  T P N sc M o env H (G:=Unit) (λ_=>True) (λ_=>env) (λ_=>(i,box b k (C6 g h j (upd f n v)))::H):=by
 have:=t_stp1 (P:=P) (N:=N) (sc:=sc) (M:=M) I B R S q e D (by show Nat.ble (3+n+1) 6=true;simp;omega) p l Q r;rw [c6_lay F]at this;exact this
theorem bl_dlq{b:Int}{n:Nat}(h:bl a.natAbs<=n)(g:0<b)(e:0<=a):bl (a/b).natAbs<=n:=(Qg n _).2 (Nat.lt_of_le_of_lt (by have j:=Int.ediv_le_self b e;have k:=Int.ediv_nonneg e (Int.le_of_lt g);omega) ((Qg n _).1 h))
theorem Yij{n:Nat}(h:∀z∈zs,∀b,(Xi z.1).ownBlock=some b->n<=b)(e:∀b,(Xi s).ownBlock=some b->n<=b):∀z∈zs ++ [(s,c)],∀b,(Xi z.1).ownBlock=some b->n<=b:=λz g=>by
 rcases List.mem_append.1 g with q|q
 .exact h z q
 .rw [List.mem_singleton.1 q];exact e
theorem fr3{n:Nat}{g j k:SL}{l o q:List Int}(h:∀z∈[(g,l),(j,o),(k,q)],∀b,(Xi z.1).ownBlock=some b->n<=b):∀p∈[Ys 1 Yg (Xi g) l1,Ys 1 Yg (Xi j) l2,Ys 1 Yg (Xi k) l3],∀b,p.fp b->n<=b:=λp r b e=>by
 simp only [List.mem_cons,List.not_mem_nil,or_false]at r;rcases r with rfl|rfl|rfl
 .exact h (g,l) O7 b e.2
 .exact h (j,o) O7 b e.2
 .exact h (k,q) O7 b e.2
theorem fr0{n:Nat} : ∀p∈[Ys 1 Yg (Xi (none,0,0)) l1,Ys 1 Yg (Xi (none,0,0)) l2,Ys 1 Yg (Xi (none,0,0)) l3],∀b,p.fp b->n<=b:=λp e b g=>by simp only [List.mem_cons,List.not_mem_nil,or_false]at e;rcases e with rfl|rfl|rfl<;>cases g.2
end Go.Sky
namespace Go.Sky
open Go.RowKit (Below)
variable{o:Oper}{x:Operand}{k:IntKind}{cs:Array Value}
variable {P:Program} {N:Nat} {sc:Nat->Prop} {env env':Ph} {H H':Hp} {Q Q':Exit->Act->World->Prop} {M:Nat->Prop}
theorem f_new{w0:World}{p:Pc}(i:Nat)(hi:lk H i=some p)(f:p.own=true)(d:lk H 0=some (Yo w0 (λ_=>False)))(c:i≠0:=by decide):∀a w,Sat N sc env H a w->∀b,p.fp b->w0.heap.size<=b:=λa w hs b e=>by
  rcases Nat.lt_or_ge b w0.heap.size with h|h
  . exact(hs.sep i 0 p _ c hi d f b e ⟨h,λh=>h⟩).elim
  . exact h
theorem Ydy {fn:Func} {pre:List Pc} {G:Type} {φ:G->Prop} {Yh:G->Value} {c:G->List Pc} {w0:World} {e:Exit} (B:e= .ret\/e= .normal)
    (g:G) (v:Value) (n:∀p∈c g,∀b,p.fp b->w0.heap.size<=b) (j:∀a w,Sat N sc env H a w->(results fn a.tmps).run P w= .ok v w) (R:Yh g=v) (F:φ g) (t:lk H 0=some (Yo w0 (λ_=>False))) (d:Give H true (c g)) :
    X N sc e (Zb8 P fn w0 pre false φ Yh c) env H:=λa w hs=>by
  have l : a.defers = [] /\ ∃ v, (results fn a.tmps).run P w = .ok v w /\ (∃ g, Ending.returned v = .returned (Yh g) /\ φ g /\ Below w0.heap.size w0 w /\
        ∀p∈c g,p.holds w/\p.own=false/\∀b,p.fp b->w0.heap.size<=b\/(false=true/\∃q∈pre,q.fp b)):=by
    refine⟨hs.defers,v,j a w hs,g,by rw [R],F,Kt (hs.hold 0 _ t),λp s=>?_⟩;obtain⟨r,h|⟨u,y⟩⟩:=d.mem p s
    case inr=>exact⟨u w,r,λb m=>absurd m (y b)⟩
    obtain⟨i,S,I,hi,f,D,z⟩:=h;exact⟨f w (hs.hold i S hi),r,λb m=> .inl (n p s b m)⟩
  rcases B with rfl|rfl
  . exact l
  . exact l
section
variable {f:FuncId} {xs:List Operand} {ats:Array TypeId} {d:Nat} {vs:List Value} {pre:List Pc} {G:Type} {φ:G->Prop} {Yh:G->Value} {its:G->List Pc} {w0:World} {M0:Nat->Prop} {ty:TypeId} {pos:String} {af:Array Edge} {g:Option (Nat×Bool)}
theorem Ylz  {n:Nat} (Z:Cal P f vs.toArray pre false φ Yh its)
    (ho:o.op= .call { callee:= .value (.func f),args:=xs.toArray,argTypes:=ats }) (hd:o.dst=some d) (Y:Nat.blt d N=true)
    (r:EvL env xs vs) (t:∀args w,(callFunc f args).run P w= .ok (.enter f args) w) (v:PreOk H false pre)
    (R:lk H 0=some (Yo w0 M0)) (hw:∀b,w0.heap.size<=b->sc b) :
    T P N sc M o env H (λg=>φ g/\∀p∈its g,∀b,p.fp b->w0.heap.size<=b) (λg=>(d,Yh g)::env) (λg=>adds n (its g) H):=λa w hs K Q W=>by
  have B:w0.heap.size<=w.heap.size:=(hs.hold 0 _ R).size;have hr:(execOp a.eval o).run P w= .ok (.enter f vs.toArray) w:=by have hm:=r.map hs;simp [execOp,ho,resolve,invoke,Act.eval,Deferred.ofValue,hm,t]
  unfold Oper.wp;rw [hr];refine(Z w (λp l=>by obtain⟨i,it,_,hi,u,_,_⟩:=v.mem p l;exact u w (hs.hold i it hi))).mono ?_
  rintro e I ⟨g,rfl,hg,m,q⟩;show K (a.put o.dst (Yh g)) I;rw [hd];have z:Sat N sc env H a I:=hs.chg0 (Chg.of_below m);have c:∀p∈its g,∀b,p.fp b->w.heap.size<=b:=λp l b s=>by
    rcases(q p l).2.2 b s with h|⟨h,_⟩
    . exact h
    . cases h
  refine W g _ _ ⟨hg,λp l b s=>Nat.le_trans B (c p l b s)⟩ (Sat.put (z.adds (w1:=w) (its g) n ?_) d _ Y) (Chg.of_below m);intro p l;obtain⟨S,V,h3⟩:=q p l;refine⟨S,V,λb s=>hw b (Nat.le_trans B (c p l b s)),λj F hj D b s y=>?_⟩;have:=F.lt w b (hs.hold j F hj) y;have:=c p l b s;omega
def Ybz(n:Nat)(a:List Nat)(e:Cal P f vs.toArray pre false φ Yh its){c:G->Hp}[hx:EvI env xs vs][hf:CalF P f][hp:PreL P H false a pre][h0:Som (lk2 H 0) (Yo w0 M0)][hN:TB (ltb d N)][hw:Hw w0 sc][ha:∀g,AddI n (its g) H (c g)] :
    T P N sc M ⟨some d,.call { callee:= .value (.func f),args:=xs.toArray,argTypes:=ats },ty,pos,af,g⟩ env H (λg=>φ g/\∀p∈its g,∀b,p.fp b->w0.heap.size<=b) (λg=>(d,Yh g)::env) c:=
  (Ylz (n:=n) e rfl rfl (Nd hN.h) hx.h hf.h hp.h h0.l hw.h).conv λg=>(ha g).h
end
theorem Zz5{w0 W:World}(h:Hw w0 sc)(a:w0.heap.size<=W.heap.size):Hw W sc:=⟨λb c=>h.h b (Nat.le_trans a c)⟩
theorem Zn9  {y:Operand} {ats:Array TypeId}  {m n:Int} (b:o.op= .call { callee:= .builtin .min,args:=#[x,y],argTypes:=ats })
    (c:ev env x=some (.int k m)) (e:ev env y=some (.int k n)):Mo P N sc o env H (.int k (min m n)):=λa w hs=>by
  simp [execOp,b,resolve,hs.ev c,hs.ev e,invoke,builtin,Builtin.min_,Builtin.min2];by_cases h:n<m
  . rw [if_pos h];omega
  . rw [if_neg h];omega
theorem d_lbw   {t p:TypeId} {i b k:Nat}  (h:o.op= .load t x) (m:ev env x=some (.pointer (some ⟨b,0,none⟩))) (a:lk H i=some (box b p cs)) (j:∀w,(isAgg t).run P w= .ok true w) (c:∀w,(sizeOf t).run P w= .ok k w)
    (e:cs.size=k):Mo P N sc o env H (.agg cs):=by
  have:=Zu7 (P:=P) (N:=N) (sc:=sc) (vs:=cs.toList) h m a j c (by simpa using e) (λn u l=>by rw [Nat.zero_add];simpa using l);simpa using this
end Go.Sky
namespace Go.Sky
open Go.Proofs.Tryz
open Go.Proofs
set_option synthInstance.maxHeartbeats 0
set_option synthInstance.maxSize 100000
set_option maxRecDepth 20000
set_option maxHeartbeats 1000000
set_option linter.unusedSimpArgs false
variable{p:Zj->Bool}{i id:Nat}{d:Zj}{ops:List Oper}{y x c:Code}{zs:List Zj}
theorem Zdf(fr P e:Int)(vx vy vz:Value)(x y z:List Int)(u:Mdh e x y z):Cal prog 230 #[.int .i64 fr,.int .i64 P,.agg #[vx,vy,vz],wv e] [Ys 2 wv vx x,Ys 2 wv vy y,Ys 2 wv vz z] false (G:=SL×SL×SL) (λg=>True) (λg=> .tuple #[.agg #[.int .i64 fr,.int .i64 P,.int .i64 (mdO e (Ke e x y z)),Xi g.1,Xi g.2.1,Xi g.2.2],.bool (decide (e/(Ke e x y z)<=4294967296))]) (λg=>[Ys 1 Yg (Xi g.1) (mdL e (Ke e x y z) x),Ys 1 Yg (Xi g.2.1) (mdL e (Ke e x y z) y),Ys 1 Yg (Xi g.2.2) (mdL e (Ke e x y z) z)]):=by
 refine Zg func230 ntmps230 λw0 sc hw b0=>?_;have ho:=u.o;have Z:=u.b;obtain⟨W,a7,a8⟩:=u.g;have Y:bl (Ke e x y z).natAbs<=1000:=u.fc 3 0;have a9:0<=e/(Ke e x y z):=Int.ediv_nonneg (Int.le_of_lt ho) (Int.le_of_lt W);refine go 2 ?_;refine Yk (Yt 4) λbx _=>Yk (Yt 5) λa2 _=>Yk (Zy 6) λa3 _=>go 6 ?_;refine Yk (Zy 7) λH _=>go 11 ?_;refine lp (G:=Nat) [0,1,6,7,8,10,24] [0,1,2,3,4,5,6] (λi=>[(25,.int .i64 (i:Int))]) (λi=>[(7,box H 80 (wc (Np e (Nw i x y z))))]) (λi=>i<=3) (λi=>3-i) 0 O1 K1 K1 ?_;rintro i hi;have a0:=u.fc i;have a1:=u.l i;refine go 6 ?_;refine Zc J (λQ=>?_) (λQ=>?_)
 .refine go 5 ?_;refine Zf (Zhe i 1 2 3 50 J J J J J J)<|go 1 ?_;refine dt (Zoa (i:=i) J J J underlying210 sizeOf40 isAgg40 J)<|go 11 ?_;refine lp (G:=Nat) [0,1,6,7,8,10,24,25,28,29] [0,1,2,3,4,5,6,50] (λk=>[(30,.int .i64 (k:Int))]) (λk=>[(7,box H 80 (wc (Np (Np e (Nw i x y z)) ((Zo i x y z).take k))))]) (λk=>k<=(Zo i x y z).length) (λk=>(Zo i x y z).length-k) 0 O1 K1 K1 ?_;rintro k hk;refine go 6 ?_;refine Zc J (λR=>?_) (λR=>?_)
  .refine go 8 ⟨O3,O3,?_⟩;refine Yk (Zy 8) λa4 _=>go 6 ?_;refine cl 8 [] (Zos (Np (Np e (Nw i x y z)) ((Zo i x y z).take k)) ((Zo i x y z).getD k 0) (Nat.le_trans (a0 k) O2) (Nat.le_trans (u.s i k) O2)) λ_ _=>?_;refine go 8 ⟨O,?_⟩;exact Yq (k+1) O1 O1 K1 ⟨by rw [Bh _ O];rfl,trivial⟩
  .obtain rfl:k=(Zo i x y z).length:=O;rw [List.take_length];refine go 10 ⟨O,?_⟩;exact Yq (i+1) O1 O1 K1 ⟨by rw [Fm x y z O,Iy];rfl,trivial⟩
 .obtain rfl:i=3:=O;refine go 9 ?_;refine dt (Qq (ivs:=[(0,_),(1,_)]) J K4 (λa w hs=>b35_01 ((Yf J) a w hs) ((Yf J) a w hs)))<|Yk (Zy 9) λm _=>go 7 ?_;refine cl 9 [] (Zhd e (Ke e x y z) (Nat.le_trans Z O2) (Nat.le_trans Y O2) O) λ_ _=>Yk (Zy 10) λa5 _=>go 5 ?_;refine Xz (λ_=>False) [(0,0),(1,1),(2,1),(3,0)]<|go 1 ?_;refine Yr (Zi 10 [] (Zw 4294967296 ⟨O2,O2⟩)) λ_ _=>Yr (Zi 10 [] (Ze7 (e/(Ke e x y z)) 4294967296 (Nat.le_trans (bl_dlq Z W (Int.le_of_lt ho)) O2) O2)) λ_ _=>go 3 ?_;refine Zc J (λr=>?_) (λr=>?_)
  .have l:¬e/(Ke e x y z)<=4294967296:=Ye9.1 r;refine go 9 ?_;exact Ydy (.inl J) ((none,0,0),(none,0,0),(none,0,0)) _ fr0 (λa w hs=>Yci hs results230 (Fv (i:=6) J J isAgg35 Ig J) J) (by rw [mdO_f l,decide_eq_false l]) trivial J (Mu (Yhq l) (Mu (Yhq l) (Mu (Yhq l) Za)))
  .have l:e/(Ke e x y z)<=4294967296:=Classical.not_not.1 λh=>r (Ye9.2 h);refine go 5 ?_;refine cl 10 [] (Zr6 (e/(Ke e x y z)) O) λ_ _=>go 13 ?_;refine dt (Qq (ivs:=[(0,_),(1,_),(2,_)]) J K6 (λa w hs=>Ykr ((Yf J) a w hs) ((Yf J) a w hs) ((Yf J) a w hs)))<|go 4 ?_;refine Zf (Ox 9 (q:=box m 35 (C6 (.int .i64 fr) (.int .i64 P) (.int .i64 (e/(Ke e x y z))) (fz []))) (congrArg (box m 35) (show _=(C6 (.int .i64 fr) (.int .i64 P) (.int .i64 (e/(Ke e x y z))) (fz []))from J)) J J)<|Zf (Yn qC 71)<|lp (G:=Nat×List (SL×List Int)) [6,8,10,15,59] [0,7,1,2,3,4,5,6,10] (λq=>[(60,.int .i64 (q.1:Int))]) (λq=>[(9,box m 35 (C6 (.int .i64 fr) (.int .i64 P) (.int .i64 (e/(Ke e x y z))) (fz q.2))),(71,Lg qC q.2)]) (λq=>(q.1<=3)/\(q.2.length=q.1)/\(∀t,t<q.1->(q.2.getD t Z0).2=Hi (Zo t x y z) (Ke e x y z))/\(∀z∈q.2,∀b,(Xi z.1).ownBlock=some b->w0.heap.size<=b)) (λq=>3-q.1) (0,[]) ⟨O1,rfl,λt ht=>absurd ht (Nat.not_lt_zero t),λz hz=>nomatch hz⟩ K1 K2 ?_;rintro⟨i,zs⟩ ⟨hi,o,D,B⟩;dsimp only at hi o D B;dsimp only;have a1:=u.l i;refine go 6 ?_;refine Zc J (λS=>?_) (λS=>?_)
   .refine go 7 ?_;refine dt (Yz (r':= .pointer (some ⟨m,3+i,none⟩)) (Zoa (i:=i) J J J underlying331 sizeOf330 isAgg330 J) (p3_sel O))<|go 6 ?_;refine Zf (Zhe i 1 2 3 52 J J J J J J)<|Zf (Qx 60 1 3 Yg)<|go 2 ?_;refine dt (Gt (i:=i) J J J underlying210 sizeOf40 J)<|dt (Ydm (i:=4) J J J isAgg40 (c3_get O))<|go 5 ?_;refine lp (G:=Nat×Value) [6,8,10,15,18,59,60,66,67] [0,71,7,1,2,3,4,5,6,10,52] (λq=>[(68,.int .i64 (q.1:Int))]) (λq=>[(9,box m 35 (C6 (.int .i64 fr) (.int .i64 P) (.int .i64 (e/(Ke e x y z))) (upd (fz zs) i q.2))),(60,Oe 1 3 Yg q.2 (((Zo i x y z).take q.1).map (· / (Ke e x y z))))]) (λq=>q.1<=(Zo i x y z).length) (λq=>(Zo i x y z).length-q.1) (0,_) O1 K1 ⟨by rw [Zxv (λj _=>fz_upd o j)];rfl,by rw [List.take_zero];rfl,trivial⟩ ?_;rintro⟨k,vr⟩ hk;dsimp only at hk;dsimp only;refine go 6 ?_;refine Zc J (λV=>?_) (λV=>?_)
    .refine go 8 ⟨O3,O3,?_⟩;refine Yk (Zy 11) λa6 _=>go 7 ?_;refine cl 11 [] (Zhd ((Zo i x y z).getD k 0) (Ke e x y z) (Nat.le_trans (u.s i k) O2) (Nat.le_trans Y O2) O) λ_ _=>cl 11 [] (Zr6 ((Zo i x y z).getD k 0/(Ke e x y z)) (u.fit l O k)) λ_ _=>go 11 ?_;refine dt (Ydm (i:=9) J J J isAgg33 (Ykg O))<|go 1 ?_;refine tt (Qb (i:=12) (ivs:=[(0,_)]) (enc:=Yg) ([(Zo i x y z).getD k 0/(Ke e x y z)]:List Int) J J K2 Pe ti3 J J J J J pZ.cells J J hw.h) (λv _=>?_);refine tt (Pp (i:=60) (j:=12) (by_:=8) J J J J J J O2 J (Yb pZ) Pe ti3 J pZ J J J O8 O2 J hw.h) λb1 _=>go 1 ?_;refine tt (t_st6 (i:=9) (n:=i) J J J J J O2 Zca O (Oj (i:=60) J (Yb pZ)) J hw.h trivial) (λ_ _=>?_);refine go 7 ⟨O,?_⟩;exact Yq (k+1,_) O1 O1 K1 ⟨J,by rw [<-Zt3 O];rfl,trivial⟩
    .obtain rfl:k=(Zo i x y z).length:=O;rw [List.take_length];refine go 9 ?_;refine dt (Ydm (i:=9) J J J isAgg33 (Ykg O))<|go 4 ?_;refine Zc J (λs=>?_) (λs=>?_)
     .have I:(Zo i x y z).length=0:=by simpa using s
      refine go 2 ?_;refine tt (Qb (i:=13) (ivs:=[(0,_)]) (enc:=Yg) ([0]:List Int) J J K2 Pe ti3 J J J J J pZ.cells J J hw.h) λb2 _=>go 1 ?_;refine tt (t_st6 (i:=9) (n:=i) J J J J J O2 Zca O (Oj (i:=13) J (Yb pZ)) J hw.h trivial) (λ_ _=>?_);refine go 7 ⟨O,?_⟩;refine Ydw (f_new 13 J J J) (λM=>?_);refine Zv (Xs 13 J J pZ)<|Zr1 (Xy 13 J Zn) (λF N=>?_);subst N;exact Zv (Ox 13 (q:=Ys 1 Yg (Xi F) (Hi (Zo i x y z) (Ke e x y z))) (congrArg (Ys 1 Yg (Xi F)) (dvL_0 I).symm) J J)<|Zv (Zq (q:=qC) (z:=(F,Hi (Zo i x y z) (Ke e x y z))) 71 13 71 J J J J J)<|Yq (i+1,zs ++ [(F,Hi (Zo i x y z) (Ke e x y z))]) ⟨O1,by rw [List.length_append,o];rfl,λt ht=>Zf6 (f:=λt=>Hi (Zo t x y z) (Ke e x y z)) o D rfl ht,Yij B M⟩ O1 K1 ⟨by rw [Zxv (λj _=>Yaa (c:=Hi (Zo i x y z) (Ke e x y z)) o j)];rfl,rfl,trivial⟩
     .have I:(Zo i x y z).length≠0:=by simpa using s
      refine go 7 ⟨O,?_⟩;refine Ydw (f_new 60 J J J) (λM=>?_);refine Zv (Xs 60 J J pZ)<|Zr1 (Xy 60 J Zn) (λF N=>?_);subst N;exact Zv (Ox 60 (q:=Ys 1 Yg (Xi F) (Hi (Zo i x y z) (Ke e x y z))) (congrArg (Ys 1 Yg (Xi F)) (dvL_n I).symm) J J)<|Zv (Zq (q:=qC) (z:=(F,Hi (Zo i x y z) (Ke e x y z))) 71 60 71 J J J J J)<|Yq (i+1,zs ++ [(F,Hi (Zo i x y z) (Ke e x y z))]) ⟨O1,by rw [List.length_append,o];rfl,λt ht=>Zf6 (f:=λt=>Hi (Zo t x y z) (Ke e x y z)) o D rfl ht,Yij B M⟩ O1 K1 ⟨by rw [Zxv (λj _=>Yaa (c:=Hi (Zo i x y z) (Ke e x y z)) o j)];rfl,rfl,trivial⟩
   .obtain rfl:i=3:=O;refine go 6 ?_;obtain⟨s1,s2,s3,rfl⟩:=Yhp o D;refine Zf (Zag (q:=qC) 71 81 (s1,Hi x (Ke e x y z)) J J O7 J)<|Zf (Ox 81 (q:=Ys 1 Yg (Xi s1) (mdL e (Ke e x y z) x)) (congrArg (Ys 1 Yg (Xi s1)) (Zf7 l).symm) J J)<|Zf (Zag (q:=qC) 71 82 (s2,Hi y (Ke e x y z)) J J O7 J)<|Zf (Ox 82 (q:=Ys 1 Yg (Xi s2) (mdL e (Ke e x y z) y)) (congrArg (Ys 1 Yg (Xi s2)) (Zf7 l).symm) J J)<|Zf (Zag (q:=qC) 71 83 (s3,Hi z (Ke e x y z)) J J O7 J)<|Zf (Ox 83 (q:=Ys 1 Yg (Xi s3) (mdL e (Ke e x y z) z)) (congrArg (Ys 1 Yg (Xi s3)) (Zf7 l).symm) J J)<|Zf (Ox 9 (q:=box m 35 #[.int .i64 fr,.int .i64 P,.int .i64 (e/(Ke e x y z)),Xi s1,Xi s2,Xi s3]) J J J)<|go 7 ?_;exact Ydy (.inl J) (s1,s2,s3) _ (fr3 B) (λa w hs=>Yci hs results230 (Fv (i:=6) J J isAgg35 Ig J) J) (by rw [mdO_t l,decide_eq_true l]) trivial J (Gj 81 J J J (Gj 82 J J J (Gj 83 J J J Za)))
abbrev Zm0:=(Int×Int×Int)×List Int×List Int×List Int
def Gn(g:Zj):Zm0:=(g.1,g.2.1.2,g.2.2.1.2,g.2.2.2.2)
abbrev cA (fr:Int) (g:Zj):Int:=max fr g.1.1
abbrev cB (a:Int) (g:Zj):Int:=min a g.1.2.1
abbrev cX (fr a:Int) (g:Zj) (c:List Int):List Int:=Qt c (cA fr g-g.1.1) (cB a g-cA fr g) (g.1.2.1-g.1.1)
abbrev cO (g:Zj):Int:=g.1.2.2*(g.1.2.1-g.1.1)^5
def cG(fr a:Int)(g:Zj):Int:=Ke (cO g) (cX fr a g g.2.1.2) (cX fr a g g.2.2.1.2) (cX fr a g g.2.2.2.2)
def Kv(fr a:Int)(g:Zj):Bool:=decide (cA fr g<cB a g)
def Zgo(fr a:Int)(g:Zj):Bool:=decide (cO g/cG fr a g<=4294967296)
def Zu9(fr a:Int)(g:Zj):Zm0:=((cA fr g,cB a g,mdO (cO g) (cG fr a g)),mdL (cO g) (cG fr a g) (cX fr a g g.2.1.2),mdL (cO g) (cG fr a g) (cX fr a g g.2.2.1.2),mdL (cO g) (cG fr a g) (cX fr a g g.2.2.2.2))
def MdG(fr a:Int)(g:Zj):Prop:=Mdh (cO g) (cX fr a g g.2.1.2) (cX fr a g g.2.2.1.2) (cX fr a g g.2.2.2.2)
theorem Zqn{ps:List Zj}(hi:i<ps.length)(b:p (ps.getD i d)=true):(ps.filter p)[((ps.take i).filter p).length]? = some (ps.getD i d):=by
 have h:=List.take_append_drop i ps;have a:ps.drop i=ps.getD i d::ps.drop (i+1):=by rw [List.getD_eq_getElem?_getD,List.getElem?_eq_getElem hi,Option.getD_some];exact List.drop_eq_getElem_cons hi
 conv=>lhs;arg 1;rw [<-h,a]
 rw [List.filter_append,List.filter_cons_of_pos b];simp
theorem fl_t{ps:List Zj}(hi:i<ps.length)(a:p (ps.getD i d)=true):((ps.take (i+1)).filter p).length=((ps.take i).filter p).length+1:=by rw [Ps d _ _ hi,List.filter_append,List.filter_cons_of_pos a,List.length_append];rfl
theorem fl_f{ps:List Zj}(hi:i<ps.length)(a:p (ps.getD i d)=false):((ps.take (i+1)).filter p).length=((ps.take i).filter p).length:=by rw [Ps d _ _ hi,List.filter_append,List.filter_cons_of_neg (by rw [a];exact Bool.false_ne_true),List.length_append];rfl
def Zie{d:Int}(h:1<=d/\d<=3600000):bl (d^5).natAbs<=132:=Zog (Zb1 O) 5 (Nat.le_refl _)
theorem Yjv{W:Nat}{H:Hp}{k l m:SL}{f g j:List Int}(h:∀p∈[Ys 1 Yg (Xi k) f,Ys 1 Yg (Xi l) g,Ys 1 Yg (Xi m) j],∀b,p.fp b->W<=b)(i:Nat)(o:lk H i=some (Ys 1 Yg (Xi k) f))(q:lk H (i+1)=some (Ys 1 Yg (Xi l) g))(r:lk H (i+2)=some (Ys 1 Yg (Xi m) j)) :
  ∀p∈[Ys 1 Yg (Xi k) f,Ys 1 Yg (Xi l) g,Ys 1 Yg (Xi m) j],p.own=false/\(∀b,p.fp b->W<=b)/\∃i n,lk H i=some n/\∀w,n.holds w->p.holds w:=λp e=>by
 have a:=h p e;simp only [List.mem_cons,List.not_mem_nil,or_false]at e;rcases e with rfl|rfl|rfl
 .exact⟨rfl,a,_,_,o,λ_ h=>h⟩
 .exact⟨rfl,a,_,_,q,λ_ h=>h⟩
 .exact⟨rfl,a,_,_,r,λ_ h=>h⟩
theorem cut_b{fr b:Int}{g:Zj}(a:SgG g)(h:Kv fr b g=true):(cA fr g-g.1.1).natAbs<=3600000/\(cB b g-cA fr g).natAbs<=3600000/\Ng (cA fr g-g.1.1)/\Ng (cB b g-cA fr g):=by have k:=of_decide_eq_true h;have e:=a.t1;have f:=a.t2;have j:=a.t3;unfold cA cB at *;exact⟨O,O,⟨O,O⟩,⟨O,O⟩⟩
theorem Yb5(v:Value)(ps:List Zj)(S V Y:Nat)(fr a:Int)(P:∀g∈ps,SgG g)(hM:∀g∈ps,Kv fr a g=true->MdG fr a g):Ydu prog 229 [.pointer (some ⟨S,0,none⟩),.pointer (some ⟨V,0,none⟩),.pointer (some ⟨Y,0,none⟩)] [Kl S 38 #[v],Kl V 3 #[.int .i64 fr],Kl Y 3 #[.int .i64 a],Xt 6 Qe qG v ps] (α:=Zj) (G:=SL×SL×SL) (ps.filter (Kv fr a)) (λc g=>[.agg #[.int .i64 (cA fr c),.int .i64 (cB a c),.int .i64 (mdO (cO c) (cG fr a c)),Xi g.1,Xi g.2.1,Xi g.2.2],.bool (Zgo fr a c)]) (λc g=>[Ys 1 Yg (Xi g.1) (mdL (cO c) (cG fr a c) (cX fr a c c.2.1.2)),Ys 1 Yg (Xi g.2.1) (mdL (cO c) (cG fr a c) (cX fr a c c.2.2.1.2)),Ys 1 Yg (Xi g.2.2) (mdL (cO c) (cG fr a c) (cX fr a c c.2.2.2.2))]):=by
 refine Zrl func229 J ntmps229 J K4 ?_;intro l M JI Jx w0 sc hw B u k I hY;simp only [Qs,Yv];have Q:=Hw.mk hw;refine Pf (Ln (i:=4) J Zb) λa5=>go 8 ?_;refine lp (G:=Nat×World) [0,2,3,12,13] [1,2,3,4] (λq=>[(14,.int .i64 (q.1:Int))]) (λq=>[(0,Yo q.2 (λ_=>False))]) (λq=>(q.1<=ps.length)/\(JI ((ps.take q.1).filter (Kv fr a)).length q.2)/\(w0.heap.size<=q.2.heap.size)) (λq=>ps.length-q.1) (0,w0) ⟨O1,I,Nat.le_refl _⟩ K1 K1 ?_;rintro⟨i,W⟩ ⟨hi,t,H⟩;dsimp only at hi t H;dsimp only;have d4:=Zz5 Q H;refine go 6 ?_;refine Zc J (λo=>?_) (λo=>?_)
 .refine go 5 ?_;have f:=P _ (Ze (d:=G0) (show i<ps.length by omega));have d1:=f.t1;have d2:=f.t2;have d3:=f.t3;have c4:=f.o1;have N:=f.o2;refine Zf (Qw (g:=(ps.getD i G0)) (z:=(ps.getD i G0).2.1) 4 51 J J (Ze) O7)<|Zf (Qw (g:=(ps.getD i G0)) (z:=(ps.getD i G0).2.2.1) 4 52 J J (Ze) O7)<|Zf (Qw (g:=(ps.getD i G0)) (z:=(ps.getD i G0).2.2.2) 4 53 J J (Ze) O7)<|go 2 ⟨O3,?_⟩;refine dt (Xf (ii:=4) G0 J J J Zb pG O3)<|Yk (Zy 5) λbx _=>go 4 ?_;refine Xz (λ_=>False) [(0,0),(1,0),(2,0),(3,0),(4,0),(5,0),(6,0),(7,0),(8,0),(9,3)]<|go 3 ?_;refine Xj J J (Xl (Zb5 J J J))<|go 3 ?_;refine Xj J J (Xl (Zn9 J J J))<|go 12 ?_;refine Zc J (λr=>?_) (λr=>?_)
  .have j:Kv fr a (ps.getD i G0)=false:=decide_eq_false (by unfold cA cB;omega);refine go 8 ⟨O,?_⟩;exact Yq (i+1,W) ⟨O1,by rw [fl_f O j];exact t,H⟩ O1 K1 K1
  .have j:Kv fr a (ps.getD i G0)=true:=decide_eq_true (by unfold cA cB;omega);have h:=hM _ (Ze (d:=G0) (show i<ps.length by omega)) j;obtain⟨D,F,c9,d0⟩:=cut_b f j;refine go 12 ⟨O,?_⟩;refine jn (G:=SL×SL×SL×Nat) [0,2,3,12,13,14] [0,1,2,3,4,51,52,53,5] (λq=>[(10,.pointer (some ⟨q.2.2.2,0,none⟩)),(11,.bool (Zgo fr a (ps.getD i G0)))]) (λq=>[(90,Ys 1 Yg (Xi q.1) (mdL (cO (ps.getD i G0)) (cG fr a (ps.getD i G0)) (cX fr a (ps.getD i G0) (ps.getD i G0).2.1.2))),(91,Ys 1 Yg (Xi q.2.1) (mdL (cO (ps.getD i G0)) (cG fr a (ps.getD i G0)) (cX fr a (ps.getD i G0) (ps.getD i G0).2.2.1.2))),(92,Ys 1 Yg (Xi q.2.2.1) (mdL (cO (ps.getD i G0)) (cG fr a (ps.getD i G0)) (cX fr a (ps.getD i G0) (ps.getD i G0).2.2.2.2))),(93,box q.2.2.2 35 #[.int .i64 (cA fr (ps.getD i G0)),.int .i64 (cB a (ps.getD i G0)),.int .i64 (mdO (cO (ps.getD i G0)) (cG fr a (ps.getD i G0))),Xi q.1,Xi q.2.1,Xi q.2.2.1])]) (λq=>(∀p∈[Ys 1 Yg (Xi q.1) (mdL (cO (ps.getD i G0)) (cG fr a (ps.getD i G0)) (cX fr a (ps.getD i G0) (ps.getD i G0).2.1.2)),Ys 1 Yg (Xi q.2.1) (mdL (cO (ps.getD i G0)) (cG fr a (ps.getD i G0)) (cX fr a (ps.getD i G0) (ps.getD i G0).2.2.1.2)),Ys 1 Yg (Xi q.2.2.1) (mdL (cO (ps.getD i G0)) (cG fr a (ps.getD i G0)) (cX fr a (ps.getD i G0) (ps.getD i G0).2.2.2.2))],∀b,p.fp b->W.heap.size<=b)) ?_ ?_
   .refine Nm [5] [24]<|Zh (n:=11) [(0,0),(1,0),(2,0),(3,0),(4,0),(5,0),(6,0),(7,0),(8,0),(9,0),(10,0),(12,0),(13,0),(15,0)]<|go 15 ⟨O,O,?_⟩;refine Qd (n:=10) 11 22 ?_ ?_
    .refine Po (Zi 6 [51,52,53] (Zh8 _ _ _ _ _ _ _ _ _ ((cA fr (ps.getD i G0))-(ps.getD i G0).1.1) ((cB a (ps.getD i G0))-(cA fr (ps.getD i G0))) ((ps.getD i G0).1.2.1-(ps.getD i G0).1.1) f D F ⟨O,O⟩)) λ⟨s,d5,d6⟩ _=>?_;refine Qd (n:=9) 14 22 ?_ ?_
     .refine Po (Zi 8 [] (Zw (ps.getD i G0).1.2.2)) λ_ _=>?_;refine Qd (n:=8) 16 22 ?_ ?_
      .refine Po (Zi 8 [] (Fg ((ps.getD i G0).1.2.1-(ps.getD i G0).1.1) 5 (Nat.le_trans (Zb1 O) O2) O2 O2)) λ_ _=>?_;refine Qd (n:=7) 17 22 ?_ ?_
       .refine Po (Zi 8 [] (Bn (ps.getD i G0).1.2.2 (((ps.getD i G0).1.2.1-(ps.getD i G0).1.1)^5) (Nat.le_trans (Li ⟨O,O⟩) O2) (Nat.le_trans (Zie ⟨O,O⟩) O2))) λ_ _=>?_;refine Qd (n:=6) 18 22 ?_ ?_
        .refine Po (Ybz 90 [6,7,8] (Zdf (cA fr (ps.getD i G0)) (cB a (ps.getD i G0)) (cO (ps.getD i G0)) _ _ _ (cX fr a (ps.getD i G0) (ps.getD i G0).2.1.2) (cX fr a (ps.getD i G0) (ps.getD i G0).2.2.1.2) (cX fr a (ps.getD i G0) (ps.getD i G0).2.2.2.2) h)) λ⟨d7,d8,d9⟩ ⟨_,e⟩=>?_;refine Zh (n:=0) [(19,0),(20,0),(21,0),(22,1),(23,1),(24,3)]<|go 3 ?_;refine Yr (Xx 93) λZ ho=>go 3 ?_;exact Zp<|Pz (_,_,_,_) (e) K2 K4
        .refine Po (Xx 93) λa0 N=>?_;refine Zh (n:=0) [(18,1),(19,0),(20,0),(21,0),(23,1),(24,3)]<|Yr (Ybz 90 [6,7,8] (Zdf (cA fr (ps.getD i G0)) (cB a (ps.getD i G0)) (cO (ps.getD i G0)) _ _ _ (cX fr a (ps.getD i G0) (ps.getD i G0).2.1.2) (cX fr a (ps.getD i G0) (ps.getD i G0).2.2.1.2) (cX fr a (ps.getD i G0) (ps.getD i G0).2.2.2.2) h)) λ⟨e0,e1,e2⟩ ⟨_,e⟩=>go 6 ?_;exact Zp<|Pz (_,_,_,_) (e) K2 K4
       .refine Po (Xx 93) λa1 c5=>?_;refine Zh (n:=0) [(17,1),(18,1),(19,0),(20,0),(21,0),(23,1),(24,3)]<|Yr (Zi 8 [] (Bn (ps.getD i G0).1.2.2 (((ps.getD i G0).1.2.1-(ps.getD i G0).1.1)^5) (Nat.le_trans (Li ⟨O,O⟩) O2) (Nat.le_trans (Zie ⟨O,O⟩) O2))) λ_ _=>Yr (Ybz 90 [6,7,8] (Zdf (cA fr (ps.getD i G0)) (cB a (ps.getD i G0)) (cO (ps.getD i G0)) _ _ _ (cX fr a (ps.getD i G0) (ps.getD i G0).2.1.2) (cX fr a (ps.getD i G0) (ps.getD i G0).2.2.1.2) (cX fr a (ps.getD i G0) (ps.getD i G0).2.2.2.2) h)) λ⟨a6,a7,a8⟩ ⟨_,e⟩=>go 6 ?_;exact Zp<|Pz (_,_,_,_) (e) K2 K4
      .refine Po (Xx 93) λa2 c6=>?_;refine Zh (n:=0) [(16,1),(17,1),(18,1),(19,0),(20,0),(21,0),(23,1),(24,3)]<|Yr (Zi 8 [] (Fg ((ps.getD i G0).1.2.1-(ps.getD i G0).1.1) 5 (Nat.le_trans (Zb1 O) O2) O2 O2)) λ_ _=>Yr (Zi 8 [] (Bn (ps.getD i G0).1.2.2 (((ps.getD i G0).1.2.1-(ps.getD i G0).1.1)^5) (Nat.le_trans (Li ⟨O,O⟩) O2) (Nat.le_trans (Zie ⟨O,O⟩) O2))) λ_ _=>Yr (Ybz 90 [6,7,8] (Zdf (cA fr (ps.getD i G0)) (cB a (ps.getD i G0)) (cO (ps.getD i G0)) _ _ _ (cX fr a (ps.getD i G0) (ps.getD i G0).2.1.2) (cX fr a (ps.getD i G0) (ps.getD i G0).2.2.1.2) (cX fr a (ps.getD i G0) (ps.getD i G0).2.2.2.2) h)) λ⟨a9,b0,b4⟩ ⟨_,e⟩=>go 6 ?_;exact Zp<|Pz (_,_,_,_) (e) K2 K4
     .refine Po (Xx 93) λa3 c7=>?_;refine Zh (n:=0) [(14,1),(16,1),(17,1),(18,1),(19,0),(20,0),(21,0),(23,1),(24,3)]<|Yr (Zi 8 [] (Zw (ps.getD i G0).1.2.2)) λ_ _=>Yr (Zi 8 [] (Fg ((ps.getD i G0).1.2.1-(ps.getD i G0).1.1) 5 (Nat.le_trans (Zb1 O) O2) O2 O2)) λ_ _=>Yr (Zi 8 [] (Bn (ps.getD i G0).1.2.2 (((ps.getD i G0).1.2.1-(ps.getD i G0).1.1)^5) (Nat.le_trans (Li ⟨O,O⟩) O2) (Nat.le_trans (Zie ⟨O,O⟩) O2))) λ_ _=>Yr (Ybz 90 [6,7,8] (Zdf (cA fr (ps.getD i G0)) (cB a (ps.getD i G0)) (cO (ps.getD i G0)) _ _ _ (cX fr a (ps.getD i G0) (ps.getD i G0).2.1.2) (cX fr a (ps.getD i G0) (ps.getD i G0).2.2.1.2) (cX fr a (ps.getD i G0) (ps.getD i G0).2.2.2.2) h)) λ⟨b5,b6,b7⟩ ⟨_,e⟩=>go 6 ?_;exact Zp<|Pz (_,_,_,_) (e) K2 K4
    .refine Po (Xx 93) λa4 c8=>?_;refine Zh (n:=0) [(11,1),(14,1),(16,1),(17,1),(18,1),(19,0),(20,0),(21,0),(23,1),(24,3)]<|Yr (Zi 9 [51,52,53] (Zh8 _ _ _ _ _ _ _ _ _ ((cA fr (ps.getD i G0))-(ps.getD i G0).1.1) ((cB a (ps.getD i G0))-(cA fr (ps.getD i G0))) ((ps.getD i G0).1.2.1-(ps.getD i G0).1.1) f D F ⟨O,O⟩)) λ⟨b8,b9,c0⟩ _=>Yr (Zi 11 [] (Zw (ps.getD i G0).1.2.2)) λ_ _=>Yr (Zi 11 [] (Fg ((ps.getD i G0).1.2.1-(ps.getD i G0).1.1) 5 (Nat.le_trans (Zb1 O) O2) O2 O2)) λ_ _=>Yr (Zi 11 [] (Bn (ps.getD i G0).1.2.2 (((ps.getD i G0).1.2.1-(ps.getD i G0).1.1)^5) (Nat.le_trans (Li ⟨O,O⟩) O2) (Nat.le_trans (Zie ⟨O,O⟩) O2))) λ_ _=>Yr (Ybz 90 [9,10,11] (Zdf (cA fr (ps.getD i G0)) (cB a (ps.getD i G0)) (cO (ps.getD i G0)) _ _ _ (cX fr a (ps.getD i G0) (ps.getD i G0).2.1.2) (cX fr a (ps.getD i G0) (ps.getD i G0).2.2.1.2) (cX fr a (ps.getD i G0) (ps.getD i G0).2.2.2.2) h)) λ⟨c1,c2,c3⟩ ⟨_,e⟩=>go 6 ?_;exact Zp<|Pz (_,_,_,_) (e) K2 K4
   .rintro⟨s1,s2,s3,bj⟩ e;dsimp only at e;dsimp only;refine go 1 ?_;refine Ydf<|Mi (Zak J J) J<|Mi (d_lbw (i:=93) J J J isAgg35 Ig J) J<|Mi (Zak J J) J<|Zt6 (pre:=[_,_,_,_]) (vs:=[_,_]) _ (ps.getD i G0) (s1,s2,s3) hY (Zqn O j) t H B J J J J J K2 J J (Yjv e 90 J J J) K4 K4 (λR m w=>?_) (λR m w=>?_)
    .simp only [Yv];refine Mi (dF (Yw J J) J) J<|Ck<|go 9 ⟨O,?_⟩;exact Yq (i+1,R) ⟨O1,by rw [fl_t O j];exact m,w⟩ O1 K1 K1
    .simp only [Yv];refine Mi (dT (Yw J J) J) J<|Ck<|go 7 ?_;exact Zba (.inl J) J J u k (.inr m)
 .obtain rfl:i=ps.length:=O;rw [List.take_length]at t;refine go 4 ?_;exact Zba (.inr J) J J u k (.inl t)
open Go.RowKit (Below)
variable {P:Program} {N:Nat} {sc:Nat->Prop} {env env':Ph} {H H':Hp} {Q Q':Exit->Act->World->Prop} {l:Nat}
def ER(P:Program)(N:Nat)(sc:Nat->Prop)(l:Nat)(c:Code)(Q:Exit->Act->World->Prop)(env:Ph)(H:Hp):Prop:=
 ∀a w,Sat N sc env H a w->c.wpIn (Fence.wide.inRound l) 0 P Q a w
def ndB(o:Oper):Bool:=match o.op with
 | .defer _=>false
 | _=>true
theorem Zdp(h:ops.all ndB=true):Zjg ops:=λo b c a=>by have:=List.all_eq_true.1 h o b;unfold ndB at this;rw [a]at this;cases this
def Zqz(b:ops.all ndB=true)(h:L P N sc ops.toArray ops (Gr (Exit.then (λa w=>y.wpIn (Fence.wide.inRound l) 0 P Q a w) Q)) env H):ER P N sc l (.seq (.region id ops.toArray false) y) Q env H:=
 λa w hs=>wpIn_seq (Yf5 (Zdp b) h hs)
def Zqy(b:ops.all ndB=true)(h:L P N sc ops.toArray ops (Gr Q) env H):ER P N sc l (.region id ops.toArray false) Q env H:=
 λa w hs=>Yf5 (Zdp b) h hs
def Yle(h:ER P N sc l y Q env H):X N sc .normal (Gr (Exit.then (λa w=>y.wpIn (Fence.wide.inRound l) 0 P Q a w) Q)) env H:=λa w hs=>h a w hs
def Ybs(h:∀a w,Sat N sc env H a w->Q .normal a w):X N sc .normal (Gr Q) env H:=λa w hs=>h a w hs
def Iq(h:ER P N sc l x (Exit.then (λa w=>y.wpIn (Fence.wide.inRound l) 0 P Q a w) Q) env H):ER P N sc l (.seq x y) Q env H:=λa w hs=>wpIn_seq (h a w hs)
def Za1(h:ER P N sc l c (Exit.inBlock id Q) env H):ER P N sc l (.block id c) Q env H:=λa w hs=>wpIn_block (h a w hs)
theorem Zuu{c:Operand}{b:Bool}(e:ev env c=some (.bool b))(g:b=true->ER P N sc l x Q env H)(f:b=false->ER P N sc l y Q env H):ER P N sc l (.cond c x y) Q env H:=λa w hs=>by
 cases b with
 | true=>exact wpIn_cond_true (hs.ev e) (g rfl a w hs)
 | false=>exact wpIn_cond_false (hs.ev e) (f rfl a w hs)
def Zqx(h:∀a w,Sat N sc env H a w->Q .normal a w):ER P N sc l .skip Q env H:=λa w hs=>wpIn_skip (h a w hs)
def Zxd(h:∀a w,Sat N sc env H a w->Q .ret a w):ER P N sc l .ret Q env H:=λa w hs=>wpIn_ret (h a w hs)
def Zew(b:∀a w,Sat N sc env H a w->Sat N sc env' H' a w)(h:ER P N sc l c Q env' H'):ER P N sc l c Q env H:=λa w hs=>h a w (b a w hs)
theorem Dm{β:Type}(i k:Nat)(enc:β->Value)(q:β->Pc):∀a w,Sat N sc env H a w->Sat N sc env ((i,Xt k enc q (.slice none 0 0) [])::H) a w:=λa w hs=>
 hs.add i _ ⟨Zay k enc w,λz f=>by cases f⟩ (λh j _ _ Lp b e g=>by
  rcases e with e|⟨z,f,_⟩
  .exact absurd rfl e.1
  .cases f) (λb e=>by
  rcases e with e|⟨z,f,_⟩
  .exact absurd rfl e.1
  .cases f)
theorem Yik{a:Hp}{g:Zj}(i j:Nat)(h:lk a i=some (Lg qG zs))(k:lk a j=some (Ys 1 Yg (Xi g.2.1.1) g.2.1.2))(m:lk a (j+1)=some (Ys 1 Yg (Xi g.2.2.1.1) g.2.2.1.2))(n:lk a (j+2)=some (Ys 1 Yg (Xi g.2.2.2.1) g.2.2.2.2)) :
  ∀b,(Lg qG (zs ++ [g])).fp b->∃j q,lk a j=some q/\q.fp b:=λb ⟨z,o,e⟩=>by
 rcases List.mem_append.1 o with q|q
 .exact⟨i,_,h,z,q,e⟩
 .rw [List.mem_singleton.1 q]at e;obtain⟨c,f,e⟩:=e;simp only [List.mem_cons,List.not_mem_nil,or_false]at f;rcases f with rfl|rfl|rfl
  .exact⟨j,_,k,e⟩
  .exact⟨j+1,_,m,e⟩
  .exact⟨j+2,_,n,e⟩
end Go.Sky
namespace Go.Sky
variable{k b c i:Nat}{zs:List Zj}{x y:Operand}{r:List Value}{v:Value}{xs:List Int}{w0 w:World}{M0:Nat->Prop}{a:Act}{o:Oper}{t tb:TypeId}{kd:IntKind}{m:Int}
theorem Zhr(l n p q s u d e f g h j:Value):Instr.fill (λi=>some (i*6,6)) ((List.range (1*6)).map ((Value.agg #[l,n,p,q,s,u]).cells[· % (Value.agg #[l,n,p,q,s,u]).cells.size]!)).toArray [(0,.agg #[d,e,f,g,h,j])]=some #[d,e,f,g,h,j]:=by
 simp [Instr.fill,Value.cells,List.range,List.range.loop]
 try rfl
def Px(fr d:Int)(ps:List Zj):Bool:=(ps.filter (Kv fr d)).all (Zgo fr d)
def Zc2(fr d:Int)(ps:List Zj):List Zm0:=if Px fr d ps=true then(ps.filter (Kv fr d)).map (Zu9 fr d)else []
def Zva(fr d:Int)(ps:List Zj):Int:=if Px fr d ps=true then 0 else 7
def Zwb(fr d:Int)(x:Zj)(g:SL×SL×SL):Zj:=((cA fr x,cB d x,mdO (cO x) (cG fr d x)),(g.1,mdL (cO x) (cG fr d x) (cX fr d x x.2.1.2)),(g.2.1,mdL (cO x) (cG fr d x) (cX fr d x x.2.2.1.2)),(g.2.2,mdL (cO x) (cG fr d x) (cX fr d x x.2.2.2.2)))
def Zq9(fr d:Int)(ps:List Zj)(k:Nat)(zs:List Zj):Prop:=zs.map Gn=((ps.filter (Kv fr d)).take k).map (Zu9 fr d)/\((ps.filter (Kv fr d)).take k).all (Zgo fr d)=true
theorem Zg5{α:Type}{xs:List α}{x:α}(h:xs[k]? = some x):xs.take (k+1)=xs.take k ++ [x]:=by rw [List.take_add_one,h];rfl
theorem Yj0(fr d:Int)(ps:List Zj):Zq9 fr d ps 0 []:=⟨by rw [List.take_zero];rfl,by rw [List.take_zero];rfl⟩
theorem cutI_s{fr d:Int}{ps:List Zj}{x:Zj}{g:SL×SL×SL}(h:Zq9 fr d ps k zs)(e:(ps.filter (Kv fr d))[k]? = some x)(l:Zgo fr d x=true):Zq9 fr d ps (k+1) (zs ++ [Zwb fr d x g]):=by
 obtain⟨f,j⟩:=h;refine⟨?_,?_⟩
 .rw [Zg5 e,List.map_append,List.map_append,f];rfl
 .rw [Zg5 e,List.all_append,j];simp [l]
theorem Yjy{fr d:Int}{ps:List Zj}(h:Zq9 fr d ps k zs)(e:k<=ps.length):zs.length<=ps.length:=by have:=congrArg List.length h.1;rw [List.length_map,List.length_map,List.length_take]at this;have:=List.length_filter_le (Kv fr d) ps;omega
theorem Zxk{fr d:Int}{ps:List Zj}{x:Zj}(f:(ps.filter (Kv fr d))[k]? = some x)(e:Zgo fr d x=false):Px fr d ps=false:=by
 unfold Px;cases hb:(ps.filter (Kv fr d)).all (Zgo fr d)with
 | false=>rfl
 | true=>
  have:=List.all_eq_true.1 hb x (List.mem_of_getElem? f);rw [e]at this;cases this
theorem Yjz{fr d:Int}{ps:List Zj}(h:Zq9 fr d ps (ps.filter (Kv fr d)).length zs):zs.map Gn=Zc2 fr d ps/\Zva fr d ps=0:=by obtain⟨f,e⟩:=h;rw [List.take_length]at f e;exact⟨by unfold Zc2 Px;rw [if_pos e];exact f,by unfold Zva Px;rw [if_pos e]⟩
theorem Yjw{fr d:Int}{ps:List Zj}(h:Px fr d ps=false):([]:List Zj).map Gn=Zc2 fr d ps/\Zva fr d ps=7:=by unfold Zc2 Zva;rw [if_neg (by rw [h];exact Bool.false_ne_true),if_neg (by rw [h];exact Bool.false_ne_true)];exact⟨rfl,rfl⟩
def spF(ps:List Zj):Int:=(ps.getD 0 G0).1.1
def spL(ps:List Zj):Int:=(ps.getD (ps.length-1) G0).1.2.1
open Go.Proofs.Tryz
open Go.Proofs
set_option synthInstance.maxHeartbeats 0
set_option synthInstance.maxSize 100000
set_option maxRecDepth 20000
set_option maxHeartbeats 1000000
set_option linter.unusedSimpArgs false
theorem Yez(v:Value)(ps:List Zj)(fr j:Int):Cal prog 181 #[v,.int .i64 fr,.int .i64 j] [Xt 6 Qe qG v ps] true (G:=Nat×Nat×Nat) (λg=>True) (λg=> .func (.func 229) #[] #[.pointer (some ⟨g.1,0,none⟩),.pointer (some ⟨g.2.1,0,none⟩),.pointer (some ⟨g.2.2,0,none⟩)]) (λg=>[Kl g.1 38 #[v],Kl g.2.1 3 #[.int .i64 fr],Kl g.2.2 3 #[.int .i64 j]]):=by refine Zg func181 ntmps181 λw0 p n d=>?_;refine Zbw (Xy 1 J Zb) (λq e=>?_);subst e;refine go 2 ?_;refine Yk (Yt 2) λl _=>Yk (Yt 3) λf _=>Yk (Yt 4) λh _=>go 5 ?_;refine dt (Zu5 (vs:=[]) (us:=[_,_,_]) J trivial K3)<|go 4 ?_;exact Zv (Zen 2 J J)<|Zv (Zen 3 J J)<|Zv (Zen 4 J J)<|Xu d (_,_,_) results181 J trivial (Ob 2 (Ob 3 (Ob 4 Za)))
@[reducible,instance] def encGI:EncT prog 35 6 Qe:=⟨pG⟩
theorem Ye1(v:Value)(ps:List Zj)(fr d:Int)(Y:∀g∈ps,SgG g)(hM:∀g∈ps,Kv fr d g=true->MdG fr d g)(a0:ps.length<=256):Cal prog 121 #[v,.int .i64 fr,.int .i64 d] [Xt 6 Qe qG v ps] true (G:=Value×List Zj) (λg=>g.2.map Gn=Zc2 fr d ps) (λg=> .tuple #[g.1,.int .i64 (Zva fr d ps)]) (λg=>[Xt 6 Qe qG g.1 g.2]):=by
 refine Zjr func121 J ntmps121 J K1 ?_;intro w0 sc P N;have P:=Hw.mk P;simp only [Qs,Yv];refine go 2 ?_;refine Yk (Zy 2) λF _=>Yk (Zy 3) λe _=>go 8 ?_;refine cl 4 [1] (Yez _ _ _ _) λ⟨b,I,M⟩ _=>go 3 ?_;refine Zf (Qx 70 6 35 Qe)<|Zf (Yn qG 73)<|Yak (pre:=[Kl b 38 #[v],Kl I 3 #[.int .i64 fr],Kl M 3 #[.int .i64 d],Xt 6 Qe qG v ps]) (w0:=w0) (λ(_:Nat) (u:Value×List Zj)=>[(0,Yo w0 (λ_=>False)),(1,Xt 6 Qe qG v ps),(2,box F 38 #[u.1]),(3,box e 26 #[.int .i64 0]),(70,Oe 6 35 Qe u.1 u.2),(73,Lg qG u.2)]) (λk u=>Zq9 fr d ps k u.2) (λ(_:Unit)=>[(0,Yo w0 (λ_=>False)),(2,box F 38 #[.slice none 0 0]),(3,box e 26 #[.int .i64 7])]) (λ_=>Px fr d ps=false) (.slice none 0 0,[]) J (by intro B w;first|exact enters_of func229 O5 rfl B w|exact call229 B w) (Yb5 v ps b I M fr d Y hM) ?_ (λ_ _=>J) J P.h J (Yj0 fr d ps) K6 (λ_ _=>⟨J,J⟩) (λ_=>⟨J,J⟩) (λk x f u Z s l Mf Wa=>?_) J (λu s D od=>?_) (λ_ Q=>?_)
 .intro p hp;simp only [List.mem_cons,List.not_mem_nil,or_false]at hp;rcases hp with rfl|rfl|rfl|rfl
  .exact⟨J,4,J⟩
  .exact⟨J,5,J⟩
  .exact⟨J,6,J⟩
  .exact⟨J,1,J⟩
 .obtain⟨H,zs⟩:=u;have W:k<=ps.length:=Nat.le_trans (Nat.le_of_lt (List.getElem?_eq_some_iff.1 Z).1) (List.length_filter_le _ _);have a1:zs.length<=ps.length:=Yjy s W;refine Zew (env':=[(15,.bool (Zgo fr d x)),(14,.agg #[.int .i64 (cA fr x),.int .i64 (cB d x),.int .i64 (mdO (cO x) (cG fr d x)),Xi f.1,Xi f.2.1,Xi f.2.2]),(6,.pointer (some ⟨F,0,none⟩)),(7,.pointer (some ⟨e,0,none⟩))]) (H':=[(92,Yo Wa Mf),(100,Ys 1 Yg (Xi f.1) (mdL (cO x) (cG fr d x) (cX fr d x x.2.1.2))),(101,Ys 1 Yg (Xi f.2.1) (mdL (cO x) (cG fr d x) (cX fr d x x.2.2.1.2))),(102,Ys 1 Yg (Xi f.2.2) (mdL (cO x) (cG fr d x) (cX fr d x x.2.2.2.2))),(0,Yo w0 (λ_=>False)),(1,Xt 6 Qe qG v ps),(2,box F 38 #[H]),(3,box e 26 #[.int .i64 0]),(70,Oe 6 35 Qe H zs),(73,Lg qG zs)]) (λa w hs=>hs.weaken ⟨J,J,J,J,trivial⟩ ⟨J,J,J,J,J,J,J,J,J,J,trivial⟩)<|Zqz J<|Yk (Zy 8) λb8 _=>go 1 ?_;refine go 1 ?_;refine Yle<|Zqy J<|go 1 ?_;refine go 1 ?_;refine Ybs λa w hs=>⟨J,[(8,.pointer (some ⟨b8,0,none⟩)),(9,.bool (Zgo fr d x)),(6,.pointer (some ⟨F,0,none⟩)),(7,.pointer (some ⟨e,0,none⟩))],[(8,box b8 35 #[.int .i64 (cA fr x),.int .i64 (cB d x),.int .i64 (mdO (cO x) (cG fr d x)),Xi f.1,Xi f.2.1,Xi f.2.2]),(100,Ys 1 Yg (Xi f.1) (mdL (cO x) (cG fr d x) (cX fr d x x.2.1.2))),(101,Ys 1 Yg (Xi f.2.1) (mdL (cO x) (cG fr d x) (cX fr d x x.2.2.1.2))),(102,Ys 1 Yg (Xi f.2.2) (mdL (cO x) (cG fr d x) (cX fr d x x.2.2.2.2))),(0,Yo w0 (λ_=>False)),(1,Xt 6 Qe qG v ps),(2,box F 38 #[H]),(3,box e 26 #[.int .i64 0]),(70,Oe 6 35 Qe H zs),(73,Lg qG zs)],J,(λq h=>by cases h;rfl),⟨.inl J,.inr (λb n=>⟨100,_,J,n⟩),.inr (λb n=>⟨101,_,J,n⟩),.inr (λb n=>⟨102,_,J,n⟩),.inr (λb n=>⟨0,_,J,n⟩),.inr (λb n=>⟨1,_,J,n⟩),.inl J,.inl J,.inl J,.inr (λb n=>⟨73,_,J,n⟩),trivial⟩,hs.weaken ⟨J,J,J,J,trivial⟩ ⟨J,J,J,J,J,J,J,J,J,J,J,trivial⟩,λWb _=>?_⟩;refine Za1<|Iq<|Zqz J<|go 2 ?_;refine go 1 ?_;refine Yle<|Zuu J (λV=>?_) (λV=>?_)
  .refine Zqz J<|go 2 ?_;refine go 1 ?_;exact Yle<|Zxd λa w hs=>Or.inr ⟨J,(),Zxk Z (Zrn V),⟨.inr (λb n=>⟨0,_,J,n⟩),.inl J,.inl J,trivial⟩,[],hs.weaken trivial ⟨J,J,J,J,trivial⟩⟩
  .refine Zqx<|Zqy J<|go 2 ?_;refine tt (Qb (i:=12) (ivs:=[(0,_)]) (enc:=Qe) [(Zwb fr d x f)] J J K2 Lf ti35 J J (Zhr _ _ _ _ _ _ _ _ _ _ _ _) J J pG.cells J J P.h) (λv2 _=>?_);refine tt (Pp (i:=70) (j:=12) (by_:=96) J J J J J J O2 J (Yb pG) Lf ti35 J pG J J J O8 O2 J P.h) λv3 _=>go 2 ?_;exact Zv (Yn qC 71)<|Zv (Zq (q:=qC) (z:=(Zwb fr d x f).2.1) 71 100 71 J J J J J)<|Zv (Zq (q:=qC) (z:=(Zwb fr d x f).2.2.1) 71 101 71 J J J J J)<|Zv (Zq (q:=qC) (z:=(Zwb fr d x f).2.2.2) 71 102 71 J J J J J)<|Zv (Zq (q:=qG) (z:=(Zwb fr d x f)) 73 71 73 J J J J J)<|Ybs λa w hs=>Or.inl ⟨J,(v3,zs ++ [(Zwb fr d x f)]),cutI_s s Z (Zro V),⟨.inr (λb n=>⟨0,_,J,n⟩),.inr (λb n=>⟨1,_,J,n⟩),.inl J,.inl J,.inl J,.inr (Yik 73 100 J J J J),trivial⟩,[],hs.weaken trivial ⟨J,J,J,J,J,J,J,trivial⟩⟩
 .obtain⟨H,zs⟩:=u;obtain⟨R,S⟩:=Yjz s;refine go 3 ?_;refine go 1 ?_;refine Ybs λa w hs=>⟨J,[(6,.pointer (some ⟨F,0,none⟩)),(7,.pointer (some ⟨e,0,none⟩))],[(0,Yo w0 (λ_=>False)),(1,Xt 6 Qe qG v ps),(2,box F 38 #[H]),(3,box e 26 #[.int .i64 0]),(70,Oe 6 35 Qe H zs),(73,Lg qG zs)],J,⟨⟨_,J,J,λ_ h=>h⟩,⟨_,J,J,λ_ h=>h⟩,⟨_,J,J,λ_ h=>h⟩,⟨_,J,J,λ_ h=>h⟩,⟨_,J,J,λ_ h=>h⟩,⟨_,J,J,λ_ h=>h⟩,trivial⟩,hs.weaken ⟨J,J,trivial⟩ ⟨J,J,J,J,J,J,J,trivial⟩,?_⟩;exact Zv (Xs 70 J J pG)<|Zv (Qm 70 73 72 J J J J)<|Nr N (H,zs) results121 (by rw [S]) R (Ob 72 Za)
 .exact Zv (Dm 72 6 Qe qG)<|Nr N (.slice none 0 0,[]) results121 (by rw [(Yjw Q).2]) (Yjw Q).1 (Ob 72 Za)
open Go.RowKit (Below)
variable {P:Program} {N:Nat} {sc:Nat->Prop} {env env':Ph} {H H':Hp} {Q Q':Exit->Act->World->Prop} {M:Nat->Prop}
def wcr(l:List Int)(r:List Value):Array Value:=(l.map (Value.int .i64) ++ r).toArray
theorem Zjx(l:List Int)(r:List Value):(wcr l r).size=l.length+r.length:=by simp [wcr]
theorem Yli{l:List Int}{j:Nat}(h:j<l.length):(wcr l r)[j]? = some (.int .i64 (l.getD j 0)):=by simp [wcr,List.getElem?_append_left,h,List.getD_eq_getElem?_getD]
theorem Ylh{l:List Int}{j:Nat}{v:Int}(h:j<l.length):Fl (wcr l r) j [.int .i64 v]=wcr (l.set j v) r:=by
 unfold Fl wcr;congr 1;rw [List.set_eq_take_append_cons_drop,if_pos h,List.map_append,List.map_cons,List.map_take,List.map_drop];have d:j<=(l.map (Value.int .i64)).length:=by rw [List.length_map];omega
 have e:j+1<=(l.map (Value.int .i64)).length:=by rw [List.length_map];omega
 simp only [List.length_cons,List.length_nil,Nat.zero_add];rw [List.take_append_of_le_length d,List.drop_append_of_le_length e];simp
theorem Zxu(l:List Int):cellsOf Yg l=l.map (Value.int .i64):=by
 induction l with
 | nil=>rfl
 | cons x l d=>rw [show cellsOf Yg (x::l)=(Yg x).cells.toList ++ cellsOf Yg l from rfl,d];rfl
theorem f_obox{e:TypeId}(i:Nat)(hi:lk H i=some (Oe 1 e Yg v xs))(z:xs≠[]):∀a w,Sat N sc env H a w->∃y:Nat×Nat×List Value,
  v= .slice (some ⟨y.1,0,none⟩) xs.length y.2.1/\xs.length+y.2.2.length=y.2.1/\y.2.1<=maxLen/\w.heap[y.1]? = some (.cells (wcr xs y.2.2) e (0,0)):=λa w hs=>by
 have l:w.ownsRow 0 e 1 v xs.length (cellsOf Yg xs):=hs.hold i _ hi;rcases l.2 with⟨rfl,s⟩|⟨g,h,d,rfl,B,q,u,n,j,f⟩
 .exact absurd (List.eq_nil_of_length_eq_zero s) z
 .rw [Nat.mul_one]at j f;refine⟨(g,h,d.toList.drop xs.length),rfl,?_,n,?_⟩
  .show xs.length+(d.toList.drop xs.length).length=h;have p:d.toList.length=h:=by rw [Array.length_toList];exact j
   rw [List.length_drop,p];omega
  .show w.heap[g]? = some (.cells (wcr xs (d.toList.drop xs.length)) e (0,0));rw [show wcr xs (d.toList.drop xs.length)=d by unfold wcr;rw [<-Zxu,<-f,List.take_append_drop]]
   exact q
theorem s_obox {e:TypeId}      (i:Nat) (hi:lk H i=some (Oe 1 e Yg (.slice (some ⟨b,0,none⟩) xs.length c) xs)) (d:Nat.beq i 0=false) (f:lk H 0=some (Yo w0 M0)) (j:∀b,w0.heap.size<=b->sc b)
    (hs:Sat N sc env H a w) (g:w.heap[b]? = some (.cells (wcr xs r) e (0,0))):Sat N sc env ((i,box b e (wcr xs r))::H) a w:=
 hs.upd hi rfl (λe=>by subst e;simp at d) (Chg.refl _ w) g (λk h=> .inl (by show some b=some k;rw [show k=b from h])) f j
theorem e_obox {f:Code} {e:TypeId}     (i:Nat) (hi:lk H i=some (Oe 1 e Yg v xs)) (d:Nat.beq i 0=false) (s:xs≠[]) (g:lk H 0=some (Yo w0 M0)) (q:∀b,w0.heap.size<=b->sc b)
  (h:∀(b c:Nat) (r:List Value),v= .slice (some ⟨b,0,none⟩) xs.length c->xs.length+r.length=c->c<=maxLen->E P N sc f Q env ((i,box b e (wcr xs r))::H)):E P N sc f Q env H:=λa w hs=>by
 obtain⟨⟨b,c,r⟩,p,j,l,n⟩:=f_obox i hi s a w hs;subst p;exact h b c r rfl j l a w (s_obox i hi d g q hs n)
theorem Ymm{e:TypeId}(i:Nat)(hi:lk H i=some (box b e (wcr xs r)))(d:Nat.beq i 0=false)(g:xs.length+r.length=c)(l:c<=maxLen)(f:lk H 0=some (Yo w0 M0))(n:∀b,w0.heap.size<=b->sc b) :
  ∀a w,Sat N sc env H a w->Sat N sc env ((i,Oe 1 e Yg (.slice (some ⟨b,0,none⟩) xs.length c) xs)::H) a w:=λa w hs=>by
 have h:w.heap[b]? = some (.cells (wcr xs r) e (0,0)):=hs.hold i _ hi;refine hs.upd hi rfl (λe=>by subst e;simp at d) (Chg.refl _ w) ?_ (λk j=> .inl (by cases j;rfl)) f n;refine⟨by rw [Zxu,List.length_map,Nat.mul_one],.inr ⟨b,c,_,rfl,Nat.zero_le _,h,O,l,by rw [Zjx,Nat.mul_one];exact g,?_⟩⟩;rw [Zxu,Nat.mul_one];show((xs.map (Value.int .i64)) ++ r).take xs.length=_;rw [List.take_append_of_le_length (by rw [List.length_map];exact Nat.le_refl _),List.take_of_length_le (by rw [List.length_map];exact Nat.le_refl _)]
theorem Ay   {e:TypeId} {d n:Nat}   (j:o.op= .indexAddr t x y) (p:ev env x=some (.slice (some ⟨b,d,none⟩) n c)) (q:ev env y=some (.int kd m))
  (l:P.underlying t=some (.slice e)) (h:∀w,(sizeOf e).run P w= .ok 1 w) (f:m=(i:Int)) (g:i<n):Mo P N sc o env H (.pointer (some ⟨b,d+i,none⟩)):=λa w hs=>by
 subst f;simp [execOp,j,hs.ev p,hs.ev q,Instr.indexAt,asIntOf,run_underlying l,h,g,Py]
theorem Zq4   {e:TypeId} {d:Option Addr} {n:Nat} (f:o.op= .call { callee:= .builtin .len,args:=#[x],argTypes:=#[t] })
  (h:ev env x=some (.slice d n c)) (g:P.underlying t=some (.slice e)):Mo P N sc o env H (.int .i64 (n:Int)):=λa w hs=>by
 simp [execOp,f,resolve,hs.ev h,invoke,builtin,Builtin.len_,run_underlying g,goInt]
def Zc0{j:Nat}{l:List Int}(f:o.op= .load t x)(h:ev env x=some (.pointer (some ⟨b,j,none⟩)))(d:lk H i=some (box b tb (wcr l r)))(g:∀w,(isAgg t).run P w= .ok false w)(e:j<l.length) :
  Mo P N sc o env H (.int .i64 (l.getD j 0)):=Ydm f h d g (Yli e)
theorem Zsg    {j:Nat} {l:List Int}  {v:Int}   (q:o.op= .store t x y) (h:o.dst=none)
  (B:ev env x=some (.pointer (some ⟨b,j,none⟩))) (D:ev env y=some (.int .i64 v)) (f:lk H i=some (box b tb (wcr l r))) (d:i≠0) (p:∀w,(sizeOf t).run P w= .ok 1 w) (n:j<l.length)
  (e:lk H 0=some (Yo w0 M0)) (z:∀b,w0.heap.size<=b->sc b) (g:M b) :
  T P N sc M o env H (G:=Unit) (λ_=>True) (λ_=>env) (λ_=>(i,box b tb (wcr (l.set j v) r))::H):=by
 rw [<-Ylh n];exact Zj8 (vs:=[.int .i64 v]) q h B D f d rfl p rfl (by rw [Zjx];simp;omega) (λu s=>Yf (by rw [List.mem_singleton.1 s];rfl)) rfl e z g
theorem Yjj   {e:TypeId} {d n:Nat}   (q:o.op= .slice t x (some y) none none) (u:ev env x=some (.slice (some ⟨b,d,none⟩) n c)) (z:ev env y=some (.int kd m))
  (s:P.underlying t=some (.slice e)) (j:∀w,(sizeOf e).run P w= .ok 1 w) (f:m=(i:Int)) (l:i<n) (p:n<=c):Mo P N sc o env H (.slice (some ⟨b,d+i,none⟩) (n-i) (c-i)):=λa w hs=>by
 subst f;have g:i<=n:=O;have h:i<c:=O;simp [execOp,q,hs.ev u,hs.ev z,Instr.sliceAt,Instr.slice,Instr.sliceBounds,Instr.sliceBound,asIntOf,run_underlying s,j,g,h,p,Py];intro B;omega
theorem d_prew   {e:TypeId} {n:Nat}   (j:o.op= .slice t x none (some y) none) (p:ev env x=some (.slice (some ⟨b,0,none⟩) n c)) (q:ev env y=some (.int kd m))
  (l:P.underlying t=some (.slice e)) (h:∀w,(sizeOf e).run P w= .ok 1 w) (d:m=(i:Int)) (f:i<=n) (s:n<=c):Mo P N sc o env H (.slice (some ⟨b,0,none⟩) i c):=λa w hs=>by
 subst d;have g:i<=c:=O;simp [execOp,j,hs.ev p,hs.ev q,Instr.sliceAt,Instr.slice,Instr.sliceBounds,Instr.sliceBound,asIntOf,run_underlying l,h,f,g,Py]
theorem t_clw   {j:TypeId} {lo n B:Nat} {l:List Int}   
  (V:o.op= .call { callee:= .builtin .clear,args:=#[x],argTypes:=#[t] }) (R:o.dst=none)
  (hx:ev env x=some (.slice (some ⟨b,lo,none⟩) n B))  (p:lk H i=some (box b tb (wcr l r))) (f:i≠0)
  (hn:0<n) (S:lo+n=l.length) (W:P.underlying t=some (.slice j)) (z:∀w,(sizeOf j).run P w= .ok 1 w)
  (hz:∀w,(zeroValue j).run P w= .ok (.int .i64 0) w)
  (D:lk H 0=some (Yo w0 M0)) (Z:∀b,w0.heap.size<=b->sc b) (I:M b) :
  T P N sc M o env H (G:=Unit) (λ_=>True) (λ_=>env) (λ_=>(i,box b tb (wcr (l.take lo) (List.replicate n (Value.int .i64 0) ++ r)))::H):=λa w hs K Q F=>by
 have s:w.heap[b]? = some (.cells (wcr l r) tb (0,0)):=hs.hold i _ p;have h:(Builtin.zeroCells (Value.int .i64 0).cells n).toList=List.replicate n (Value.int .i64 0):=by
  apply List.ext_getElem
  .simp [Builtin.zeroCells,Value.cells]
  .intro i h2 h3;simp [Builtin.zeroCells,Value.cells,Nat.mod_one]
 have d:=run_storeCells_at P b lo tb (List.replicate n (Value.int .i64 0)) 0 (wcr l r) w s (by rw [Zjx,List.length_replicate];omega) (λu Y=>by rw [List.eq_of_mem_replicate Y];rfl);simp only [Nat.add_zero,List.length_replicate]at d;have e:((wcr l r).toList.take lo ++ List.replicate n (Value.int .i64 0) ++ (wcr l r).toList.drop (lo+n)).toArray=wcr (l.take lo) (List.replicate n (Value.int .i64 0) ++ r):=by unfold wcr;congr 1;show((l.map (Value.int .i64) ++ r).take lo ++ _) ++ (l.map (Value.int .i64) ++ r).drop (lo+n)=_;rw [List.take_append_of_le_length (by rw [List.length_map];omega),List.drop_append_of_le_length (by rw [List.length_map];omega),List.drop_eq_nil_of_le (by rw [List.length_map];omega),List.map_take,List.nil_append,List.append_assoc]
 rw [e]at d;obtain⟨m,rfl⟩:∃m,n=m+1:=⟨n-1,O⟩;have g:(execOp a.eval o).run P w= .ok (.value (.tuple #[])) (w.setRow b (wcr (l.take lo) (List.replicate (m+1) (Value.int .i64 0) ++ r))):=by simp only [execOp,V,resolve,invoke,builtin];simp [hs.ev hx,Builtin.clear_,run_underlying W,hz,h,d]
 unfold Oper.wp;rw [g];show K (a.put o.dst _) _;rw [R];exact F () _ _ trivial ((hs.upd p rfl f (q:=box b tb (wcr (l.take lo) (List.replicate (m+1) (Value.int .i64 0) ++ r))) (Kk (M:=λk=>k=b) _ rfl) (setRow_heap w b _ _ tb _ s) (λk z=> .inl z) D Z).put_none _) (Kk _ I)
theorem res0{fn:Func}(hs:Sat N sc env H a w)(d:fn.results=#[]):(results fn a.tmps).run P w= .ok (.tuple #[]) w:=by simp [results,d]
end Go.Sky
namespace Go.Sky
variable{i m k:Nat}{xs p q c:List Int}{a:Int}
def Srt(l:List Int)(n:Nat):Prop:=∀p q,p<q->q<n->l.getD p 0<=l.getD q 0
def Sst(l:List Int)(n:Nat):Prop:=∀p q,p<q->q<n->l.getD p 0<l.getD q 0
def Yk6(l:List Int)(i j:Nat):Prop:=∀p q,p<q->q<=i->q≠j->l.getD p 0<=l.getD q 0
def Sam(l m:List Int):Prop:=m.length=l.length/\∀x,x∈m↔x∈l
def Sam.rfl'(l:List Int):Sam l l:=⟨rfl,λ_=>Iff.rfl⟩
def Cx{l:List Int}{j:Nat}{v:Int}(hi:i<l.length):(l.set i v).getD j 0=if j=i then v else l.getD j 0:=Zhq hi
def swp(l:List Int)(j:Nat):List Int:=(l.set j (l.getD (j-1) 0)).set (j-1) (l.getD j 0)
theorem Zz0(l:List Int)(j:Nat):(swp l j).length=l.length:=by simp [swp]
theorem Za0{l:List Int}{j:Nat}(b:j<l.length)(d:1<=j)(k:Nat):(swp l j).getD k 0=if k=j-1 then l.getD j 0 else if k=j then l.getD (j-1) 0 else l.getD k 0:=by unfold swp;rw [Cx (by rw [List.length_set];omega),Cx b]
theorem Eb{l:List Int}{x:Int} : x∈l↔∃k,k<l.length/\l.getD k 0=x:=by
 constructor
 .intro h;obtain⟨k,b,e⟩:=List.mem_iff_getElem.1 h;exact⟨k,b,by rw [List.getD_eq_getElem?_getD,List.getElem?_eq_getElem b];exact e⟩
 .rintro⟨k,b,rfl⟩;exact Ze b
theorem Zy0{l:List Int}{j:Nat}(d:j<l.length)(f:1<=j):Sam l (swp l j):=⟨Zz0 l j,λx=>by
 rw [Eb,Eb,Zz0];constructor
 .rintro⟨k,g,e⟩;rw [Za0 d f]at e;by_cases a:k=j-1
  .rw [if_pos a]at e;exact⟨j,d,e⟩
  .rw [if_neg a]at e;by_cases b:k=j
   .rw [if_pos b]at e;exact⟨j-1,O,e⟩
   .rw [if_neg b]at e;exact⟨k,g,e⟩
 .rintro⟨k,g,e⟩;by_cases a:k=j-1
  .exact⟨j,d,by rw [Za0 d f,if_neg O,if_pos rfl,<-a];exact e⟩
  .by_cases b:k=j
   .exact⟨j-1,O,by rw [Za0 d f,if_pos rfl,<-b];exact e⟩
   .exact⟨k,g,by rw [Za0 d f,if_neg a,if_neg b];exact e⟩⟩
def Sam.trans{l m n:List Int}(h:Sam l m)(b:Sam m n):Sam l n:=⟨b.1.trans h.1,λx=>(b.2 x).trans (h.2 x)⟩
def srtx_0{l:List Int}(h:Srt l i):Yk6 l i i:=λp q b d e=>h p q b O
theorem Zsn{l:List Int}{j:Nat}(h:Yk6 l i j)(f:j<l.length)(e:1<=j)(o:j<=i)(r:l.getD j 0<l.getD (j-1) 0):Yk6 (swp l j) i (j-1):=λp q g d n=>by
 rw [Za0 f e,Za0 f e,if_neg n];by_cases a:q=j
 .rw [if_pos a];by_cases b:p=j-1
  .rw [if_pos b];omega
  .rw [if_neg b,if_neg O];exact h p (j-1) O O O
 .rw [if_neg a];by_cases b:p=j-1
  .rw [if_pos b];exact h j q O d a
  .rw [if_neg b];by_cases c:p=j
   .rw [if_pos c];exact h (j-1) q O d a
   .rw [if_neg c];exact h p q g d a
theorem Yer{l:List Int}{j:Nat}(h:Yk6 l i j)(n:j<=i)(f:j=0\/(1<=j/\¬l.getD j 0<l.getD (j-1) 0)):Srt l (i+1):=λp q e g=>by
 by_cases a:q=j
 .rcases f with b|⟨b,c⟩
  .omega
  .subst a;by_cases d:p=q-1
   .subst d;omega
   .have:=h p (q-1) O O O;omega
 .exact h p q e O a
def srt_1(l:List Int):Srt l 1:=λp q b d=>O
structure Cmp (xs zs:List Int):Prop where
 s:Sst zs zs.length
 m:∀x,x∈zs↔x∈xs
theorem Yeq{l:List Int}{n:Nat}(h:Srt l n)(e:∀q,1<=q->q<n->l.getD q 0≠l.getD (q-1) 0):Sst l n:=λp q f d=>by
 have g:=e q O d;have j:=h (q-1) q O d;rcases Nat.lt_or_eq_of_le (show p<=q-1 by omega)with b|b
 .have:=h p (q-1) b O;omega
 .subst b;omega
def Yo6{l:List Int}(h:Srt l l.length)(b:∀q,1<=q->q<l.length->l.getD q 0≠l.getD (q-1) 0):Cmp l l:=⟨Yeq h b,λx=>Iff.rfl⟩
structure Cml (xs l:List Int) (m k:Nat):Prop where
 k1:1<=k
 km:k<m
 ml:m<=xs.length
 ll:l.length=xs.length
 r:∀q,m<=q+1->l.getD q 0=xs.getD q 0
 s:Sst l k
 e:∀x,(∃p,p<k/\l.getD p 0=x)↔∃p,p<m/\xs.getD p 0=x
 z:l.getD (k-1) 0=xs.getD (m-1) 0
theorem cml_0(hs:Srt xs xs.length)(f:∀q,1<=q->q<k->xs.getD q 0≠xs.getD (q-1) 0)(g:1<=k)(h:k<xs.length)(e:xs.getD k 0=xs.getD (k-1) 0):Cml xs xs (k+1) k:=
 ⟨g,O,O,rfl,λq _=>rfl,Yeq (λp q d b=>hs p q d O) f,λx=>by
  constructor
  .rintro⟨p,d,b⟩;exact⟨p,O,b⟩
  .rintro⟨p,d,b⟩;by_cases a:p=k
   .subst a;exact⟨p-1,O,by rw [<-e];exact b⟩
   .exact⟨p,O,b⟩,by rw [show k+1-1=k by omega];exact e.symm⟩
theorem cml_eq{l:List Int}(h:Cml xs l m k)(o:m<xs.length)(f:l.getD m 0=l.getD (m-1) 0):Cml xs l (m+1) k:=by
 have d:=h.r m O;have e:=h.r (m-1) (by have:=h.k1;have:=h.km;omega);have j:=h.k1;have n:=h.km;refine⟨h.k1,O,o,h.ll,λq r=>h.r q O,h.s,λx=>(h.e x).trans ⟨?_,?_⟩,?_⟩
 .rintro⟨p,g,b⟩;exact⟨p,O,b⟩
 .rintro⟨p,g,b⟩;by_cases a:p=m
  .subst a;exact⟨p-1,O,by rw [<-b,<-d,<-e];exact f.symm⟩
  .exact⟨p,O,b⟩
 .rw [h.z,show m+1-1=m by omega,<-d,<-e];exact f.symm
theorem cml_ne{l:List Int}(hs:Srt xs xs.length)(h:Cml xs l m k)(n:m<xs.length)(v:l.getD m 0≠l.getD (m-1) 0):Cml xs (l.set k (l.getD m 0)) (m+1) (k+1):=by
 have f:=h.r m O;have o:=h.k1;have r:=h.km;have u:=h.r (m-1) O;have s:=h.ll;have b:k<l.length:=O;have t:xs.getD (m-1) 0<xs.getD m 0:=by have:=hs (m-1) m O n;omega
 refine⟨O,O,n,by rw [List.length_set];exact h.ll,λq w=>?_,λp q g d=>?_,λx=>?_,?_⟩
 .rw [Cx b,if_neg O];exact h.r q O
 .rw [Cx b,Cx b,if_neg (show p≠k by omega)];by_cases a:q=k
  .rw [if_pos a,f];have y:=h.z;rcases Nat.lt_or_eq_of_le (show p<=k-1 by omega)with e|e
   .have:=h.s p (k-1) e O;omega
   .subst e;omega
  .rw [if_neg a];exact h.s p q g O
 .constructor
  .rintro⟨p,g,d⟩;rw [Cx b]at d;by_cases a:p=k
   .rw [if_pos a,f]at d;exact⟨m,O,d⟩
   .rw [if_neg a]at d;obtain⟨q,e,j⟩:=(h.e x).1 ⟨p,O,d⟩;exact⟨q,O,j⟩
  .rintro⟨p,g,d⟩;by_cases a:p=m
   .exact⟨k,O,by rw [Cx b,if_pos rfl,f,<-a];exact d⟩
   .obtain⟨q,e,j⟩:=(h.e x).2 ⟨p,O,d⟩;exact⟨q,O,by rw [Cx b,if_neg O];exact j⟩
 .rw [show k+1-1=k by omega,Cx b,if_pos rfl,show m+1-1=m by omega];exact f
theorem Zji{l:List Int}{p:Nat}(h:p<k):(l.take k).getD p 0=l.getD p 0:=by rw [List.getD_eq_getElem?_getD,List.getD_eq_getElem?_getD,List.getElem?_take_of_lt h]
theorem cml_e{l:List Int}(h:Cml xs l xs.length k):Cmp xs (l.take k):=by
 have g:=h.km;have f:=h.ll;have e:(l.take k).length=k:=by rw [List.length_take];omega
 refine⟨λp q d b=>?_,λx=>?_⟩
 .rw [e]at b;rw [Zji O,Zji b];exact h.s p q d b
 .rw [Eb,Eb,<-h.e x,e];constructor
  .rintro⟨p,d,b⟩;rw [Zji d]at b;exact⟨p,d,b⟩
  .rintro⟨p,d,b⟩;exact⟨p,d,by rw [Zji d];exact b⟩
def Zll(x:Int):List Int->List Int
 | []=>[x]
 | y::l=>if x<y then x::y::l else if x=y then y::l else y::Zll x l
def Inc:List Int->Prop
 | []=>True
 | x::l=>(∀y∈l,x<y)/\Inc l
theorem Zla{x z:Int} : ∀{l:List Int},z∈Zll x l↔z=x\/z∈l
 | []=>by simp [Zll]
 | y::l=>by
  unfold Zll;split
  .simp
  .split
   .rename_i h;subst h;simp
   .rw [List.mem_cons,Zla,List.mem_cons];constructor
    .rintro(h|h|h)
     .exact .inr (.inl h)
     .exact .inl h
     .exact .inr (.inr h)
    .rintro(h|h|h)
     .exact .inr (.inl h)
     .exact .inl h
     .exact .inr (.inr h)
theorem Zuk{x:Int} : ∀{l:List Int},Inc l->Inc (Zll x l)
 | [],_=>⟨λy h=>(nomatch h),trivial⟩
 | y::l,h=>by
  unfold Zll;split
  .rename_i d;exact⟨λz b=>by
    rcases List.mem_cons.1 b with rfl|b
    .exact d
    .have:=h.1 z b;omega,h⟩
  .split
   .exact h
   .refine⟨λz b=>?_,Zuk h.2⟩;rcases Zla.1 b with rfl|b
    .omega
    .exact h.1 z b
def Zso(l:List Int):List Int:=l.foldr Zll []
def Zlm:∀(l:List Int),Inc (Zso l)
 | []=>trivial
 | x::l=>Zuk (Zlm l)
theorem Zk9{z:Int} : ∀{l:List Int},z∈Zso l↔z∈l
 | []=>Iff.rfl
 | x::l=>by show z∈Zll x (Zso l)↔_;rw [Zla,Zk9,List.mem_cons]
theorem Yh7:∀{l m:List Int},Inc l->Inc m->(∀x,x∈l↔x∈m)->l=m
 | [],[],_,_,_=>rfl
 | [],y::m,_,_,h=>absurd ((h y).2 (List.mem_cons_self ..)) (λh=>nomatch h)
 | x::l,[],_,_,h=>absurd ((h x).1 (List.mem_cons_self ..)) (λh=>nomatch h)
 | x::l,y::m,hl,hm,h=>by
  have e:x=y:=by
   have f:=(h x).1 (List.mem_cons_self ..);have d:=(h y).2 (List.mem_cons_self ..);rcases List.mem_cons.1 f with b|b
   .exact b
   .rcases List.mem_cons.1 d with g|g
    .exact g.symm
    .have:=hm.1 x b;have:=hl.1 y g;omega
  subst e;rw [Yh7 hl.2 hm.2 λz=>by
   have f:=h z;rw [List.mem_cons,List.mem_cons]at f;constructor
   .intro d;rcases f.1 (.inr d)with b|b
    .subst b;have:=hl.1 z d;omega
    .exact b
   .intro d;rcases f.2 (.inr d)with b|b
    .subst b;have:=hm.1 z d;omega
    .exact b]
theorem Zz4:∀{l:List Int},Sst l l.length->Inc l
 | [],_=>trivial
 | x::l,h=>⟨λy b=>by obtain⟨k,f,rfl⟩:=Eb.1 b;exact h 0 (k+1) O O8,Zz4 λp q d e=>h (p+1) (q+1) O O8⟩
theorem Yj5{ys zs:List Int}(d:Sam xs ys)(b:Cmp ys zs):zs=Zso xs:=
 Yh7 (Zz4 b.s) (Zlm xs) λx=>by rw [b.m,d.2,Zk9]
theorem Zyk:∀{l:List Int},Inc l->Sst l l.length
 | [],_=>λp q _ h=>absurd h (Nat.not_lt_zero _)
 | x::l,h=>λp q b d=>by
  match p,q,b with
  | 0,q+1,_=>
   show x<l.getD q 0;exact h.1 _ (Ze (by simp at d;omega))
  | p+1,q+1,b=>exact Zyk h.2 p q O (by simp at d;omega)
def Yn0(j:Nat):j=0\/1<=j:=O
theorem hd_s(h:∀q,1<=q->q<k->xs.getD q 0≠xs.getD (q-1) 0)(d:¬xs.getD k 0=xs.getD (k-1) 0):∀q,1<=q->q<k+1->xs.getD q 0≠xs.getD (q-1) 0:=λq e f=>by
 rcases Nat.lt_succ_iff_lt_or_eq.1 f with b|b
 .exact h q e b
 .subst b;exact d
open Go.Proofs.Tryz
open Go.Proofs
set_option synthInstance.maxHeartbeats 0
set_option synthInstance.maxSize 100000
set_option maxRecDepth 20000
set_option maxHeartbeats 1000000
set_option linter.unusedSimpArgs false
theorem Yo5(x:Int):Qf prog 278 #[.int .i64 x] [] (.bool false):=by refine Zg func278 ntmps278 λf e d b=>go 9 ?_;refine kf (decide_eq_false (λh=>h J))<|go 4 ?_;exact Xu b () results278 J trivial Za
theorem Yj6(x y:Int):Qf prog 247 #[.int .i64 x,.int .i64 y] [] (.bool (decide (x<y))):=by refine Zg func247 ntmps247 λf e d b=>go 8 ?_;refine cl 0 [] (Yo5 _) λ_ _=>go 14 ?_;exact Xu b () results247 J trivial Za
theorem Ydq(x:Nat)(d:x<U):Qf prog 204 #[.int .u64 (x:Int)] [] (.int .i64 (bl x:Int)):=by refine Zg func204 ntmps204 λg f e b=>go 12 ?_;refine cl 0 [] (Zvq _ d) λ_ _=>go 4 ?_;exact Xu b () results204 J trivial Za
set_option maxHeartbeats 1000000 in
theorem sl_ins(b c:Nat)(xs:List Int)(r:List Value)(H:1<=xs.length)(M:xs.length<=12):Zdb prog 241 #[.slice (some ⟨b,0,none⟩) xs.length c,.int .i64 0,.int .i64 (xs.length:Int)] [] false b 3 (wcr xs r) (G:=List Int) (λg=>Sam xs g/\Srt g g.length) (λg=> .tuple #[]) (λg=>wcr g r) (λg=>[]):=by
 refine Em func241 J ntmps241 J trivial ?_;intro P N o F;have o:=Hw.mk o;simp only [Qs,Yv];refine go 8 ⟨O,?_⟩;refine lp (G:=Nat×List Int) [0,1,2] [0] (λq=>[(6,.int .i64 (q.1:Int))]) (λq=>[(1,box b 3 (wcr q.2 r))]) (λq=>(1<=q.1)/\(q.1<=xs.length)/\(Sam xs q.2)/\(Srt q.2 q.1)) (λq=>xs.length-q.1) (1,xs) ⟨O1,O1,Sam.rfl' xs,srt_1 xs⟩ K1 K1 ?_;rintro⟨i,l⟩ ⟨z,B,v,hs⟩;dsimp only at z B v hs;dsimp only;have D:=v.1;refine go 8 ?_;refine Zc J (λx=>?_) (λx=>?_)
 .refine go 11 ?_;refine lp (G:=Nat×List Int) [0,1,2,6] [0] (λq=>[(7,.int .i64 (q.1:Int))]) (λq=>[(1,box b 3 (wcr q.2 r))]) (λq=>(q.1<=i)/\(Sam xs q.2)/\(Yk6 q.2 i q.1)) (λq=>q.1) (i,l) ⟨Nat.le_refl _,v,srtx_0 hs⟩ K1 K1 ?_;rintro⟨j,m⟩ ⟨s,d,u⟩;dsimp only at s d u;dsimp only;have I:=d.1;refine go 2 ?_;rcases Yn0 j with e|e
  .refine Xz (λ_=>False) [(0,0),(1,0),(2,0),(3,0),(4,2),(5,2),(6,2),(7,2),(8,2),(9,2),(10,2),(11,2),(12,2),(13,2),(14,0)]<|go 2 ?_;refine Xj J J (Xl (dF (Za3 J J J) (vB (decide_eq_false O))))<|go 26 ⟨O,?_⟩;exact Yq (i+1,m) ⟨O1,O1,d,Yer u s (.inl e)⟩ O1 K1 K1
  .refine Xz (λ_=>False) [(0,0),(1,0),(2,0),(3,0),(4,0),(5,0),(6,0),(7,0),(8,0),(9,0),(10,0),(11,0),(12,0),(13,1),(14,0)]<|go 2 ?_;refine Xj J J (Xl (dT (Za3 J J J) (vB (decide_eq_true O))))<|go 3 ?_;refine Fr (Xl (Yz (r':= .pointer (some ⟨b,j,none⟩)) (Ay (i:=j) J J J Pe Kg O O) (by rw [Nat.zero_add]))) J J J J J<|Fr (Xl (Yz (r':= .int .i64 (m.getD j 0)) (Zc0 (i:=1) J J J Av O) (congrArg (λq=>Value.int .i64 (m.getD q 0)) O))) J J J J J<|go 3 ⟨O,?_⟩;refine Fr (Xl (Yz (r':= .pointer (some ⟨b,j-1,none⟩)) (Ay (i:=(j-1)) J J J Pe Kg O O) (by rw [Nat.zero_add]))) J J J J J<|Fr (Xl (Yz (r':= .int .i64 (m.getD (j-1) 0)) (Zc0 (i:=1) J J J Av O) (congrArg (λq=>Value.int .i64 (m.getD q 0)) O))) J J J J J<|Zep J J J J J (Qj (n:=1) (Yj6 _ _) J J J K2 call247 Zs J o.h) λ_ _=>go 3 ?_;refine Zc J (λf=>?_) (λf=>?_)
   .have t:=f;refine go 4 ?_;refine Nm [] [17]<|Zh (n:=6) [(0,0),(1,0),(2,0),(3,0),(4,0),(5,0),(6,0),(7,0),(8,0),(10,0),(11,0),(12,0)]<|go 8 ⟨O,O,?_⟩;refine Xj J J (Bc (Yz (r':= .pointer (some ⟨b,j-1,none⟩)) (Ay (i:=(j-1)) J J J Pe Kg O O) (by rw [Nat.zero_add])) trivial)<|go 2 ?_;refine Xj J J (Bc (Yz (r':= .pointer (some ⟨b,j,none⟩)) (Ay (i:=j) J J J Pe Kg O O) (by rw [Nat.zero_add])) trivial)<|go 1 ?_;refine Qd (n:=5) 9 13 ?_ ?_
    .refine Gb J (Zam (Yz (r':= .int .i64 (m.getD (j-1) 0)) (Zc0 (i:=1) J J J Av O) (congrArg (λq=>Value.int .i64 (m.getD q 0)) O)) J) (λ_ _=>?_);refine Zh (n:=0) [(13,1),(14,0),(15,1),(16,0),(17,3)]<|Fi J (Zam (Yz (r':= .int .i64 (m.getD j 0)) (Zc0 (i:=1) J J J Av O) (congrArg (λq=>Value.int .i64 (m.getD q 0)) O)) J) (λ_ _=>?_);refine Xj J J (Bc (Yz (r':= .pointer (some ⟨b,j,none⟩)) (Ay (i:=j) J J J Pe Kg O O) (by rw [Nat.zero_add])) trivial)<|Fi J (Zsg (i:=1) J J J J J O2 Kg O J o.h (λ_ h=>nomatch h)) (λ_ _=>?_);refine Xj J J (Bc (Yz (r':= .pointer (some ⟨b,j-1,none⟩)) (Ay (i:=(j-1)) J J J Pe Kg O O) (by rw [Nat.zero_add])) trivial)<|r3' J (Zsg (i:=1) J J J J J O2 Kg (by rw [List.length_set];omega) J o.h trivial) λ_ _=>go 1 ?_;refine Zp<|go 7 ⟨O,?_⟩;exact Yq (j-1,swp m j) ⟨O1,d.trans (Zy0 O O),Zsn u O e s t⟩ O1 ⟨(congrArg (λq:Int=>some (Value.int .i64 q)) (show(j:Int)-1=((j-1:Nat):Int) by omega)),trivial⟩ K1
    .refine Gb J (Zam (Yz (r':= .int .i64 (m.getD j 0)) (Zc0 (i:=1) J J J Av O) (congrArg (λq=>Value.int .i64 (m.getD q 0)) O)) J) (λ_ _=>?_);refine Zh (n:=0) [(9,1),(14,0),(15,1),(16,0),(17,3)]<|Fi J (Zam (Yz (r':= .int .i64 (m.getD (j-1) 0)) (Zc0 (i:=1) J J J Av O) (congrArg (λq=>Value.int .i64 (m.getD q 0)) O)) J) (λ_ _=>?_);refine Xj J J (Bc (Yz (r':= .pointer (some ⟨b,j,none⟩)) (Ay (i:=j) J J J Pe Kg O O) (by rw [Nat.zero_add])) trivial)<|Fi J (Zsg (i:=1) J J J J J O2 Kg O J o.h (λ_ h=>nomatch h)) (λ_ _=>?_);refine Xj J J (Bc (Yz (r':= .pointer (some ⟨b,j-1,none⟩)) (Ay (i:=(j-1)) J J J Pe Kg O O) (by rw [Nat.zero_add])) trivial)<|r3' J (Zsg (i:=1) J J J J J O2 Kg (by rw [List.length_set];omega) J o.h trivial) λ_ _=>go 1 ?_;refine Zp<|go 7 ⟨O,?_⟩;exact Yq (j-1,swp m j) ⟨O1,d.trans (Zy0 O O),Zsn u O e s t⟩ O1 ⟨(congrArg (λq:Int=>some (Value.int .i64 q)) (show(j:Int)-1=((j-1:Nat):Int) by omega)),trivial⟩ K1
   .have y:=f;refine go 11 ⟨O,?_⟩;exact Yq (i+1,m) ⟨O1,O1,d,Yer u s (.inr ⟨e,y⟩)⟩ O1 K1 K1
 .obtain rfl:i=xs.length:=O;refine go 4 ?_;exact Ew (.inr J) F l _ (λa w hs=>res0 hs results241) J ⟨v,by rw [D];exact hs⟩ 1 J J J J Za
set_option maxHeartbeats 1000000 in
theorem sl_pdq(b c:Nat)(xs:List Int)(r:List Value)(j:Int)(e:1<=xs.length)(o:xs.length<=12):Zdb prog 203 #[.slice (some ⟨b,0,none⟩) xs.length c,.int .i64 0,.int .i64 (xs.length:Int),.int .i64 j] [] false b 3 (wcr xs r) (G:=List Int) (λg=>Sam xs g/\Srt g g.length) (λg=> .tuple #[]) (λg=>wcr g r) (λg=>[]):=by refine Em func203 J ntmps203 J trivial ?_;intro t s h f;have h:=Hw.mk h;simp only [Qs,Yv];refine go 11 ?_;refine lp (G:=Nat) [0] [0,1] (λk=>[(1,.int .i64 0),(2,.int .i64 (xs.length:Int))]) (λk=>[]) (λk=>True) (λk=>k) 0 trivial K2 trivial ?_;rintro k -;refine go 13 ⟨O,?_⟩;refine kt (decide_eq_true O)<|go 8 ?_;refine tt (Qr (n:=1) (i:=1) (sl_ins _ _ _ _ e o) J J J K3 call241 J O2 Zs J h.h trivial) λl d=>go 7 ?_;exact Ew (.inl J) f l _ (λa w hs=>res0 hs results203) J d 1 J J J J Za
set_option maxHeartbeats 1000000 in
theorem Ymc(b c:Nat)(xs:List Int)(r:List Value)(e:1<=xs.length)(l:xs.length<=12):Zdb prog 150 #[.slice (some ⟨b,0,none⟩) xs.length c] [] false b 3 (wcr xs r) (G:=List Int) (λg=>Sam xs g/\Srt g g.length) (λg=> .tuple #[]) (λg=>wcr g r) (λg=>[]):=by refine Em func150 J ntmps150 J trivial ?_;intro s o h f;have h:=Hw.mk h;simp only [Qs,Yv];refine go 3 ?_;refine dt (Zq4 J J Pe)<|go 7 ?_;refine dt (Yz (r':= .int .u64 (xs.length:Int)) (Zq8 J J uT3 Zyb (by simp only [U];omega)) J)<|cl 1 [] (Ydq xs.length (by simp only [U];omega)) λ_ _=>?_;refine tt (Qr (n:=1) (i:=1) (sl_pdq _ _ _ _ _ e l) J J J K4 call203 J O2 Zs J h.h trivial) λj d=>go 1 ?_;exact Ew (.inr J) f j _ (λa w hs=>res0 hs results150) J d 1 J J J J Za
set_option maxHeartbeats 1000000 in
theorem sl_cmp(b c:Nat)(xs:List Int)(r:List Value)(Q:2<=xs.length)(V:xs.length<=12)(R:xs.length<=c)(n:Srt xs xs.length):Zdb prog 151 #[.slice (some ⟨b,0,none⟩) xs.length c] [] false b 3 (wcr xs r) (G:=List Int×List Value) (λg=>Cmp xs g.1/\g.1.length+g.2.length=xs.length+r.length) (λg=> .slice (some ⟨b,0,none⟩) g.1.length c) (λg=>wcr g.1 g.2) (λg=>[]):=by
 refine Em func151 J ntmps151 J trivial ?_;intro Y W u t;have u:=Hw.mk u;simp only [Qs,Yv];refine go 9 ?_;refine dt (Zq4 J J Pe)<|kf (decide_eq_false O)<|go 12 ?_;refine lp (G:=Nat) [0] [0,1] (λk=>[(3,.int .i64 (k:Int))]) (λk=>[]) (λk=>(1<=k)/\(k<=xs.length)/\(∀q,1<=q->q<k->xs.getD q 0≠xs.getD (q-1) 0)) (λk=>xs.length-k) 1 ⟨O1,O1,λq D F=>absurd F O⟩ K1 trivial ?_;rintro k ⟨y,I,v⟩;refine go 5 ?_;refine dt (Zq4 J J Pe)<|go 3 ?_;refine Zc J (λo=>?_) (λo=>?_)
 .refine go 5 ?_;refine Xz (λ_=>False) [(0,0),(1,0),(2,0),(3,0),(4,0),(5,0),(6,0),(7,0),(8,0),(9,0)]<|go 2 ?_;refine Xj J J (Xl (Yz (r':= .pointer (some ⟨b,k,none⟩)) (Ay (i:=k) J J J Pe Kg O O) (by rw [Nat.zero_add])))<|Xj J J (Xl (Yz (r':= .int .i64 (xs.getD k 0)) (Zc0 (i:=1) J J J Av O) (congrArg (λq=>Value.int .i64 (xs.getD q 0)) O)))<|go 3 ⟨O,?_⟩;refine Xj J J (Xl (Yz (r':= .pointer (some ⟨b,k-1,none⟩)) (Ay (i:=(k-1)) J J J Pe Kg O O) (by rw [Nat.zero_add])))<|Xj J J (Xl (Yz (r':= .int .i64 (xs.getD (k-1) 0)) (Zc0 (i:=1) J J J Av O) (congrArg (λq=>Value.int .i64 (xs.getD q 0)) O)))<|go 3 ?_;refine Zc J (λd=>?_) (λd=>?_)
  .have H:=d;refine go 4 ?_;refine dt (Yz (r':= .slice (some ⟨b,k,none⟩) (xs.length-k) (c-k)) (Yjj (i:=k) J J J Pe Kg J O O) (by rw [Nat.zero_add]))<|go 10 ?_;refine lp (G:=Nat×Nat×List Int) [0,4] [0] (λq=>[(5,.int .i64 (q.1:Int)),(3,.int .i64 (q.2.1:Int))]) (λq=>[(1,box b 3 (wcr q.2.2 r))]) (λq=>(1<=q.1)/\(Cml xs q.2.2 (k+q.1) q.2.1)) (λq=>xs.length-k-q.1) (1,k,xs) ⟨O1,cml_0 n v y O H⟩ K2 K1 ?_;rintro⟨j,kk,l⟩ ⟨x,f⟩;dsimp only at x f;dsimp only;have S:=f.ll;have M:=f.k1;have N:=f.km;have P:=f.ml;refine go 5 ?_;refine dt (Zq4 J J Pe)<|go 3 ?_;refine Zc J (λs=>?_) (λs=>?_)
   .refine go 5 ?_;refine Xz (λ_=>False) [(0,0),(1,0),(2,0),(3,0),(4,0),(5,0),(6,0),(7,0),(8,0),(9,0)]<|go 2 ?_;refine Xj J J (Xl (Ay (i:=j) J J J Pe Kg O O))<|Xj J J (Xl (Yz (r':= .int .i64 (l.getD (k+j) 0)) (Zc0 (i:=1) J J J Av O) (congrArg (λq=>Value.int .i64 (l.getD q 0)) O)))<|go 3 ⟨O,?_⟩;refine Xj J J (Xl (Ay (i:=(j-1)) J J J Pe Kg O O))<|Xj J J (Xl (Yz (r':= .int .i64 (l.getD (k+j-1) 0)) (Zc0 (i:=1) J J J Av O) (congrArg (λq=>Value.int .i64 (l.getD q 0)) O)))<|go 3 ?_;refine Zc J (λe=>?_) (λe=>?_)
    .have h:=e;refine go 6 ?_;refine dt (Ay (i:=j) J J J Pe Kg O O)<|dt (Yz (r':= .int .i64 (l.getD (k+j) 0)) (Zc0 (i:=1) J J J Av O) (congrArg (λq=>Value.int .i64 (l.getD q 0)) O))<|dt (Yz (r':= .pointer (some ⟨b,kk,none⟩)) (Ay (i:=kk) J J J Pe Kg J O) (by rw [Nat.zero_add]))<|tt (Zsg (i:=1) J J J J J O2 Kg O J u.h trivial) (λ_ _=>?_);refine go 14 ⟨O,O,?_⟩;exact Yq (j+1,kk+1,l.set kk (l.getD (k+j) 0)) ⟨O1,cml_ne (m:=k+j) n f O h⟩ O1 K2 K1
    .have h:=e;refine go 8 ⟨O,?_⟩;exact Yq (j+1,kk,l) ⟨O1,cml_eq (m:=k+j) f O (Decidable.not_not.1 h)⟩ O1 K2 K1
   .obtain z:k+j=xs.length:=O;rw [z]at f;refine go 9 ?_;refine dt (Yz (r':= .slice (some ⟨b,kk,none⟩) (xs.length-kk) (c-kk)) (Yjj (i:=kk) J J J Pe Kg J O O) (by rw [Nat.zero_add]))<|tt (t_clw (i:=1) J J J J O2 O O Pe Kg (λw=>zeroValue3 w) J u.h trivial) λ_ _=>go 6 ?_;refine dt (d_prew (i:=kk) J J J Pe Kg J O O)<|go 9 ?_;exact Ew (.inl J) t (l.take kk,List.replicate (xs.length-kk) (.int .i64 0) ++ r) _ (λa w hs=>Zbm hs results151 J) (by rw [List.length_take,Nat.min_eq_left O]) ⟨cml_e f,O8⟩ 1 J J J J Za
  .have B:=d;refine go 8 ⟨O,?_⟩;exact Yq (k+1) ⟨O1,O1,hd_s v B⟩ O1 K1 trivial
 .refine go 12 ?_;exact Ew (.inl J) t (xs,r) _ (λa w hs=>Zbm hs results151 J) J ⟨Yo6 n (λq D F=>v q D O),J⟩ 1 J J J J Za
def Hr(f:Nat->Rat):Nat->Rat
 | 0=>0
 | n+1=>Hr f n+f n
def Nt(f:Nat->Rat)(n:Nat):Hr f (n+1)=Hr f n+f n:=rfl
theorem Lb{f g:Nat->Rat} : ∀n,(∀i,i<n->f i=g i)->Hr f n=Hr g n
 | 0,_=>rfl
 | n+1,h=>by rw [Nt,Nt,Lb n λi hi=>h i O,h n O]
theorem Dc(f:Nat->Rat):∀n,Hr f (n+1)=f 0+Hr (λi=>f (i+1)) n
 | 0=>by show 0+f 0=f 0+0;grind
 | n+1=>by rw [Nt,Dc f n,Nt];grind
theorem Zku(f g:Nat->Rat):∀n,Hr (λi=>f i+g i) n=Hr f n+Hr g n
 | 0=>by show(0:Rat)=0+0;grind
 | n+1=>by rw [Nt,Nt,Nt,Zku f g n];grind
theorem Fx(c:Rat)(f:Nat->Rat):∀n,Hr (λi=>c*f i) n=c*Hr f n
 | 0=>by show(0:Rat)=c*0;grind
 | n+1=>by rw [Nt,Nt,Fx c f n];grind
theorem Zl7(n:Nat):Oi n 0=1:=by cases n<;>rfl
def chz_s(n k:Nat):Oi (n+1) (k+1)=Oi n k+Oi n (k+1):=rfl
theorem Yko{u w:Rat}(h:u+w=1):∀n,Hr (λj=>(Oi n j:Rat)*(u^j*w^(n-j))) (n+1)=1
 | 0=>by rw [Dc];show((Oi 0 0:Nat):Rat)*(u^0*w^0)+0=1;rw [Zl7,Rat.pow_zero,Rat.pow_zero];push_cast;grind
 | n+1=>by
  have b:=Yko h n;rw [Dc];have d:Hr (λi=>(Oi (n+1) (i+1):Rat)*(u^(i+1)*w^(n+1-(i+1)))) (n+1)=Hr (λi=>u*((Oi n i:Rat)*(u^i*w^(n-i)))) (n+1)+Hr (λi=>(Oi n (i+1):Rat)*(u^(i+1)*w^(n-i))) (n+1):=by rw [<-Zku];refine Lb _ λi hi=>?_;rw [chz_s,show n+1-(i+1)=n-i by omega,Rat.pow_succ];push_cast;grind
  have e:Hr (λi=>(Oi n (i+1):Rat)*(u^(i+1)*w^(n-i))) (n+1)=Hr (λi=>(Oi n (i+1):Rat)*(u^(i+1)*w^(n-i))) n:=by rw [Nt,Zl6 n (n+1) O];push_cast;grind
  have f:w*Hr (λj=>(Oi n j:Rat)*(u^j*w^(n-j))) (n+1)=w^(n+1)+Hr (λi=>(Oi n (i+1):Rat)*(u^(i+1)*w^(n-i))) n:=by
   rw [<-Fx,Dc,Zl7];congr 1
   .rw [Nat.sub_zero,Rat.pow_zero,Rat.pow_succ];push_cast;grind
   .refine Lb _ λi hi=>?_;rw [show n-i=(n-(i+1))+1 by omega,Rat.pow_succ w];grind
  rw [d,e,Fx,b];rw [b]at f;rw [Zl7,Rat.pow_zero,Nat.sub_zero];push_cast;grind
def Iz(d:Nat)(c:List Int)(j:Nat):Int:=Ye (λi=>cf c i*(Oi (d-i) (j-i):Int)) (j+1)
theorem brS_0(d:Nat)(a:Int)(c:List Int):Iz d (a::c) 0=a:=by unfold Iz;rw [Yj,Hm];show 0+a*((Oi (d-0) (0-0):Nat):Int)=a;rw [show 0-0=0 from rfl,Zl7];omega
theorem brS_s(d:Nat)(a:Int)(c:List Int)(j:Nat):Iz (d+1) (a::c) (j+1)=a*(Oi (d+1) (j+1):Int)+Iz d c j:=by unfold Iz;rw [Me];congr 1;refine Yy λi hi=>?_;rw [show d+1-(i+1)=d-i by omega,show j+1-(i+1)=j-i by omega];rfl
theorem Ypn(d j:Nat):Iz d [] j=0:=by unfold Iz;exact(Zha (m:=0) (Nat.zero_le _) λi _ _=>by rw [show cf [] i=0 from rfl,Int.zero_mul]).trans (Hm _)
theorem bern{u w:Rat}(h:u+w=1):∀(d:Nat) (c:List Int),c.length<=d+1->Hr (λj=>(Iz d c j:Rat)*(u^j*w^(d-j))) (d+1)=Zd c u
 | d,[],_=>by
  rw [Lb (g:=λ_=>0) (d+1) λi hi=>by rw [Ypn];push_cast;grind];show Hr (λ_=>0) (d+1)=0;have:∀n,Hr (λ_=>0) n=0:=λn=>by
   induction n with
   | zero=>rfl
   | succ n f=>rw [Nt,f];grind
  exact this _
 | 0,[a],_=>by rw [Nt,brS_0];show 0+(a:Rat)*(u^0*w^0)=(a:Rat)+u*0;rw [Rat.pow_zero,Rat.pow_zero];grind
 | 0,a::b::c,hl=>by simp at hl
 | d+1,a::c,hl=>by
  have f:=bern h d c (by simpa using hl);have e:=Yko h (d+1);rw [Dc]at e;rw [Dc,brS_0];have l:Hr (λi=>(Iz (d+1) (a::c) (i+1):Rat)*(u^(i+1)*w^(d+1-(i+1)))) (d+1)=(a:Rat)*Hr (λi=>(Oi (d+1) (i+1):Rat)*(u^(i+1)*w^(d+1-(i+1)))) (d+1)+u*Hr (λj=>(Iz d c j:Rat)*(u^j*w^(d-j))) (d+1):=by rw [<-Fx,<-Fx,<-Zku];refine Lb _ λi hi=>?_;rw [brS_s,show d+1-(i+1)=d-i by omega,Rat.pow_succ];push_cast;grind
  rw [l,f];show _=(a:Rat)+u*Zd c u;rw [Zl7]at e;push_cast at e ⊢;grind
theorem Du(a:Int):∀(c:List Int) (i:Nat),cf (c.map λx=>a*x) i=a*cf c i
 | [],i=>by rw [List.map_nil,show cf [] i=0 from rfl,Int.mul_zero]
 | x::c,0=>rfl
 | x::c,i+1=>Du a c i
theorem Zwi(c:List Int)(a b e:Int)(u:Rat):Zd (mk (c.length+1) λt=>cf c t*a+(if t=0 then e else cf c (t-1)*b)) u=Zd c u*((a:Rat)+(b:Rat)*u)+(e:Rat):=by
 have h:Zd (mk (c.length+1) λt=>cf c t*a+(if t=0 then e else cf c (t-1)*b)) u=Zd (Ma (c.map λx=>a*x) (e::c.map λx=>b*x)) u:=Om u _ _ λi=>by
  rw [Mb,Du,Nk]
  match i with
  | 0=>rw [if_pos O,if_pos rfl];show cf c 0*a+e=a*cf c 0+e;rw [Int.mul_comm]
  | i+1=>
   show _=a*cf c (i+1)+cf (c.map λx=>b*x) i;rw [Du];by_cases hi:i<c.length
   .rw [if_pos O,if_neg O,Nat.add_sub_cancel,Int.mul_comm,Int.mul_comm (cf c i)]
   .rw [if_neg O,Yl (p:=c) (i:=i+1) O,Yl (p:=c) (i:=i) O];omega
 rw [h,Xh,Zk];show _+((e:Rat)+u*Zd (c.map λx=>b*x) u)=_;rw [Zk];grind
theorem Zta(p:List Int)(a b d:Int){t u:Rat}(f:t*(d:Rat)=(a:Rat)+(b:Rat)*u):∀j,j+1<=p.length->Zd (Ml p a b d j) u=(d:Rat)^j*Zd (p.drop (p.length-1-j)) t
 | 0,h=>by
  have e:p.drop (p.length-1-0)=[cf p (p.length-1)]:=by rw [Nat.sub_zero,List.drop_eq_getElem_cons O,List.drop_of_length_le O];congr 1;unfold cf;rw [List.getD_eq_getElem?_getD,List.getElem?_eq_getElem O];rfl
  rw [Fp,e,Rat.pow_zero,Pj,Pj];grind
 | j+1,h=>by
  have g:=Zta p a b d f j O;have e:p.drop (p.length-1-(j+1))=cf p (p.length-2-j)::p.drop (p.length-1-j):=by rw [List.drop_eq_getElem_cons O,show p.length-1-(j+1)+1=p.length-1-j by omega];congr 1;unfold cf;rw [List.getD_eq_getElem?_getD,List.getElem?_eq_getElem O];show p[p.length-1-(j+1)]=p[p.length-2-j];congr 1;omega
  rw [Zoe,Zwi,g,e,<-f];show _=(d:Rat)^(j+1)*((cf p (p.length-2-j):Rat)+t*Zd (p.drop (p.length-1-j)) t);rw [Rat.pow_succ];push_cast;rw [Rat.pow_succ];generalize (d:Rat)^j=D;grind
theorem Zkq(a b d:Int){t u:Rat}(f:t*(d:Rat)=(a:Rat)+(b:Rat)*u)(e:p.length≠0):Zd (Ld p a b d) u=(d:Rat)^(p.length-1)*Zd p t:=by unfold Ld;rw [if_neg e,Om u (tzl _) _ (λi=>Ks _ i),Zta p a b d f (p.length-1) O,Nat.sub_self,List.drop_zero]
def Yji:List Int->List Int
 | []=>[]
 | a::p=>a::0::Yji p
theorem Zo7(x:Rat):∀p:List Int,Zd (Yji p) x=Zd p (x*x)
 | []=>rfl
 | a::p=>by show(a:Rat)+x*(((0:Int):Rat)+x*Zd (Yji p) x)=(a:Rat)+x*x*Zd p (x*x);rw [Zo7 x p];push_cast;grind
theorem Zxt:∀(p:List Int) (i:Nat),cf (Yji p) (2*i)=cf p i
 | [],i=>rfl
 | a::p,0=>rfl
 | a::p,i+1=>by show cf (0::Yji p) (2*i+1)=cf p i;exact Zxt p i
theorem sq_nn(x:Rat):0<=x*x:=by
 rcases(show 0<=x\/x<=0 by grind)with h|h
 .exact Rat.mul_nonneg h h
 .have:=Rat.mul_nonneg (show 0<=-x by grind) (show 0<=-x by grind);grind
theorem Zs9(h:∀x:Rat,0<=x->Zd p x=Zd q x)(i:Nat):cf p i=cf q i:=by rw [<-Zxt p,<-Zxt q];exact Oy (λx=>by rw [Zo7,Zo7];exact h _ (sq_nn x)) _
theorem Zjc(f:Nat->Int)(x:Rat):∀n,Zd (mk n f) x=Hr (λj=>(f j:Rat)*x^j) n
 | 0=>rfl
 | n+1=>by rw [Dq,Zs8,Zjc f x n,Yp,Nt]
def NN(p:List Int):Prop:=∀i,0<=cf p i
theorem NN.smul{c:Int}(b:0<=c)(h:NN p):NN (p.map λa=>c*a):=λi=>by rw [Du];exact Int.mul_nonneg b (h i)
theorem NN.add(b:NN p)(d:NN q):NN (Ma p q):=λi=>by rw [Mb];exact Int.add_nonneg (b i) (d i)
theorem NN.lmul{q:List Int}(b:NN q):∀{p:List Int},NN p->NN (lmul p q)
 | [],_=>λi=>by show 0<=cf [] i;rw [show cf [] i=0 from rfl];exact Int.le_refl _
 | c::p,h=>NN.add (NN.smul (h 0) b) λi=>by
  match i with
  | 0=>exact Int.le_refl _
  | i+1=>exact NN.lmul b (p:=p) (λj=>h (j+1)) i
def lpw(l:List Int):Nat->List Int
 | 0=>[1]
 | k+1=>lmul l (lpw l k)
theorem Zo4(l:List Int)(x:Rat):∀k,Zd (lpw l k) x=Zd l x^k
 | 0=>by rw [Rat.pow_zero];show((1:Int):Rat)+x*0=1;push_cast;grind
 | k+1=>by rw [show lpw l (k+1)=lmul l (lpw l k)from rfl,Zx,Zo4 l x k,Rat.pow_succ,Rat.mul_comm]
theorem NN.lpw{l:List Int}(h:NN l):∀k,NN (lpw l k)
 | 0=>λi=>by
  show 0<=cf [1] i
  match i with
  | 0=>exact Int.one_nonneg
  | i+1=>exact Int.le_refl _
 | k+1=>NN.lmul (NN.lpw h k) h
theorem NN.two{b:Int}(d:0<=a)(e:0<=b):NN [a,b]:=λi=>by
 match i with
 | 0=>exact d
 | 1=>exact e
 | i+2=>exact Int.le_refl _
def sQ(f:Nat->Int)(W:Nat->List Int):Nat->List Int
 | 0=>[]
 | k+1=>Ma (sQ f W k) ((W k).map λa=>f k*a)
theorem Zwh(f:Nat->Int)(W:Nat->List Int)(x:Rat):∀k,Zd (sQ f W k) x=Hr (λi=>(f i:Rat)*Zd (W i) x) k
 | 0=>rfl
 | k+1=>by rw [show sQ f W (k+1)=Ma (sQ f W k) ((W k).map λa=>f k*a)from rfl,Xh,Zwh f W x k,Zk,Nt]
theorem sQ_le{f g:Nat->Int}{W:Nat->List Int}{B:Int}(b:∀i,NN (W i)):∀k,(∀i,i<k->((f i).natAbs:Int)<=B*g i)->∀j,((cf (sQ f W k) j).natAbs:Int)<=B*cf (sQ g W k) j
 | 0,_,j=>by show((cf [] j).natAbs:Int)<=B*cf [] j;rw [show cf [] j=0 from rfl];simp
 | k+1,h,j=>by
  have o:=sQ_le b k (λi hi=>h i O) j;have d:=h k O;show((cf (Ma (sQ f W k) ((W k).map λa=>f k*a)) j).natAbs:Int)<=B*cf (Ma (sQ g W k) ((W k).map λa=>g k*a)) j;rw [Mb,Mb,Du,Du,Int.mul_add,<-Int.mul_assoc];have l:=b k j;have n:((f k*cf (W k) j).natAbs:Int)<=B*g k*cf (W k) j:=by rw [Int.natAbs_mul];push_cast;have e:((cf (W k) j).natAbs:Int)=cf (W k) j:=O;rw [e];exact Int.mul_le_mul_of_nonneg_right d l
  generalize B*g k*cf (W k) j=t at *;generalize f k*cf (W k) j=s at *;generalize B*cf (sQ g W k) j=r at *;omega
theorem Zk5(a b:Rat):∀n:Nat,(a*b)^n=a^n*b^n
 | 0=>by rw [Rat.pow_zero,Rat.pow_zero,Rat.pow_zero];grind
 | n+1=>by rw [Rat.pow_succ,Rat.pow_succ,Rat.pow_succ,Zk5 a b n];grind
theorem Ybr(a:Rat)(m:Nat):∀n:Nat,a^(m+n)=a^m*a^n
 | 0=>by rw [Nat.add_zero,Rat.pow_zero];grind
 | n+1=>by rw [<-Nat.add_assoc,Rat.pow_succ,Rat.pow_succ,Ybr a m n];grind
theorem Ykp{U V S:Rat}(h:U+V=S)(l:S≠0){d:Nat}(g:c.length<=d+1):Hr (λj=>(Iz d c j:Rat)*(U^j*V^(d-j))) (d+1)=S^d*Zd c (U/S):=by
 rw [<-bern (u:=U/S) (w:=V/S) (by rw [<-h];grind) d c g,<-Fx];refine Lb _ λj n=>?_;have b:U^j=S^j*(U/S)^j:=by rw [<-Zk5];congr 1;grind
 have e:V^(d-j)=S^(d-j)*(V/S)^(d-j):=by rw [<-Zk5];congr 1;grind
 have f:S^d=S^j*S^(d-j):=by rw [<-Ybr];congr 1;omega
 rw [b,e,f];grind
theorem Ybj{U V S:Rat}(h:U+V=S)(g:S≠0)(d:Nat):Hr (λj=>(Oi d j:Rat)*(U^j*V^(d-j))) (d+1)=S^d:=by
 have:=Yko (u:=U/S) (w:=V/S) (by rw [<-h];grind) d;rw [<-Rat.mul_one (S^d),<-this,<-Fx];refine Lb _ λj l=>?_;have b:U^j=S^j*(U/S)^j:=by rw [<-Zk5];congr 1;grind
 have e:V^(d-j)=S^(d-j)*(V/S)^(d-j):=by rw [<-Zk5];congr 1;grind
 have f:S^d=S^j*S^(d-j):=by rw [<-Ybr];congr 1;omega
 rw [b,e,f];grind
theorem Zy6(a b:Int)(x:Rat):Zd [a,b] x=(a:Rat)+(b:Rat)*x:=by show(a:Rat)+x*((b:Rat)+x*0)=_;grind
theorem onepw(n:Nat):(1:Rat)^n=1:=by
 induction n with
 | zero=>rw [Rat.pow_zero]
 | succ n b=>rw [Rat.pow_succ,b];grind
theorem Zc5(d:Int)(n:Nat):((d^n:Int):Rat)=(d:Rat)^n:=by
 induction n with
 | zero=>rw [Int.pow_zero,Rat.pow_zero];rfl
 | succ n b=>rw [Int.pow_succ,Rat.pow_succ,<-b];push_cast;rfl
def Wij(a e d:Int)(n i:Nat):List Int:=lmul (lpw [a,e] i) (lpw [d-a,d-e] (n-i))
def Wij_nn{e d:Int}(b:0<=a)(f:0<=e)(g:a<=d)(h:e<=d)(n i:Nat):NN (Wij a e d n i):=NN.lmul (NN.lpw (NN.two O O) _) (NN.lpw (NN.two b f) _)
theorem Zy8(a e d:Int)(n i:Nat)(x:Rat):Zd (Wij a e d n i) x=((a:Rat)+(e:Rat)*x)^i*(((d-a:Int):Rat)+((d-e:Int):Rat)*x)^(n-i):=by unfold Wij;rw [Zx,Zo4,Zo4,Zy6,Zy6]
theorem Ypp {X:List Int} {n:Nat} (hl:c.length<=n+1) (hX:X.length<=n+1) {b d B:Int} (ha:0<=a) (hb:0<=b) (G:a+b<=d) (M:0<d) (hr:∀t u:Rat,t*(d:Rat)=(a:Rat)+(b:Rat)*u->Zd X u=(d:Rat)^m*Zd c t)
  (hB:∀j,j<n+1->((Iz n c j).natAbs:Int)<=B*(Oi n j:Int)):∀j,j<n+1->((Iz n X j).natAbs:Int)<=B*d^m*(Oi n j:Int):=by
 have Q:(0:Rat)<(d:Rat):=by exact_mod_cast M
 have l:∀x:Rat,0<=x->(x+1)≠0:=λx e h=>O4;have s:∀x:Rat,((a:Rat)+((a+b:Int):Rat)*x)+(((d-a:Int):Rat)+((d-(a+b):Int):Rat)*x)=(d:Rat)*(x+1):=λx=>by push_cast;grind
 have o:∀x:Rat,0<=x->(d:Rat)*(x+1)≠0:=λx e h=>by have:=Rat.mul_pos Q (show(0:Rat)<x+1 by grind);grind
 have R:∀x:Rat,0<=x->Zd (sQ (λi=>(Oi n i:Int)) (Wij a (a+b) d n) (n+1)) x=Zd (mk (n+1) λj=>d^n*(Oi n j:Int)) x:=λx e=>by
  rw [Zwh,Zjc];have y:=Ybj (s x) (o x e) n;have z:=Ybj (U:=x) (V:=1) (S:=x+1) rfl (l x e) n;have D:Hr (λi=>(((Oi n i:Nat):Int):Rat)*Zd (Wij a (a+b) d n i) x) (n+1)=((d:Rat)*(x+1))^n:=by rw [<-y];exact Lb _ λj v=>by rw [Zy8];push_cast;rfl
  rw [D,Zk5,<-z,<-Fx];refine Lb _ λj v=>?_;rw [onepw];push_cast;rw [<-Zc5];push_cast;grind
 have Y:∀x:Rat,0<=x->Zd (mk (n+1) λj=>d^n*Iz n X j) x=Zd ((sQ (Iz n c) (Wij a (a+b) d n) (n+1)).map λq=>d^m*q) x:=λx e=>by
  rw [Zk,Zwh,Zjc];have y:=Ykp (s x) (o x e) hl;have z:=Ykp (U:=x) (V:=1) (S:=x+1) rfl (l x e) hX;have D:Hr (λi=>((Iz n c i:Int):Rat)*Zd (Wij a (a+b) d n i) x) (n+1)=((d:Rat)*(x+1))^n*Zd c (((a:Rat)+((a+b:Int):Rat)*x)/((d:Rat)*(x+1))):=by rw [<-y];exact Lb _ λj v=>by rw [Zy8]
  have e4:Hr (λj=>((d^n*Iz n X j:Int):Rat)*x^j) (n+1)=(d:Rat)^n*Hr (λj=>(Iz n X j:Rat)*(x^j*1^(n-j))) (n+1):=by rw [<-Fx];refine Lb _ λj v=>?_;rw [onepw,<-Zc5];push_cast;grind
  rw [D,e4,z,hr (((a:Rat)+((a+b:Int):Rat)*x)/((d:Rat)*(x+1))) (x/(x+1)) ?_,Zk5,Zc5]
  .grind
  .have F:=l x e;have w:(d:Rat)≠0:=O4;push_cast;grind
 have H:=Zs9 R;have I:=Zs9 Y;intro j v;have F:=H j;have w:=I j;rw [Nk,if_pos v]at F w;rw [Du]at w;have Z:=sQ_le (f:=Iz n c) (g:=λi=>(Oi n i:Int)) (W:=Wij a (a+b) d n) (B:=B) (Wij_nn ha O O G n) (n+1) hB j;rw [F]at Z;have P:0<d^n:=Int.pow_pos M;have N:0<=d^m:=Int.le_of_lt (Int.pow_pos M);have h4:((d^n*Iz n X j).natAbs:Int)=d^n*((Iz n X j).natAbs:Int):=by rw [Int.natAbs_mul];push_cast;rw [show((d^n).natAbs:Int)=d^n by omega]
 have h5:((d^m*cf (sQ (Iz n c) (Wij a (a+b) d n) (n+1)) j).natAbs:Int)=d^m*((cf (sQ (Iz n c) (Wij a (a+b) d n) (n+1)) j).natAbs:Int):=by rw [Int.natAbs_mul];push_cast;rw [show((d^m).natAbs:Int)=d^m by omega]
 have h6:=Int.mul_le_mul_of_nonneg_left Z N;rw [<-h5,<-w,h4]at h6;refine Int.le_of_mul_le_mul_left (a:=d^n) ?_ P;refine Int.le_trans h6 (Int.le_of_eq ?_);generalize d^n=p;generalize d^m=q;generalize (Oi n j:Int)=r;grind
end Go.Sky

