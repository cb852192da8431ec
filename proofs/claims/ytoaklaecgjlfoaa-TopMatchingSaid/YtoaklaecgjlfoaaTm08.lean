/- Rules, arithmetic and contracts: part 9. No conditions but those that each theorem names. -/
import Derived.Test.YtoaklaecgjlfoaaTm07
import Derived.RangeFuncNested
import Derived.Deep.LoopGhost
import Derived.Sort.LoopGhostIn
set_option linter.all false
namespace Go.Sky
open Go.RowKit Below
variable{w W W':World}{m:Nat}{Mf:Nat->Prop}{Hn:Hp}
variable {P:Program} {N:Nat} {sc:Nat->Prop} {env env':Yd} {H H':Hp} {Q Q':Exit->Act->World->Prop}
def FpM:Hp->Hp->Prop
 | [],_=>True
 | (i,p)::r,H=>(p.own=true\/∀b,p.fp b->∃j q,lk H j=some q/\q.fp b)/\FpM r H
theorem FpM.lk:∀{H' H:Hp},FpM H' H->∀i p,lk H' i=some p->p.own=true\/∀b,p.fp b->∃j q,lk H j=some q/\q.fp b
 | [],_,_,_,_,h=>by cases h
 | (k,u)::r,H,h,i,p,hi=>by
  by_cases a:k=i
  .subst a;rw [Zp]at hi;cases hi;exact h.1
  .rw [Zg a]at hi;exact FpM.lk h.2 i p hi
structure Kps (sc:Nat->Prop) (w:World) (m:Nat) (Mf:Nat->Prop) (Hn:Hp) (W:World):Prop where
 hold:∀i it,lk Hn i=some it->it.holds W
 sep:∀i j it jt,i≠j->lk Hn i=some it->lk Hn j=some jt->it.own=true->∀b,it.fp b->jt.fp b->False
 scope:∀i it,i≠0->lk Hn i=some it->∀b,it.fp b->sc b
 off:∀i it,lk Hn i=some it->it.own=false->∀b,it.fp b->b<w.heap.size\/m<=b
 mf:∀i it,lk Hn i=some it->it.own=true->∀b,it.fp b->Mf b
def Mof(m:Nat)(H:Hp)(b:Nat):Prop:=(∃i q,lk H i=some q/\q.own=true/\q.fp b)\/m<=b
def Kps.chg(h:Kps sc w m Mf Hn W)(c:∀i a,lk Hn i=some a->Chg (λb=>¬a.fp b) W W'):Kps sc w m Mf Hn W':=
 ⟨λi a hi=>a.stable _ _ (h.hold i a hi) (c i a hi),h.sep,h.scope,h.off,h.mf⟩
def Kps.stays(h:Kps sc w m Mf Hn W)(a:Below W.heap.size W W'):Kps sc w m Mf Hn W':=h.chg λ_ _ _=>Chg.of_below a
theorem Kps.put{d:Nat}{o:Obj}(h:Kps sc w m (Mof m H) Hn W)(a:∀i q,lk H i=some q->∀b,q.fp b->b<w.heap.size)(p:w.heap.size<=d/\d<m):Kps sc w m (Mof m H) Hn (W.putObj d o):=
 h.chg λi f hi=>⟨rfl,rfl,rfl,O6,λk r l=>World.putObj_heap_other (λe=>l λg=>by
  subst e;cases ho:f.own with
  | false=>rcases h.off i f hi ho _ g with h|h<;>omega
  | true=>
   rcases h.mf i f hi ho _ g with⟨j,q,n,_,c⟩|h
   .have:=a j q n _ c;omega
   .omega)⟩
def keepAt(H:Hp)(a:World):Prop:=lk H 0=some (keep a (λ_=>False))/\lk H 92=none
def Mfs(sc:Nat->Prop)(m:Nat)(H:Hp)(b:Nat):Prop:=Mof m H b\/¬sc b
theorem Sat.ps {t M:World} {n:Nat} {d:Hp} {a:Act} (hs:Sat N sc env ((n,keep t (Mfs sc m H))::Hn) a M) (o:lk Hn n=none) (a0:n≠0) (V:∀q,lk Hn 0=some q->q.own=false) (hb:m<=t.heap.size)
  (Y:FpM Hn d) (F:∀j q,lk d j=some q->∀b,q.fp b->q.own=true->Mof m H b) (r:∀j q,lk d j=some q->∀b,q.fp b->q.own=false->b<w.heap.size\/m<=b) (z:∀i q,lk H i=some q->∀b,q.fp b->b<w.heap.size):Kps sc w m (Mof m H) Hn M:=by
 have g:∀i c,lk Hn i=some c->lk ((n,keep t (Mfs sc m H))::Hn) i=some c:=λi c hi=>by
  by_cases R:n=i
  .subst R;rw [o]at hi;cases hi
  .rw [Zg R];exact hi
 have B:∀i c,lk Hn i=some c->c.own=true->∀b,c.fp b->Mof m H b:=λi c hi p b f=>by
  have k:i≠n:=λe=>by subst e;rw [o]at hi;cases hi
  have v:i≠0:=λe=>by subst e;rw [V c hi]at p;cases p
  have I:=hs.scope i c v (g i c hi) b f;have:=hs.sep i n c _ k (g i c hi) (Zp _ _ _) p b f;by_cases l:b<t.heap.size
  .rcases(eQ.1 λu=>this ⟨l,u⟩:Mfs sc m H b)with h|h
   .exact h
   .exact absurd I h
  .exact .inr O
 refine⟨λi c hi=>hs.hold i c (g i c hi),λi j c S D hi Z=>hs.sep i j c S D (g i c hi) (g j S Z),λi c y hi=>hs.scope i c y (g i c hi),λi c hi p b f=>?_,B⟩;rcases Y.lk i c hi with h|h
 .rw [p]at h;cases h
 .obtain⟨j,q,u,s⟩:=h b f;cases hqo:q.own with
  | false=>exact r j q u b s hqo
  | true=>
   rcases F j q u b s hqo with⟨i',q',G,_,x⟩|h
   .exact .inl (z i' q' G b x)
   .exact .inr h
def LpAt(l:Nat)(Mf:Nat->Prop)(W:World):Prop:=(∃r,W.heap[l]? = some (.loop r))/\¬Mf l
def RBn(n:Nat)(N:Nat)(sc:Nat->Prop)(Mf:Nat->Prop)(b:Hp){h i:Type}(j:h->Hp)(g:h->Prop)(k:i->Hp)(c:i->Prop)(l:World):Exit->Act->World->Prop:=λe a W=>
 (e= .normal/\∃d,g d/\FpM (j d) b/\∃env',Sat N sc env' ((n,keep l Mf)::j d) a W)\/(e= .ret/\∃f,c f/\FpM (k f) b/\∃env',Sat N sc env' ((n,keep l Mf)::k f) a W)
def RAn(n:Nat)(P:Program)(N:Nat)(sc:Nat->Prop)(l:Nat)(Mf:Nat->Prop)(b:Hp)(f:Code){j k:Type}(o:j->Hp)(i:j->Prop)(p:k->Hp)(g:k->Prop)(r:World):Exit->Act->World->Prop:=λe a W=>
 e= .normal/\∃c d,lk d n=none/\(∀q,lk d 0=some q->q.own=false)/\FpM d b/\Sat N sc c ((n,keep r Mf)::d) a W/\
  ∀h,LpAt l Mf h->∀a W,Sat N sc c ((n,keep h Mf)::d) a W->f.wpIn (Fence.wide.inRound l) 0 P (RBn n N sc Mf b o i p g h) a W
@[reducible] def renv:List Nat->List Value->Yd->Yd
 | p::ps,v::vs,env=>renv ps vs ((p,v)::env)
 | _,_,env=>env
theorem Sat.rounds{w:World} : ∀(ps:List Nat) (vs:List Value) {env:Yd} {a:Array Value},(ps.all λp=>Nat.blt p N)=true->Sat N sc env H { tmps:=a,defers:=[] } w->
  Sat N sc (renv ps vs env) H { tmps:=(ps.zip vs).foldl (λt b=>t.setIfInBounds b.1 b.2) a,defers:=[] } w
 | [],_,_,_,_,h=>h
 | _::_,[],_,_,_,h=>h
 | p::ps,v::vs,env,a,hp,h=>by simp only [kK,bH]at hp;exact Sat.rounds ps vs (env:=(p,v)::env) hp.2 (h.put p v hp.1)
end Go.Sky
namespace Go.Sky
variable {P:Program} {N:Nat} {sc:Nat->Prop} {env env':Yd} {H H':Hp} {Q Q':Exit->Act->World->Prop} {M:Nat->Prop}
@[reducible] def lk2 {α:Type} : List (Nat×α)->Nat->Option α
 | [],_=>none
 | (k,v)::r,n=>match Nat.beq k n with
  | true=>some v
  | false=>lk2 r n
theorem Zeh{α:Type} : ∀(e:List (Nat×α)) (n:Nat),lk2 e n=lk e n
 | [],_=>rfl
 | (k,v)::r,n=>by unfold lk2 lk;cases Nat.beq k n<;>simp [Zeh r n]
@[reducible] def ev2 (e:Yd):Operand->Option Value
 | .tmp t=>lk2 e t
 | .const v=>some v
 | .global g=>some (.pointer (some ⟨g,0,none⟩))
 | .func f=>some (.func (.func f) #[] #[])
theorem ev2_eq(e:Yd)(x:Operand):ev2 e x=ev e x:=by cases x<;>simp [ev2,ev,Zeh]
@[reducible] def nth {α:Type} : List α->Nat->Option α
 | [],_=>none
 | x::r,n=>match n with
  | 0=>some x
  | n+1=>nth r n
theorem Zec{α:Type} : ∀(l:List α) (n:Nat),nth l n=l[n]?
 | [],n=>by simp [nth]
 | x::r,0=>by simp [nth]
 | x::r,n+1=>by simp [nth,Zec r n]
@[reducible] def ltb (a b:Nat):Bool:=match Nat.ble b a with
 | true=>false
 | false=>true
theorem Xe{a b:Nat}(h:ltb a b=true):Nat.blt a b=true:=by
 unfold ltb at h;cases hb:Nat.ble b a with
 | true=>rw [hb]at h;cases h
 | false=>
  have d:¬b<=a:=λc=>by rw [jN c]at hb;cases hb
  show Nat.ble (a+1) b=true;exact jN O
@[reducible] def neb (a b:Nat):Bool:=match Nat.beq a b with
 | true=>false
 | false=>true
theorem Hd{a b:Nat}(h:neb a b=true):a≠b:=λe=>by subst e;unfold neb at h;rw [Nat.beq_refl]at h;cases h
class Som {α:Type} (a:Option α) (b:outParam α):Prop where h:a=some b
instance {α:Type} {b:α} : Som (some b) b:=⟨rfl⟩
class TB (a:Bool):Prop where h:a=true
instance:TB true:=⟨rfl⟩
def Som.e{x:Operand}{v:Value}(h:Som (ev2 env x) v):ev env x=some v:=(ev2_eq env x).symm.trans h.h
def Som.l{α:Type}{e:List (Nat×α)}{n:Nat}{v:α}(h:Som (lk2 e n) v):lk e n=some v:=(Zeh e n).symm.trans h.h
theorem Som.n{α:Type}{l:List α}{n:Nat}{v:α}(h:Som (nth l n) v):l.toArray[n]? = some v:=by have:=(Zec l n).symm.trans h.h;simpa using this
class AndO (s q:Prop) (r:outParam Prop):Prop where h:r->s/\q
instance (priority:=low) {s q:Prop} : AndO s q (s/\q):=⟨id⟩
instance {q:Prop} : AndO True q q:=⟨λh=>⟨aB,h⟩⟩
class Und (P:Program) (t:TypeId) (d:outParam TypeDesc):Prop where h:P.underlying t=some d
class Siz (P:Program) (t:TypeId) (k:outParam Nat):Prop where h:∀w,(sizeOf t).run P w= .ok k w
class Agg (P:Program) (t:TypeId) (b:outParam Bool):Prop where h:∀w,(isAgg t).run P w= .ok b w
class EncT {α:Type} (P:Program) (t:TypeId) (k:Nat) (enc:α->Value):Prop where h:Enc P t k enc
class RdI (P:Program) (H:Hp) (v:Value) (i:outParam Nat) {α:outParam Type} (k:outParam Nat) (enc:outParam (α->Value)) (xs:outParam (List α)):Prop where
 h:∃p,lk H i=some p/\Rd p k enc v xs
instance {α:Type} {v:Value} {i k:Nat} {enc:α->Value} {xs:List α} : RdI P ((i,Ou k enc v xs)::H) v i k enc xs:=⟨_,Zp _ _ _,Zn⟩
instance {α:Type} {v:Value} {i k:Nat} {enc:α->Value} {xs:List α} {e:TypeId} [h:EncT P e k enc]:RdI P ((i,Yu k e enc v xs)::H) v i k enc xs:=⟨_,Zp _ _ _,Ze h.h⟩
instance {β:Type} {v:Value} {i k:Nat} {enc:β->Value} {q:β->Pc} {zs:List β} : RdI P ((i,Nd k enc q v zs)::H) v i k enc zs:=⟨_,Zp _ _ _,Yl⟩
instance (priority:=low) {α:Type} {v:Value} {i j k:Nat} {p:Pc} {enc:α->Value} {xs:List α} [h:RdI P H v i k enc xs] [hn:TB (neb j i)]:RdI P ((j,p)::H) v i k enc xs:=
 ⟨by obtain⟨q,h1,h2⟩:=h.h;exact⟨q,by rw [Zg (Hd hn.h)];exact h1,h2⟩⟩
class BxI (H:Hp) (b:Nat) (i:outParam Nat) (t:outParam TypeId) (l:outParam (List Value)):Prop where h:lk H i=some (box b t l.toArray)
instance {b i:Nat} {t:TypeId} {l:List Value} : BxI ((i,box b t l.toArray)::H) b i t l:=⟨Zp _ _ _⟩
instance (priority:=low) {b i j:Nat} {t:TypeId} {p:Pc} {l:List Value} [h:BxI H b i t l] [hn:TB (neb j i)]:BxI ((j,p)::H) b i t l:=⟨by rw [Zg (Hd hn.h)];exact h.h⟩
class RxI (H:Hp) (b:Nat) (i:outParam Nat) (t:outParam TypeId) (l:outParam (List Value)):Prop where h:lk H i=some (Kc b t l.toArray)
instance {b i:Nat} {t:TypeId} {l:List Value} : RxI ((i,Kc b t l.toArray)::H) b i t l:=⟨Zp _ _ _⟩
instance (priority:=low) {b i j:Nat} {t:TypeId} {p:Pc} {l:List Value} [h:RxI H b i t l] [hn:TB (neb j i)]:RxI ((j,p)::H) b i t l:=⟨by rw [Zg (Hd hn.h)];exact h.h⟩
class DI (P:Program) (N:Nat) (sc:Nat->Prop) (op:Go.Op) (env:Yd) (H:Hp) (v:outParam Value) (s:outParam Prop):Prop where
 h:s->∀{d:Option Tmp} {ty:TypeId} {pos:String} {af:Array Edge} {g:Option (Nat×Bool)},Pv P N sc ⟨d,op,ty,pos,af,g⟩ env H v
section
variable {x y c:Operand} {v u:Value} {t t':TypeId} {k:IntKind} {m n:Int}
instance [h:Som (ev2 env x) v]:DI P N sc (.move x) env H v True:=⟨λ_=>Zm7 rfl h.e⟩
instance [h:Som (ev2 env x) v]:DI P N sc (.assign x) env H v True:=⟨λ_=>d_as rfl h.e⟩
instance {i:Nat} {vs:List Value} [h:Som (ev2 env x) (.tuple vs.toArray)] [h2:Som (nth vs i) v]:DI P N sc (.extract x i) env H v True:=⟨λ_=>d_ex rfl h.e h2.n⟩
instance {ad:Addr} [h:Som (ev2 env x) (.pointer (some ad))]:DI P N sc (.nilCheck x) env H (.pointer (some ad)) True:=⟨λ_=>d_nc rfl h.e⟩
instance {p:Prop} [Decidable p] [h:Som (ev2 env x) (.bool (decide p))]:DI P N sc (.unOp .not t x) env H (.bool (decide (¬p))) True:=⟨λ_=>d_not rfl h.e⟩
instance (priority:=low) {b:Bool} [h:Som (ev2 env x) (.bool b)]:DI P N sc (.unOp .not t x) env H (.bool (!b)) True:=⟨λ_=>Gt rfl h.e⟩
instance (priority:=high) [h:Som (ev2 env x) (.bool true)]:DI P N sc (.unOp .not t x) env H (.bool false) True:=⟨λ_=>Gt rfl h.e⟩
instance (priority:=high) [h:Som (ev2 env x) (.bool false)]:DI P N sc (.unOp .not t x) env H (.bool true) True:=⟨λ_=>Gt rfl h.e⟩
instance [h:Som (ev2 env c) (.bool true)] [h1:Som (ev2 env x) v]:DI P N sc (.pick c x y) env H v True:=⟨λ_=>Zm5 rfl h.e h1.e⟩
instance [h:Som (ev2 env c) (.bool false)] [h1:Som (ev2 env y) v]:DI P N sc (.pick c x y) env H v True:=⟨λ_=>Zm6 rfl h.e h1.e⟩
instance [h:Som (ev2 env x) (.int k m)] [h1:Som (ev2 env y) (.int k n)]:DI P N sc (.binOp .lss t x y t') env H (.bool (decide (m<n))) True:=⟨λ_=>d_lss rfl h.e h1.e⟩
instance [h:Som (ev2 env x) (.int k m)] [h1:Som (ev2 env y) (.int k n)]:DI P N sc (.binOp .leq t x y t') env H (.bool (decide (m<=n))) True:=⟨λ_=>Zj5 rfl h.e h1.e⟩
instance [h:Som (ev2 env x) (.int k m)] [h1:Som (ev2 env y) (.int k n)]:DI P N sc (.binOp .gtr t x y t') env H (.bool (decide (n<m))) True:=⟨λ_=>d_gtr rfl h.e h1.e⟩
instance [h:Som (ev2 env x) (.int k m)] [h1:Som (ev2 env y) (.int k n)]:DI P N sc (.binOp .geq t x y t') env H (.bool (decide (n<=m))) True:=⟨λ_=>d_geq rfl h.e h1.e⟩
instance [h:Som (ev2 env x) (.int k m)] [h1:Som (ev2 env y) (.int k n)]:DI P N sc (.binOp .eql t x y t') env H (.bool (decide (m=n))) True:=⟨λ_=>d_eql rfl h.e h1.e⟩
instance [h:Som (ev2 env x) (.int k m)] [h1:Som (ev2 env y) (.int k n)]:DI P N sc (.binOp .neq t x y t') env H (.bool (decide (m≠n))) True:=⟨λ_=>d_neq rfl h.e h1.e⟩
instance {a b:Bool} [h:Som (ev2 env x) (.bool a)] [h1:Som (ev2 env y) (.bool b)] [h2:Und P t .bool]:DI P N sc (.binOp .eql t x y t') env H (.bool (a == b)) True:=⟨λ_=>d_eqb rfl h.e h1.e h2.h⟩
instance {a b:Bool} [h:Som (ev2 env x) (.bool a)] [h1:Som (ev2 env y) (.bool b)] [h2:Und P t .bool]:DI P N sc (.binOp .neq t x y t') env H (.bool (a != b)) True:=⟨λ_=>d_neb rfl h.e h1.e h2.h⟩
instance [h:Som (ev2 env x) (.int .i64 m)] [h1:Som (ev2 env y) (.int .i64 n)]:DI P N sc (.binOp .add t x y t') env H (.int .i64 (m+n)) (-9223372036854775808<=m+n/\m+n<=9223372036854775807):=⟨λs=>Zau rfl h.e h1.e s⟩
instance [h:Som (ev2 env x) (.int .i64 m)] [h1:Som (ev2 env y) (.int .i64 n)]:DI P N sc (.binOp .sub t x y t') env H (.int .i64 (m-n)) (-9223372036854775808<=m-n/\m-n<=9223372036854775807):=⟨λs=>d_sub rfl h.e h1.e s⟩
instance [h:Som (ev2 env x) (.int .i64 m)] [h1:Som (ev2 env y) (.int .i64 n)]:DI P N sc (.binOp .mul t x y t') env H (.int .i64 (m*n)) (-9223372036854775808<=m*n/\m*n<=9223372036854775807):=⟨λs=>d_mul rfl h.e h1.e s⟩
instance {i kk:Nat} {α:Type} {enc:α->Value} {xs:List α} {e:TypeId} [h:Som (ev2 env x) v] [h1:RdI P H v i kk enc xs] [h2:Und P t (.slice e)]:DI P N sc (.call { callee:= .builtin .len,args:=#[x],argTypes:=#[t] }) env H (.int .i64 xs.length) True:=
 ⟨λ_=>by obtain⟨p,h3,h4⟩:=h1.h;exact Zj6 rfl h.e h3 h4 h2.h⟩
instance {s:ByteArray} [h:Som (ev2 env x) (.string s)] [h2:Und P t .string]:DI P N sc (.call { callee:= .builtin .len,args:=#[x],argTypes:=#[t] }) env H (.int .i64 s.size) True:=⟨λ_=>d_lens rfl h.e h2.h⟩
end
@[reducible] def eqb (a b:Nat):Bool:=match Nat.beq a b with
 | true=>true
 | false=>false
theorem eqb_eq{a b:Nat}(h:eqb a b=true):a=b:=by
 unfold eqb at h;cases hb:Nat.beq a b with
 | true=>exact cP hb
 | false=>rw [hb]at h;cases h
@[reducible] def lenq {α:Type} : List α->Nat->Bool
 | [],n=>match n with
  | 0=>true
  | _+1=>false
 | _::r,n=>match n with
  | 0=>false
  | n+1=>lenq r n
theorem Fq{α:Type} : ∀{l:List α} {n:Nat},lenq l n=true->l.length=n
 | [],0,_=>rfl
 | [],n+1,h=>by simp [lenq]at h
 | _::r,0,h=>by simp [lenq]at h
 | _::r,n+1,h=>by have:=Fq (l:=r) (n:=n) (by simpa [lenq]using h);simp [this]
@[reducible] def fit0 {α β:Type} : List α->List β->Bool
 | _,[]=>true
 | l,_::vs=>match l with
  | []=>false
  | _::r=>fit0 r vs
@[reducible] def fits {α β:Type} : List α->Nat->List β->Bool
 | [],j,a=>match j with
  | 0=>fit0 ([]:List α) a
  | _+1=>false
 | x::r,j,a=>match j with
  | 0=>fit0 (x::r) a
  | j+1=>fits r j a
theorem Zbv{α β:Type} : ∀{vs:List β} {l:List α},fit0 l vs=true->vs.length<=l.length
 | [],_,_=>O6
 | _::vs,[],h=>by simp [fit0]at h
 | _::vs,_::r,h=>by have:=Zbv (vs:=vs) (l:=r) (by simpa [fit0]using h);simp;omega
theorem Zfy{α β:Type} : ∀{l:List α} {j:Nat} {vs:List β},fits l j vs=true->j+vs.length<=l.length
 | [],0,vs,h=>by have:=Zbv (by simpa [fits]using h);simpa using this
 | [],j+1,vs,h=>by simp [fits]at h
 | x::r,0,vs,h=>by have:=Zbv (l:=x::r) (by simpa [fits]using h);simpa using this
 | x::r,j+1,vs,h=>by have:=Zfy (l:=r) (j:=j) (by simpa [fits]using h);simp;omega
@[reducible] def seg {α:Type} : List α->Nat->Nat->List α
 | [],_,_=>[]
 | x::r,j,k=>match j with
  | j+1=>seg r j k
  | 0=>match k with
   | 0=>[]
   | k+1=>x::seg r 0 k
theorem Cd{α:Type} : ∀(l:List α) (j k n:Nat) (u:α),(seg l j k)[n]? = some u->l[j+n]? = some u
 | [],_,_,_,_,h=>by simp [seg]at h
 | x::r,j+1,k,n,u,h=>by have:=Cd r j k n u (by simpa [seg]using h);rw [show j+1+n=(j+n)+1 by omega];simpa using this
 | x::r,0,0,n,u,h=>by simp [seg]at h
 | x::r,0,k+1,0,u,h=>by simpa [seg]using h
 | x::r,0,k+1,n+1,u,h=>by have:=Cd r 0 k n u (by simpa [seg]using h);rw [dK]at this ⊢;simpa using this
class LEv {α:Type} (l:List α) (r:outParam (List α)):Prop where h:l=r
instance {α:Type} : LEv ([]:List α) []:=⟨rfl⟩
instance {α:Type} {a:α} {l r:List α} [h:LEv l r]:LEv (a::l) (a::r):=⟨by rw [h.h]⟩
class AddN (a b:Nat) (c:outParam Nat):Prop where h:a+b=c
instance (priority:=low) {a b:Nat} : AddN a b (a+b):=⟨rfl⟩
instance {b:Nat} : AddN 0 b b:=⟨dK b⟩
instance {a:Nat} : AddN a 0 a:=⟨rfl⟩
class Df (α:Type) (d:outParam α):Prop where t:True
instance:Df Int 0:=⟨aB⟩
instance:Df Nat 0:=⟨aB⟩
section
variable {x y:Operand} {v u:Value} {t tb:TypeId} {b j i k f:Nat} {l vs ws:List Value}
instance [h:Som (ev2 env x) (.pointer (some ⟨b,j,none⟩))] [h1:Agg P t false] [h2:BxI H b i tb l] [h3:Som (nth l j) v]:DI P N sc (.load t x) env H v True:=⟨λ_=>d_lb _ rfl h.e h2.h h1.h h3.n⟩
instance [h:Som (ev2 env x) (.pointer (some ⟨b,j,none⟩))] [h1:Agg P t true] [h2:BxI H b i tb l] [h4:Siz P t k] [h3:LEv (seg l j k) vs] [h5:TB (lenq vs k)]:DI P N sc (.load t x) env H (.agg vs.toArray) True:=
 ⟨λ_=>d_lba rfl h.e h2.h h1.h h4.h (Fq h5.h) (λn u hu=>by rw [<-h3.h]at hu;simpa using Cd l j k n u hu)⟩
instance [h:Som (ev2 env x) (.pointer (some ⟨b,j,none⟩))] [h1:Agg P t false] [h2:RxI H b i tb l] [h3:Som (nth l j) v]:DI P N sc (.load t x) env H v True:=⟨λ_=>d_lr rfl h.e h2.h h1.h h3.n⟩
instance [h:Som (ev2 env x) (.pointer (some ⟨b,j,none⟩))] [h1:Agg P t true] [h2:RxI H b i tb l] [h4:Siz P t k] [h3:LEv (seg l j k) vs] [h5:TB (lenq vs k)]:DI P N sc (.load t x) env H (.agg vs.toArray) True:=
 ⟨λ_=>d_lra rfl h.e h2.h h1.h h4.h (Fq h5.h) (λn u hu=>by rw [<-h3.h]at hu;simpa using Cd l j k n u hu)⟩
instance {fs:List Field} {c q bo:Nat} {nm tag pk:String} {ft:TypeId} {em:Bool} [h:Som (ev2 env x) (.pointer (some ⟨b,j,none⟩))] [h1:Und P t (.struct fs.toArray)] [h2:Som (nth fs f) ⟨nm,ft,q,em,tag,pk,bo⟩] [h3:Siz P ft k] [h5:TB (neb k 0)] [h4:AddN j q c] :
  DI P N sc (.fieldAddr t x f) env H (.pointer (some ⟨b,c,none⟩)) True:=⟨λ_=>by
 obtain⟨k,rfl⟩:=Nat.exists_eq_succ_of_ne_zero (Hd h5.h);exact d_fa rfl h.e h1.h h2.n h3.h rfl h4.h⟩
instance {α:Type} {enc:α->Value} {xs:List α} {e:TypeId} {kd:IntKind} {n:Nat} [h:Som (ev2 env x) v] [h1:Som (ev2 env y) (.int kd (n:Int))] [h2:RdI P H v i k enc xs] [h3:Und P t (.slice e)] [h4:Siz P e k] :
  DI P N sc (.indexAddr t x y) env H (.pointer (some (ead v n k))) (n<xs.length):=⟨λs=>by obtain⟨p,h5,h6⟩:=h2.h;exact Zm _ _ rfl h.e h1.e h5 h6 h3.h h4.h rfl s⟩
instance {α:Type} {enc:α->Value} {xs:List α} {e:TypeId} {kd:IntKind} {n:Nat} [h:Som (ev2 env x) v] [h1:Som (ev2 env y) (.int kd (@OfNat.ofNat Int n (@instOfNat n)))] [hl:TB (eqb n n)] [h2:RdI P H v i k enc xs] [h3:Und P t (.slice e)] [h4:Siz P e k] :
  DI P N sc (.indexAddr t x y) env H (.pointer (some (ead v (@OfNat.ofNat Nat n (instOfNatNat n)) k))) (@OfNat.ofNat Nat n (instOfNatNat n)<xs.length):=⟨λs=>by obtain⟨p,h5,h6⟩:=h2.h;exact Zm _ _ rfl h.e h1.e h5 h6 h3.h h4.h rfl s⟩
instance {α:Type} {enc:α->Value} {xs:List α} {n:Nat} {d0:α} [h:Som (ev2 env x) (.pointer (some (ead v n k)))] [h2:RdI P H v i k enc xs] [h3:EncT P t k enc] [h4:Df α d0] :
  DI P N sc (.load t x) env H (enc (xs.getD n d0)) (n<xs.length):=⟨λs=>by obtain⟨p,h5,h6⟩:=h2.h;exact Xk _ d0 rfl h.e h5 h6 h3.h s⟩
instance {fs:List Field} {q bo:Nat} {nm tag pk:String} {ft:TypeId} {em:Bool} [h:Som (ev2 env x) (.agg l.toArray)] [h1:Und P t (.struct fs.toArray)] [h2:Som (nth fs f) ⟨nm,ft,q,em,tag,pk,bo⟩] [h3:Agg P ft false] [h4:Som (nth l q) v] :
  DI P N sc (.field t x f) env H v True:=⟨λ_=>d_fld rfl h.e h1.h h2.n h3.h h4.n⟩
end
class Adv (n:Nat) (p:Prop) (q:outParam Prop):Prop where h:q->p
def go(n:Nat){p q:Prop}[h:Adv n p q](k:q):p:=h.h k
@[reducible] def dsto (l:List Oper) (j:Nat):Option Nat:=match nth l j with
 | some o=>o.dst
 | none=>none
theorem Nh{l:List Oper}{j e:Nat}(h:Som (dsto l j) e):(l.toArray[j]?).bind (·.dst)=some e:=by
 have h:=h.h;unfold dsto at h;rw [Zec]at h;simp only [jO];cases hb:l[j]? with
 | none=>rw [hb]at h;cases h
 | some o=>rw [hb]at h;exact h
section
variable {n:Nat} {q r s:Prop} {c x y:Code} {id:Nat} {l:List Oper} {ops:Array Oper} {rest:List Oper} {d j t:Nat} {op:Go.Op} {ty:TypeId} {pos:String} {af:Array Edge} {v:Value} {e:Exit} {b:Bool}
instance {p:Prop} : Adv 0 p p:=⟨λk=>k⟩
instance [h:Adv n (E P N sc x (Exit.then (y.wp P Q) Q) env H) q]:Adv (n+1) (E P N sc (.seq x y) Q env H) q:=⟨λk=>e_seq (h.h k)⟩
instance [h:Adv n (L P N sc l.toArray l Q env H) q]:Adv (n+1) (E P N sc (.region id l.toArray false) Q env H) q:=⟨λk=>e_reg (h.h k)⟩
instance [h:Adv n (X N sc .normal Q env H) q]:Adv (n+1) (E P N sc .skip Q env H) q:=⟨λk=>e_skip (h.h k)⟩
instance [h:Adv n (E P N sc c (Exit.inBlock id Q) env H) q]:Adv (n+1) (E P N sc (.block id c) Q env H) q:=⟨λk=>Zm2 (h.h k)⟩
instance [h:Adv n (X N sc (.exit id) Q env H) q]:Adv (n+1) (E P N sc (.exit id) Q env H) q:=⟨λk=>e_exit (h.h k)⟩
instance [h:Adv n (X N sc .ret Q env H) q]:Adv (n+1) (E P N sc .ret Q env H) q:=⟨λk=>e_ret (h.h k)⟩
instance {o:Operand} [h1:Som (ev2 env o) (.bool true)] [h:Adv n (E P N sc x Q env H) q]:Adv (n+1) (E P N sc (.cond o x y) Q env H) q:=⟨λk=>Zm0 h1.e (h.h k)⟩
instance {o:Operand} [h1:Som (ev2 env o) (.bool false)] [h:Adv n (E P N sc y Q env H) q]:Adv (n+1) (E P N sc (.cond o x y) Q env H) q:=⟨λk=>Zm1 h1.e (h.h k)⟩
instance [h:Adv n (E P N sc y Q env H) q]:Adv (n+1) (X N sc .normal (Exit.then (y.wp P Q) Q) env H) q:=⟨λk=>x_then (h.h k)⟩
instance {K:Act->World->Prop} [h:Adv n (X N sc .ret Q env H) q]:Adv (n+1) (X N sc .ret (Exit.then K Q) env H) q:=⟨λk=>x_ret (h.h k)⟩
instance {K:Act->World->Prop} [h:Adv n (X N sc (.exit id) Q env H) q]:Adv (n+1) (X N sc (.exit id) (Exit.then K Q) env H) q:=⟨λk=>x_exit (h.h k)⟩
instance [h:Adv n (X N sc .normal Q env H) q]:Adv (n+1) (X N sc .normal (Exit.inBlock id Q) env H) q:=⟨λk=>x_bn (h.h k)⟩
instance [h:Adv n (X N sc .ret Q env H) q]:Adv (n+1) (X N sc .ret (Exit.inBlock id Q) env H) q:=⟨λk=>x_br (h.h k)⟩
instance [h:Adv n (X N sc .normal Q env H) q]:Adv (n+1) (X N sc (.exit id) (Exit.inBlock id Q) env H) q:=⟨λk=>x_be (h.h k)⟩
instance (priority:=low) {id':Nat} [hn:TB (neb id' id)] [h:Adv n (X N sc (.exit id') Q env H) q]:Adv (n+1) (X N sc (.exit id') (Exit.inBlock id Q) env H) q:=⟨λk=>x_bo (Hd hn.h) (h.h k)⟩
instance [h:Adv n (X N sc .normal Q env H) q]:Adv (n+1) (L P N sc ops [] Q env H) q:=⟨λk=>l_nil (h.h k)⟩
instance [h1:DI P N sc op env H v s] [h2:TB (ltb d N)] [h:Adv n (L P N sc ops rest Q ((d,v)::env) H) q] [h3:AndO s q r]:Adv (n+1) (L P N sc ops (⟨some d,op,ty,pos,af,none⟩::rest) Q env H) r:=
 ⟨λk=>dt (h1.h (h3.h k).1) (h.h (h3.h k).2) (Xe h2.h)⟩
instance [hj:Som (dsto l j) t] [hg:Som (lk2 env t) (.bool b)] [h4:TB (ltb t N)] [h1:DI P N sc op env H v s] [h2:TB (ltb d N)] [h:Adv n (L P N sc l.toArray rest Q ((d,v)::env) H) q] [h3:AndO s q r]:Adv (n+1) (L P N sc l.toArray (⟨some d,op,ty,pos,af,some (j,b)⟩::rest) Q env H) r:=
 ⟨λk=>gdt (h1.h (h3.h k).1) (Nh hj) hg.l (h.h (h3.h k).2) (Xe h4.h) (Xe h2.h)⟩
instance [hj:Som (dsto l j) t] [hg:Som (lk2 env t) (.bool false)] [h4:TB (ltb t N)] [h2:TB (ltb d N)] [h:Adv n (L P N sc l.toArray rest Q ((d,undef)::env) H) q]:Adv (n+1) (L P N sc l.toArray (⟨some d,op,ty,pos,af,some (j,true)⟩::rest) Q env H) q:=
 ⟨λk=>gsk (Nh hj) hg.l rfl (Xe h4.h) (Xe h2.h) (h.h k)⟩
instance [hj:Som (dsto l j) t] [hg:Som (lk2 env t) (.bool true)] [h4:TB (ltb t N)] [h2:TB (ltb d N)] [h:Adv n (L P N sc l.toArray rest Q ((d,undef)::env) H) q]:Adv (n+1) (L P N sc l.toArray (⟨some d,op,ty,pos,af,some (j,false)⟩::rest) Q env H) q:=
 ⟨λk=>gsk (Nh hj) hg.l rfl (Xe h4.h) (Xe h2.h) (h.h k)⟩
instance [hj:Som (dsto l j) t] [hg:Som (lk2 env t) undef] [h2:TB (ltb d N)] [h:Adv n (L P N sc l.toArray rest Q ((d,undef)::env) H) q]:Adv (n+1) (L P N sc l.toArray (⟨some d,op,ty,pos,af,some (j,b)⟩::rest) Q env H) q:=
 ⟨λk=>gsku (Nh hj) hg.l (Xe h2.h) (h.h k)⟩
end
end Go.Sky
namespace Go.Sky
variable {P:Program} {N:Nat} {sc:Nat->Prop} {env env':Yd} {H H':Hp} {Q Q':Exit->Act->World->Prop} {M:Nat->Prop}
class Hw (w0:World) (sc:Nat->Prop):Prop where h:∀b,w0.heap.size<=b->sc b
class EvI (env:Yd) (xs:List Operand) (vs:outParam (List Value)):Prop where h:EvL env xs vs
instance:EvI env [] []:=⟨aB⟩
instance {x:Operand} {r:List Operand} {v:Value} {vs:List Value} [h:Som (ev2 env x) v] [h2:EvI env r vs]:EvI env (x::r) (v::vs):=⟨⟨h.e,h2.h⟩⟩
class CalF (P:Program) (f:FuncId):Prop where h:∀args w,(callFunc f args).run P w= .ok (.enter f args) w
class AddI (n:Nat) (l:List Pc) (H:Hp) (H':outParam Hp):Prop where h:adds n l H=H'
instance {n:Nat} : AddI n [] H H:=⟨rfl⟩
instance {n:Nat} {p:Pc} {r:List Pc} [h:AddI (n+1) r H H']:AddI n (p::r) H ((n,p)::H'):=⟨by rw [<-h.h]⟩
class PreL (P:Program) (H:Hp) (al:Bool) (ids:List Nat) (pre:outParam (List Pc)):Prop where h:PreOk H al pre
class RoI (p:Pc):Prop where h:p.own=false
instance {α:Type} {k:Nat} {enc:α->Value} {v:Value} {xs:List α} : RoI (Ou k enc v xs):=⟨rfl⟩
instance {β:Type} {k:Nat} {enc:β->Value} {q:β->Pc} {v:Value} {zs:List β} : RoI (Nd k enc q v zs):=⟨rfl⟩
instance {b:Nat} {t:TypeId} {cs:Array Value} : RoI (Kc b t cs):=⟨rfl⟩
class LnI (P:Program) (al:Bool) (i:Nat) (p:Pc) (q:outParam Pc):Prop where
 h:i≠0->∀{H r},lk H i=some p->PreOk H al r->PreOk H al (q::r)
theorem Zgm{i:Nat}(h:i≠0):Nat.beq i 0=false:=by
 cases hb:Nat.beq i 0 with
 | true=>exact absurd (cP hb) h
 | false=>rfl
instance {al:Bool} {i:Nat} {p:Pc} [h:RoI p]:LnI P al i p p:=⟨λh0 _ _ hi hr=>Xu i hi (Zgm h0) h.h hr⟩
instance {α:Type} {i k:Nat} {e:TypeId} {enc:α->Value} {v:Value} {xs:List α} [h:EncT P e k enc]:LnI P false i (Yu k e enc v xs) (Ou k enc v xs):=⟨λh0 _ _ hi hr=>Ha i hi (Zgm h0) h.h hr⟩
instance {i b:Nat} {t:TypeId} {cs:Array Value} : LnI P false i (box b t cs) (Kc b t cs):=⟨λh0 _ _ hi hr=>Zgw i hi (Zgm h0) hr⟩
instance {al:Bool} : PreL P H al [] []:=⟨aB⟩
instance {al:Bool} {i:Nat} {ids:List Nat} {p q:Pc} {r:List Pc} [h:Som (lk2 H i) p] [h0:TB (neb i 0)] [h1:LnI P al i p q] [h2:PreL P H al ids r]:PreL P H al (i::ids) (q::r):=⟨h1.h (Hd h0.h) h.l h2.h⟩
theorem T.conv{o:Oper}{G:Type}{φ:G->Prop}{c:G->Yd}{a b:G->Hp}(h:T P N sc M o env H φ c a)(d:∀g,a g=b g):T P N sc M o env H φ c b:=by rw [show b=a from(funext d).symm];exact h
section
variable {f:FuncId} {xs:List Operand} {ats:Array TypeId} {d:Nat} {vs fs us:List Value} {pre:List Pc} {al:Bool} {G:Type} {φ:G->Prop} {val:G->Value} {its:G->List Pc} {w0:World} {M0:Nat->Prop} {ty:TypeId} {pos:String} {af:Array Edge} {g:Option (Nat×Bool)}
def t_ca(n:Nat)(a:List Nat)(c:Cal P f vs.toArray pre al φ val its){b:G->Hp}[hx:EvI env xs vs][hf:CalF P f][hp:PreL P H al a pre][h0:Som (lk2 H 0) (keep w0 M0)][hN:TB (ltb d N)][hw:Hw w0 sc][ha:∀g,AddI n (its g) H (b g)] :
  T P N sc M ⟨some d,.call { callee:= .value (.func f),args:=xs.toArray,argTypes:=ats },ty,pos,af,g⟩ env H φ (λg=>(d,val g)::env) b:=
 (Zhz n c rfl rfl (Xe hN.h) hx.h hf.h hp.h h0.l hw.h).conv λg=>(ha g).h
class On1 (P:Program) (N:Nat) (sc:Nat->Prop) (env:Yd) (H:Hp) (v:Value):Prop where h:One N sc env H v
instance {k:IntKind} {n:Int} : On1 P N sc env H (.int k n):=⟨Qq rfl⟩
instance {b:Bool} : On1 P N sc env H (.bool b):=⟨Qq rfl⟩
instance {s:ByteArray} : On1 P N sc env H (.string s):=⟨Qq rfl⟩
instance {a:Option Addr} : On1 P N sc env H (.pointer a):=⟨Qq rfl⟩
instance {a:Option Addr} {m n:Nat} : On1 P N sc env H (.slice a m n):=⟨Qq rfl⟩
instance (priority:=low) {α:Type} {i k:Nat} {v:Value} {enc:α->Value} {ys:List α} [h:RdI P H v i k enc ys]:On1 P N sc env H v:=⟨by obtain⟨p,h1,h2⟩:=h.h;exact Bj _ h1 h2⟩
class OnL (P:Program) (N:Nat) (sc:Nat->Prop) (env:Yd) (H:Hp) (l:List Value):Prop where h:∀u∈l,One N sc env H u
instance:OnL P N sc env H []:=⟨λ_ h=>nomatch h⟩
instance {v:Value} {l:List Value} [h:On1 P N sc env H v] [h2:OnL P N sc env H l]:OnL P N sc env H (v::l):=⟨λu hu=>by
 cases hu with
 | head=>exact h.h
 | tail _ hu=>exact h2.h u hu⟩
class CeI (P:Program) (N:Nat) (sc:Nat->Prop) (env:Yd) (H:Hp) (v:Value) (l:outParam (List Value)):Prop where
 h:∀a w,Sat N sc env H a w->v.cells=l.toArray
 o:∀u∈l,One N sc env H u
instance {l:List Value} [h:OnL P N sc env H l]:CeI P N sc env H (.agg l.toArray) l:=⟨λ_ _ _=>rfl,h.h⟩
instance (priority:=low) {v:Value} [h:On1 P N sc env H v]:CeI P N sc env H v [v]:=⟨λa w hs=>Ys (h.h a w hs),λu hu=>by rw [aY.1 hu];exact h.h⟩
class ClI (v:Value) (l:outParam (List Value)):Prop where h:v.cells=l.toArray
instance {l:List Value} : ClI (.agg l.toArray) l:=⟨rfl⟩
instance {k:IntKind} {n:Int} : ClI (.int k n) [.int k n]:=⟨rfl⟩
instance {b:Bool} : ClI (.bool b) [.bool b]:=⟨rfl⟩
instance {s:ByteArray} : ClI (.string s) [.string s]:=⟨rfl⟩
instance {a:Option Addr} : ClI (.pointer a) [.pointer a]:=⟨rfl⟩
instance {a:Option Addr} {m n:Nat} : ClI (.slice a m n) [.slice a m n]:=⟨rfl⟩
class Zer (P:Program) (t:TypeId) (z:outParam Value):Prop where h:∀w,(zeroValue t).run P w= .ok z w
variable {t tb:TypeId} {l l':List Value} {v z:Value} {x y:Operand} {i j k b:Nat}
def Oy(n:Nat)[hz:Zer P t z][hc:ClI z l][h0:Som (lk2 H 0) (keep w0 M0)][hN:TB (ltb d N)][hw:Hw w0 sc] :
  T P N sc M ⟨some d,.alloc t,ty,pos,af,g⟩ env H (G:=Nat) (λ_=>True) (λb=>(d,.pointer (some ⟨b,0,none⟩))::env) (λb=>(n,box b t l.toArray)::H):=Zlg rfl rfl (Xe hN.h) hz.h hc.h h0.l hw.h
def Iv(n:Nat)[hx:Som (ev2 env x) v][hc:ClI v l][h0:Som (lk2 H 0) (keep w0 M0)][hN:TB (ltb d N)][hw:Hw w0 sc] :
  T P N sc M ⟨some d,.box t x,ty,pos,af,g⟩ env H (G:=Nat) (λ_=>True) (λb=>(d,.pointer (some ⟨b,0,none⟩))::env) (λb=>(n,box b t l.toArray)::H):=t_box rfl rfl (Xe hN.h) hx.e hc.h h0.l hw.h
@[reducible] def lay2 {α:Type} : List α->Nat->List α->List α
 | [],_,_=>[]
 | c::r,j,vs=>match j with
  | j+1=>c::lay2 r j vs
  | 0=>match vs with
   | []=>c::r
   | v::vs=>v::lay2 r 0 vs
theorem Zbs{α:Type} : ∀(l:List α) (j:Nat) (vs:List α),j+vs.length<=l.length->lay2 l j vs=l.take j ++ vs ++ l.drop (j+vs.length)
 | [],j,vs,h=>by have a:vs=[]:=aE (by simp only [cZ]at h;omega);subst a;simp [lay2]
 | c::r,j+1,vs,h=>by rw [show j+1+vs.length=(j+vs.length)+1 by omega];simp only [lay2,List.take_succ_cons,kF,gM];rw [Zbs r j vs (by simp at h;omega)]
 | c::r,0,[],h=>by simp [lay2]
 | c::r,0,v::vs,h=>by
  have e:0+vs.length<=r.length:=by simp only [bF]at h;omega
  have:=Zbs r 0 vs e;simp only [lay2,this,dK,jT,fV,bF,kF,gM]
theorem Zhx [hx:Som (ev2 env x) (.pointer (some ⟨b,j,none⟩))] [hy:Som (ev2 env y) v] [hB:BxI H b i tb l] [hi:TB (neb i 0)] [hv:CeI P N sc env H v vs] [hk:Siz P t k] [hl:TB (lenq vs k)] [hf:TB (fits l j vs)] [hr:LEv (lay2 l j vs) l']
  [h0:Som (lk2 H 0) (keep w0 M0)] [hw:Hw w0 sc] (e:M b):T P N sc M ⟨none,.store t x y,ty,pos,af,g⟩ env H (G:=Unit) (λ_=>True) (λ_=>env) (λ_=>(i,box b tb l'.toArray)::H):=λa w hs=>by
 have c:=Zfy hf.h;refine t_stb rfl rfl hx.e hy.e hB.h (Hd hi.h) (hv.h a w hs) hk.h (Fq hl.h) (by simpa using c) hv.o ?_ h0.l hw.h e a w hs;unfold Zc9;rw [<-hr.h,Zbs l j vs c]
variable {ops:Array Oper} {rest:List Oper} {op:Go.Op} {genv:G->Yd} {gH:G->Hp} {dd:Option Tmp}
def Lg(a:T P N sc (λ_=>True) ⟨dd,op,ty,pos,af,none⟩ env H φ genv gH)(h:∀g,φ g->L P N sc ops rest Q (genv g) (gH g)):L P N sc ops (⟨dd,op,ty,pos,af,none⟩::rest) Q env H:=tt a h
def gt' {c:List Oper} {e:Nat} {a:Bool} (m:T P N sc (λ_=>True) ⟨dd,op,ty,pos,af,some (j,a)⟩ env H φ genv gH) [hj:Som (dsto c j) e] [he:Som (lk2 env e) (.bool a)] [hN:TB (ltb e N)]
  (h:∀g,φ g->L P N sc c.toArray rest Q (genv g) (gH g)):L P N sc c.toArray (⟨dd,op,ty,pos,af,some (j,a)⟩::rest) Q env H:=gtt m rfl (Nh hj) he.l (Xe hN.h) h
instance {n:Nat} {q:Prop} [hx:Som (ev2 env x) (.pointer (some ⟨b,j,none⟩))] [hy:Som (ev2 env y) v] [hB:BxI H b i tb l] [hi:TB (neb i 0)] [hv:CeI P N sc env H v vs] [hk:Siz P t k] [hl:TB (lenq vs k)] [hf:TB (fits l j vs)] [hr:LEv (lay2 l j vs) l']
  [h0:Som (lk2 H 0) (keep w0 M0)] [hw:Hw w0 sc] [h:Adv n (L P N sc ops rest Q env ((i,box b tb l'.toArray)::H)) q]:Adv (n+1) (L P N sc ops (⟨none,.store t x y,ty,pos,af,none⟩::rest) Q env H) q:=
 ⟨λq=>Lg (Zhx aB) λ_ _=>h.h q⟩
end
end Go.Sky
namespace Go.Sky
open Go.RowKit Below
variable {P:Program} {N:Nat} {sc:Nat->Prop} {env env':Yd} {H H':Hp} {Q Q':Exit->Act->World->Prop} {M:Nat->Prop}
section
variable {f:FuncId} {xs:List Operand} {ats:Array TypeId} {d:Nat} {vs:List Value} {pre:List Pc} {G:Type} {φ:G->Prop} {val:G->Value} {its:G->List Pc} {w0:World} {M0:Nat->Prop} {ty:TypeId} {pos:String} {af:Array Edge} {g:Option (Nat×Bool)}
end
end Go.Sky
namespace Go.Sky
open Go.RowKit Below
variable {P:Program} {N:Nat} {sc:Nat->Prop} {env env':Yd} {H H':Hp} {Q Q':Exit->Act->World->Prop} {l:Nat}
def ER(P:Program)(N:Nat)(sc:Nat->Prop)(l:Nat)(c:Code)(Q:Exit->Act->World->Prop)(env:Yd)(H:Hp):Prop:=
 ∀a w,Sat N sc env H a w->c.wpIn (Fence.wide.inRound l) 0 P Q a w
def ndB(o:Oper):Bool:=match o.op with
 | .defer _=>false
 | _=>true
end Go.Sky
namespace Go.Sky
open Go.RowKit Below
variable {P:Program} {N:Nat} {sc:Nat->Prop} {env env':Yd} {H H':Hp} {Q Q':Exit->Act->World->Prop}
end Go.Sky
namespace Go.Sky
open Go.RowKit Below
variable {P:Program} {N:Nat} {sc:Nat->Prop} {env env':Yd} {H H':Hp} {Q Q':Exit->Act->World->Prop} {ds:List Nat}
abbrev mrk (D:Nat):Deferred:={ target:= .collected D,args:=#[] }
def ap(ds:List Nat)(a:Act):Act:={ a with defers:=a.defers ++ ds.map mrk }
def fxs(ds:List Nat):Pc:=
  { own:=true,fp:=λb=>b∈ds,holds:=λw=>ds.Nodup/\∀D∈ds,w.heap[D]? = some (.deferred (some []))
    lt:=λw b h c=>(aL.1 (h.2 b c)).1
    stable:=λw f h d=>⟨h.1,λD a=>(d.block D (aL.1 (h.2 D a)).1 (λe=>e a)).trans (h.2 D a)⟩ }
def EG(P:Program)(N:Nat)(sc:Nat->Prop)(ds:List Nat)(c:Code)(Q:Exit->Act->World->Prop)(env:Yd)(H:Hp):Prop:=
  ∀a w,Sat N sc env H a w->c.wp P Q (ap ds a) w
def XG(N:Nat)(sc:Nat->Prop)(ds:List Nat)(e:Exit)(Q:Exit->Act->World->Prop)(env:Yd)(H:Hp):Prop:=
  ∀a w,Sat N sc env H a w->Q e (ap ds a) w
def RndG{G:Type}(N:Nat)(sc:Nat->Prop)(cs:Yd)(e:Hp)(dg:G->List Nat)(h:G->Yd)(f:G->Hp)(c:G->Prop)(μ:G->Nat)(g:G):Act->World->Prop:=
  λa w=>∃b,c b/\μ b<μ g/\∃d,a=ap (dg b) d/\Sat N sc (h b ++ cs) (f b ++ e) d w
end Go.Sky
namespace Go.Sky
variable{xs:List Int}{a:R2}{b:Bool}
def lessx(xs:List Int)(m:Int):List Int:=Fh xs (tzl [m])
def Zdw(xs:List Int)(m:Int):Prop:=∃x:Rat,0<=x/\x<=1/\Za xs x<(m:Rat)
theorem Zg6{m n:Int}(h:Zdw xs m)(d:m<=n):Zdw xs n:=by
 obtain⟨x,a,b,c⟩:=h;have:(m:Rat)<=(n:Rat):=by exact_mod_cast d
 exact⟨x,a,b,O2⟩
def lws:List Int->Int
 | []=>0
 | c::p=>-(c.natAbs:Int)+lws p
theorem Zi5{n:Nat} : ∀p:List Int,(∀c∈p,c.natAbs<=n)->-((p.length*n:Nat):Int)<=lws p/\lws p<=0
 | [],_=>by show -((0*n:Nat):Int)<=0/\(0:Int)<=0;omega
 | c::p,h=>by have f:=Zi5 p λd e=>h d (bC _ e);have g:=h c bM;show -(((p.length+1)*n:Nat):Int)<=-(c.natAbs:Int)+lws p/\-(c.natAbs:Int)+lws p<=0;rw [kX];omega
theorem Zfr{x:Rat}(f:0<=x)(i:x<=1):∀p:List Int,((lws p:Int):Rat)<=Za p x
 | []=>by show((0:Int):Rat)<=0;exact gC
 | c::p=>by
  have h:=Zfr f i p;have j:=(Zi5 (n:=p.foldl (λm c=>max m c.natAbs) 0) p (λc e=>by
   have:∀(l:List Int) (a:Nat),(a<=l.foldl (λm c=>max m c.natAbs) a)/\∀c∈l,c.natAbs<=l.foldl (λm c=>max m c.natAbs) a:=λl=>by
    induction l with
    | nil=>intro a;exact⟨aH _,λc e=>absurd e O6⟩
    | cons d l h=>
     intro a;obtain⟨g,q⟩:=h (max a d.natAbs);refine⟨aM (Nat.le_max_left _ _) g,λc e=>?_⟩;rcases dA.1 e with rfl|e
     .exact aM (Nat.le_max_right _ _) g
     .exact q c e
   exact(this p 0).2 c e)).2
  have k:((lws p:Int):Rat)<=0:=by exact_mod_cast j
  have e:((-(c.natAbs:Int):Int):Rat)<=(c:Rat):=by exact_mod_cast (show -(c.natAbs:Int)<=c by omega)
  have r:=aC (show 0<=1-x by grind) (show 0<=-((lws p:Int):Rat) by grind);have o:=aC f (show 0<=Za p x-((lws p:Int):Rat) by grind);show((-(c.natAbs:Int)+lws p:Int):Rat)<=(c:Rat)+x*Za p x;push_cast at e ⊢;grind
theorem Zi8(xs:List Int):¬Zdw xs (lws xs):=by rintro⟨x,a,b,c⟩;have:=Zfr a b xs;grind
theorem Zlv(xs:List Int):Za xs 0=((cf xs 0:Int):Rat):=by
 cases xs with
 | nil=>rfl
 | cons c p=>show(c:Rat)+0*Za p 0=(c:Rat);grind
theorem Zg7(xs:List Int):Zdw xs (cf xs 0+1):=by refine⟨0,O2,O3,?_⟩;rw [Zlv];push_cast;grind
theorem Zmf{l h:Int}(c:¬Zdw xs l)(d:Zdw xs h):l<h:=by
 rcases fR l h with q|q
 .exact q
 .exact absurd (Zg6 d q) c
def Zci(hs:Sz 40 xs)(i:Nat):(cf xs i).natAbs<1099511627776:=(Oo 40 _).1 (hs i)
theorem Zi4(hs:Sz 40 xs)(m:xs.length<=9)(i:Nat):-9895604649984<=lws (xs.take i)/\lws (xs.take i)<=0:=by
 obtain⟨h,d⟩:=Zi5 (n:=1099511627776) (xs.take i) λc f=>by
  obtain⟨k,g,rfl⟩:=dV.1 f;have l:=Zci hs k;rw [aI]at g;have e:(xs.take i)[k]=cf xs k:=by rw [iP];unfold cf;rw [aA,aF O];rfl
  rw [e];omega
 have j:(xs.take i).length*1099511627776<=9*1099511627776:=bI _ (by rw [aI];omega);exact⟨O,d⟩
structure FlI (xs:List Int) (lo hi:Int):Prop where
 l:¬Zdw xs lo
 h:Zdw xs hi
 b1:-17592186044416<=lo
 b2:hi<=17592186044416
def FlI.lt{c hi:Int}(h:FlI xs c hi):c<hi:=Zmf h.l h.h
theorem FlI.start(hs:Sz 40 xs)(c:xs.length<=9){i:Nat}(hi:xs.length<=i):FlI xs (lws (xs.take i)) (cf xs 0+1):=by have d:=Zi4 hs c i;have e:=Zci hs 0;refine⟨by rw [bZ hi];exact Zi8 xs,Zg7 xs,O,O⟩
structure Ef (a:R2):Prop where
 p:0<a.2
 b1:bl a.1.natAbs<=512
 b2:bl a.2.natAbs<=512
def E32.ef(h:E32 a):Ef a:=⟨h.p,aM h.b1 O3,aM h.b2 O3⟩
def plx(a b:R2):Int:=a.1*b.2
def ply(a b:R2):Int:=b.1*a.2
def pld(a b:R2):Int:=a.2*b.2
def plc(xs:List Int)(a b:R2):List Int:=Zip xs (plx a b) (ply a b-plx a b) (pld a b)
def psum(c:List Int)(d j:Nat)(i:Nat):Int:=Zc (λi=>cf c i*(Pp (d-i) (j-i):Int)) i
def plainB(xs:List Int)(a b:R2):Bool:=if xs.length=0 then true else(List.range xs.length).all λj=>decide (0<=psum (plc xs a b) (xs.length-1) j (min (j+1) (plc xs a b).length))
abbrev PTs:=Int×R2×R2
abbrev P0:PTs:=(0,(0,0),(0,0))
abbrev encP9 (z:PTs):Value:= .agg #[.int .i64 z.1,.bool (decide (z.2.1.1<0)),.string (Og z.2.1.1.natAbs),.bool (decide (z.2.1.2<0)),.string (Og z.2.1.2.natAbs),.bool (decide (z.2.2.1<0)),.string (Og z.2.2.1.natAbs),.bool (decide (z.2.2.2<0)),.string (Og z.2.2.2.natAbs)]
def shw(xs:List Int)(z:PTs):Bool:=if z.1=1 then plainB xs z.2.1 z.2.2 else if xs.length=0\/cmp z.2.1 z.2.2=0 then decide (0<=vlu (Lr xs) z.2.1)else decide (0<aft (Lr xs) z.2.1) && !crb (chx xs) z.2.1 z.2.2
def okpB(xs:List Int)(l:R2)(z:PTs):Bool:=decide (cmp l z.2.1=0) && decide (¬0<cmp z.2.1 z.2.2) && shw xs z
def lst(a:R2)(ps:List PTs)(i:Nat):R2:=if i=0 then a else(ps.getD (i-1) P0).2.2
def chkP(xs:List Int)(ps:List PTs)(a b:R2):Bool:=decide (0<ps.length) && (List.range ps.length).all (λk=>okpB xs (lst a ps k) (ps.getD k P0)) && decide (cmp (lst a ps ps.length) b=0)
def ValP(ps:List PTs):Prop:=∀z∈ps,(z.1=1\/z.1=2)/\Ef z.2.1/\Ef z.2.2
theorem Ef.efit(h:Ef a):Go.Sky.efit a=true:=by have:=h.b1;have:=h.b2;unfold Go.Sky.efit;exact aQ O
theorem bnot_t(h:(!b)=true):b=false:=by cases b<;>simp_all
theorem bnot_f(h:(!b)=false):b=true:=by cases b<;>simp_all
def Zea(f:Nat->Rat):Nat->Rat
 | 0=>0
 | n+1=>Zea f n+f n
def Hj(f:Nat->Rat)(n:Nat):Zea f (n+1)=Zea f n+f n:=rfl
theorem Ba{f g:Nat->Rat} : ∀n,(∀i,i<n->f i=g i)->Zea f n=Zea g n
 | 0,_=>rfl
 | n+1,h=>by rw [Hj,Hj,Ba n λi hi=>h i O,h n O]
theorem chz_0(n:Nat):Pp n 0=1:=by cases n<;>rfl
def Mo(d:Nat)(c:List Int)(j:Nat):Int:=Zc (λi=>cf c i*(Pp (d-i) (j-i):Int)) (j+1)
end Go.Sky

