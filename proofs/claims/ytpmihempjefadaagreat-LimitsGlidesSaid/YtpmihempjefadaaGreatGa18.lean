/- Rules, arithmetic and contracts: part 19. No conditions but those that each theorem names. -/
import Derived.Test.YtpmihempjefadaaGreatGa17
set_option linter.all false
set_option maxHeartbeats 4000000
namespace Go.Sky
structure Mvd (y:Int) (v:Nat->Rat) (a c:List Zl):Prop where
 len:c.length=a.length
 t1:∀k,k<a.length->(c.getD k G0).1.1=(a.getD k G0).1.1+y
 t2:∀k,k<a.length->(c.getD k G0).1.2.1=(a.getD k G0).1.2.1+y
 ck:∀k,k<a.length->∀fr to,Zq0 fr to (a.getD k G0)=true->Yez (fr+y) (to+y) (c.getD k G0)=Yez fr to (a.getD k G0)
 pl:∀k,k<a.length->∀(t:Rat) i,i<3->pzQ (c.getD k G0) i (sR (c.getD k G0) (t+(y:Rat)))=pzQ (a.getD k G0) i (sR (a.getD k G0) t)+v i
section
variable {y:Int} {v w:Nat->Rat} {a b c d:List Zl}
def Mvd.F(h:Mvd y v a c)(e:0<a.length):spF c=spF a+y:=h.t1 0 e
theorem Mvd.L(h:Mvd y v a c)(e:0<a.length):spL c=spL a+y:=by unfold spL;rw [h.len];exact h.t2 _ O
variable (hpa:∀g∈a,Gin g) (hpb:∀g∈b,Gin g) (hba:Ok a=true) (hbb:Ok b=true) (hpc:∀g∈c,Gin g) (hpd:∀g∈d,Gin g) (hbc:Ok c=true) (hbd:Ok d=true)
include hpa hpb hba hbb hpc hpd hbc hbd
end
end Go.Sky
namespace Go.Sky
variable{d:Int}{r:Rat}{m:Nat}
structure QOK (n d:Int) (r:Rat) (m:Nat):Prop where
 p:0<d
 v:(n:Rat)=r*(d:Rat)
 a:bl n.natAbs<=m
 b:bl d.natAbs<=m
theorem QOK.ne{n:Int}(h:QOK n d r m):d≠0:=by have:=h.p;omega
def QOK.mono{n:Int}{k:Nat}(h:QOK n d r m)(a:m<=k):QOK n d r k:=⟨h.p,h.v,aB h.a a,aB h.b a⟩
def QOK.cg{n:Int}{s:Rat}(h:QOK n d r m)(e:r=s):QOK n d s m:=e▸h
def sq3(f:Nat->Rat):Nat->Rat
 | 0=>0
 | k+1=>sq3 f k+f k*f k
abbrev QzT:=(Int×SL)×(Int×SL)
abbrev encq (z:QzT):Value:= .agg #[.bool (decide (z.1.1<0)),Lh z.1.2,.bool (decide (z.2.1<0)),Lh z.2.2]
abbrev qq (z:QzT):Pc:=Zc1 qI [z.1,z.2]
abbrev QZ0:QzT:=((0,none,0,0),(1,none,0,0))
def PlQ(g:Zl)(t:Rat)(zs:List QzT)(k:Nat):Prop:=zs.length=k/\∀i,i<k->QOK (zs.getD i QZ0).1.1 (zs.getD i QZ0).2.1 (pzQ g i (sR g t)) 28000
def Plc(ps:List Zl)(t:Rat)(zs:List QzT):Prop:=∃j,j<ps.length/\InG (ps.getD j G0) t/\PlQ (ps.getD j G0) t zs 3
def ClsI(a b:List Zl)(D:Int)(t:Rat)(c:Bool):Prop:=∃j k,j<a.length/\k<b.length/\InG (a.getD j G0) t/\InG (b.getD k G0) t/\(c=true↔dQ (a.getD j G0) (b.getD k G0) (sR (a.getD j G0) t) (sR (b.getD k G0) t)<(D:Rat)*(D:Rat))
section
variable {P:Program} {N:Nat} {sc:Nat->Prop} {env:Xu} {H:Hp}
end
def MvR(ps:List Zl)(v:V3T)(zs:List Zl)(e:Int):Prop:=e=2\/e=3\/e=0/\Ok zs=true/\(∀g∈zs,Gin g)/\zs.map unS=(ps.map (mvG v)).map unS
end Go.Sky
namespace Go.Sky
open Go.Proofs.Tryz
open Go.Proofs
set_option synthInstance.maxHeartbeats 0
set_option synthInstance.maxSize 100000
set_option maxRecDepth 20000
set_option linter.unusedSimpArgs false
variable{o:Oper}{t:TypeId}{w0:World}{M0:Nat->Prop}{es:List (Int×Value)}
theorem ve_vc{x y z:Int}:Yx prog 128 #[.agg #[.int .i64 x,.int .i64 y,.int .i64 z]] [] (.bool (vcB x y z)):=by refine Zd func128 ntmps128 λw0 d b a=>go 2 ?_;refine Zw (Zu 1) λc _=>go 11 ?_;refine tt (Xw [(0,_),(1,_),(2,_)] 2 (enc:=Ys) ([x,y,z]:List Int) J J K6 Oa ti3 J J J J J pZ.cells J J b.h) λv _=>cl 2 [2] (Zwv [x,y,z] 16777216 ⟨O3,O3⟩) λ_ _=>go 4 ?_;exact Xg a () results128 J aA Za
open Go Go.MapKept
variable {P:Program} {N:Nat} {sc:Nat->Prop} {env env':Xu} {H H':Hp} {Q Q':Exit->Act->World->Prop} {M:Nat->Prop}
def mpe(a:Array MapEntry)(es:List (Int×Value)):Prop:=a.toList.map (λe=>(e.key,e.val))=es.map λp=>(Value.int .i64 p.1,p.2)
def mpi(b:Nat)(es:List (Int×Value)):Pc:=
 {own:=true,fp:=λk=>k=b,holds:=λw=>∃a n,w.heap[b]? = some (.map a n)/\mpe a es
  lt:=λw k h f=>by subst f;obtain⟨_,_,h,_⟩:=h;exact(aR.1 h).1
  stable:=λw i h e=>by obtain⟨a,n,c,d⟩:=h;exact⟨a,n,(e.block b (aR.1 c).1 (λg=>g rfl)).trans c,d⟩ }
def mfi:List (Int×Value)->Int->Nat->Option (Nat×Value)
 | [],_,_=>none
 | (a,v)::r,k,i=>if k=a then some (i,v)else mfi r k (i+1)
theorem fn_i(k:Int):∀(l:List MapEntry) (es:List (Int×Value)) (i:Nat),l.map (λe=>(e.key,e.val))=es.map (λp=>(Value.int .i64 p.1,p.2))->Instr.findNow (.int .i64) (.int .i64 k) l i=some (mfi es k i)
 | [],[],_,_=>rfl
 | [],_::_,_,h=>by cases h
 | _::_,[],_,h=>by cases h
 | e::l,(a,v)::es,i,h=>by
  simp only [cH,List.cons.injEq,Prod.mk.injEq]at h;obtain⟨⟨c,d⟩,f⟩:=h;by_cases b:k=a
  .subst b;simp [Instr.findNow,c,d,Instr.sameNow,mfi]
  .have g:(k == a)=false:=by simpa using b
   simp [Instr.findNow,c,Instr.sameNow,g,mfi,b,fn_i k l es (i+1) f]
theorem t_mmi   {d i:Nat}   (j:o.op= .makeMap t none) (h:o.dst=some d) (f:Nat.blt d N=true)
  (c:lk H 0=some (Xm w0 M0)) (l:∀b,w0.heap.size<=b->sc b) :
  T P N sc M o env H (G:=Nat) (λ_=>True) (λb=>(d,.map (some b))::env) (λb=>(i,mpi b [])::H):=λa w hs K Q e=>by
 have k:(execOp a.eval o).run P w= .ok (.value (.map (some w.heap.size))) (w.alloc (.map #[] 0)):=by simp only [execOp,j,Sem.run_bind,Option.map_none];rfl
 unfold Oper.wp;rw [k];show K (a.put o.dst _) _;rw [h];exact e w.heap.size _ _ aA ((hs.new c l i (mpi w.heap.size []) (.map #[] 0) ⟨#[],0,heap_alloc_new w _,rfl⟩ (λb g=>g)).put d _ f) (Chg.alloc _ _ _)
theorem Zw5 (i:Nat)  {kt B:TypeId} {x y z:Operand} {b:Nat} {k:Int} {v:Value}    (V:o.op= .insert t x y z) (R:o.dst=none)
  (Z:ev env x=some (.map (some b))) (hy:ev env y=some (.int .i64 k)) (hz:ev env z=some v) (p:lk H i=some (mpi b es)) (m:mfi es k 0=none) (j:i≠0) (S:P.underlying t=some (.map kt B)) (d:P.underlying kt=some (.int .i64))
  (D:lk H 0=some (Xm w0 M0)) (Y:∀b,w0.heap.size<=b->sc b) (I:M b) :
  T P N sc M o env H (G:=Unit) (λ_=>True) (λ_=>env) (λ_=>(i,mpi b (es ++ [(k,v)]))::H):=λa w hs K Q F=>by
 obtain⟨c,n,h,s⟩:∃c n,w.heap[b]? = some (.map c n)/\mpe c es:=hs.hold i _ p;have l:b<w.heap.size:=(aR.1 h).1;have u:=fn_i k _ _ 0 s;rw [m]at u;have W:(execOp a.eval o).run P w= .ok .skip { w with heap:=w.heap.setIfInBounds b (.map (c.push ⟨.int .i64 k,v,n⟩) (n+1)) }:=by simp [execOp,V,hs.ev Z,hs.ev hy,hs.ev hz,Instr.mapUpdate,run_underlying S,Go.MapKept.run_getObj_map h,run_checkKey d (show IsKey (.int .i64) (.int .i64 k)from rfl),run_findKey d u,Go.MapKept.run_setObj_map _ h]
 unfold Oper.wp;rw [W];show K (a.put o.dst _) _;rw [R];have r:∀f:Nat->Prop,f b->Chg f w { w with heap:=w.heap.setIfInBounds b (.map (c.push ⟨.int .i64 k,v,n⟩) (n+1)) }:=λf g=>
  ⟨rfl,rfl,rfl,O7,λk d m=>by have:b≠k:=λe=>m (e▸g);simp [jT,this]⟩
 exact F () _ _ aA ((hs.upd p rfl j (q:=mpi b (es ++ [(k,v)])) (r (λk=>k=b) rfl) ⟨_,_,by simp only [jT,l,gP];rfl,by unfold mpe at *;simp [s]⟩ (λk d=> .inl d) D Y).put_none undef) (r _ I)
end Go.Sky
namespace Go.Sky
variable{a b m:Int}{u:Rat}
def Za1(a b:Int)(c:List Int):List Int:=a::(if a=b then []else c.map λf=>f*(b-a))
abbrev Ztc:List Int:=[0,0,10,-15,6]
def glC(a b:Int):List Int:=Za1 a b Ztc
theorem Zqm : glC a a=[a]:=by unfold glC Za1;rw [aG rfl]
theorem Zql(h:a≠b):glC a b=[a,0,0,10*(b-a),(-15)*(b-a),6*(b-a)]:=by unfold glC Za1;rw [aE h];simp
theorem Zp2(a b:Int)(u:Rat):Zb (dN 1 (tzl (glC a b))) u=((b-a:Int):Rat)*(30*((u*(1-u))*(u*(1-u)))):=by
 by_cases h:a=b
 .subst h;have e:Zb (Zy (tzl (glC a a))) u=Zb [] u:=Qq u _ _ λi=>by rw [Mw,Nj,Zqm,Dc,Zv O7];omega
  show Zb (Zy _) u=_;refine e.trans ?_;rw [nC];show(0:Rat)=_;push_cast;grind
 .have e:Zb (Zy (tzl (glC a b))) u=Zb [0,0,30*(b-a),(-60)*(b-a),30*(b-a)] u:=Qq u _ _ λi=>by
   rw [Mw,Nj,Zql h]
   match i with
   | 0=>simp [cf]
   | 1=>simp [cf]
   | 2=>simp [cf];omega
   | 3=>simp [cf];omega
   | 4=>simp [cf];omega
   | i+5=>rw [Zv O7,Zv O7];omega
  show Zb (Zy _) u=_;refine e.trans ?_;simp only [Zb];push_cast;grind
theorem Zp1(a b:Int)(u:Rat):Zb (dN 2 (tzl (glC a b))) u=((b-a:Int):Rat)*(60*(u*(1-u)*(1-2*u))):=by
 by_cases h:a=b
 .subst h;have e:Zb (Zy (Zy (tzl (glC a a)))) u=Zb [] u:=Qq u _ _ λi=>by rw [Mw,Mw,Nj,Zqm,Dc,Zv O7];omega
  show Zb (Zy (Zy _)) u=_;refine e.trans ?_;rw [nC];show(0:Rat)=_;push_cast;grind
 .have e:Zb (Zy (Zy (tzl (glC a b)))) u=Zb [0,60*(b-a),(-180)*(b-a),120*(b-a)] u:=Qq u _ _ λi=>by
   rw [Mw,Mw,Nj,Zql h]
   match i with
   | 0=>simp [cf]
   | 1=>simp [cf];omega
   | 2=>simp [cf];omega
   | 3=>simp [cf];omega
   | i+4=>rw [Zv O7,Zv O7];omega
  show Zb (Zy (Zy _)) u=_;refine e.trans ?_;simp only [Zb];push_cast;grind
abbrev d2V (c d e g f h:Int):Int:=(c-g)*(c-g)+(d-f)*(d-f)+(e-h)*(e-h)
theorem spd_3(o:Nat)(x y z:List Int)(u:Rat):spd o x y z u=Zb (dN o (tzl x)) u*Zb (dN o (tzl x)) u+Zb (dN o (tzl y)) u*Zb (dN o (tzl y)) u+Zb (dN o (tzl z)) u*Zb (dN o (tzl z)) u:=by show Zb (Hf (Hf (Hf [] (Yy (dN o (tzl x)) (dN o (tzl x)))) (Yy (dN o (tzl y)) (dN o (tzl y)))) (Yy (dN o (tzl z)) (dN o (tzl z)))) u=_;rw [Zgi,Zgi,Zgi,Zx,Zx,Zx];show(0:Rat)+_+_+_=_;grind
theorem spd_1(c d e g f h:Int)(u:Rat):spd 1 (glC c g) (glC d f) (glC e h) u=((d2V c d e g f h:Int):Rat)*(900*(((u*(1-u))*(u*(1-u)))*((u*(1-u))*(u*(1-u))))):=by rw [spd_3,Zp2,Zp2,Zp2];push_cast;grind
theorem spd_2(c d e g f h:Int)(u:Rat):spd 2 (glC c g) (glC d f) (glC e h) u=((d2V c d e g f h:Int):Rat)*(3600*((u*(1-u)*(1-2*u))*(u*(1-u)*(1-2*u)))):=by rw [spd_3,Zp1,Zp1,Zp1];push_cast;grind
theorem quart(c:0<=u)(d:u<=1):0<=u*(1-u)/\u*(1-u)<=1/4:=by have:=aC c (show 0<=1-u by grind);have:=Zxi (u-1/2);exact⟨O4,O4⟩
theorem Zrp{a b:Rat}(c:0<=a)(h:a<=b):a*a<=b*b:=by have:=aC c (show 0<=b-a by grind);have:=aC (show 0<=b by grind) (show 0<=b-a by grind);grind
theorem max_1(c:0<=u)(d:u<=1):256*(((u*(1-u))*(u*(1-u)))*((u*(1-u))*(u*(1-u))))<=1:=by obtain⟨f,g⟩:=quart c d;have e:=Zrp f g;have h:=Zrp (Zxi (u*(1-u))) e;grind
theorem max_2(e:0<=u)(f:u<=1):108*((u*(1-u)*(1-2*u))*(u*(1-u)*(1-2*u)))<=1:=by
 obtain⟨g,h⟩:=quart e f;generalize hs:(1-2*u)*(1-2*u)=s;have c:u*(1-u)=(1-s)/4:=by rw [<-hs];grind
 have i:s<=1:=O4;have:=aC (Zxi (3*s-1)) (show 0<=4-3*s by grind);have d:(u*(1-u)*(1-2*u))*(u*(1-u)*(1-2*u))=(1-s)/4*((1-s)/4)*s:=by rw [c];grind
 rw [d];grind
abbrev Fj:Rat:=(1-57735026918962576/100000000000000000)/2
def near_2:(0:Rat)<=Fj/\Fj<=1/\(1-108*((Fj*(1-Fj)*(1-2*Fj))*(Fj*(1-Fj)*(1-2*Fj))))*(100000000000000*13194139533312)<1:=O5
theorem castL : ((a:Rat)<=(b:Rat))↔a<=b:=by constructor<;>intro h<;>exact_mod_cast h
theorem castR : ((a:Rat)<(b:Rat))↔a<b:=by constructor<;>intro h<;>exact_mod_cast h
theorem Ybc(c d e g f i:Int):0<=d2V c d e g f i:=by
 have h:∀x:Int,0<=x*x:=λx=>by rw [<-mG];exact mQ _
 have:=h (c-g);have:=h (d-f);have:=h (e-i);unfold d2V;omega
theorem Zsx{D a b:Rat}(c:0<=D)(h:a<=b):D*a<=D*b:=by have:=aC c (show 0<=b-a by grind);grind
theorem Yc0{T c d e g f i:Int} : (∃u:Rat,0<=u/\u<=1/\(Ze6 1 m 1 T:Rat)<((1000^(2*1):Int):Rat)*spd 1 (glC c g) (glC d f) (glC e i) u)↔64*(m*m*(T*T))<225*d2V c d e g f i*1000000:=by
 have j:(0:Rat)<=(d2V c d e g f i:Rat):=by exact_mod_cast Ybc ..
 have k:(Ze6 1 m 1 T:Rat)=(m:Rat)*m*((T:Rat)*T):=by unfold Ze6;push_cast;grind
 have l:((1000^(2*1):Int):Rat)=1000000:=O5;rw [<-castR,k,l];simp only [spd_1];push_cast only [lI];generalize (d2V c d e g f i:Rat)=D at *;constructor
 .rintro⟨u,n,o,h⟩;have:=Zsx j (max_1 n o);push_cast;grind
 .intro h;refine⟨1/2,O5,O5,?_⟩;push_cast at h;grind
theorem Yfq{T c d e g f i:Int}(s:d2V c d e g f i<=13194139533312):(∃u:Rat,0<=u/\u<=1/\(Ze6 2 m 1 T:Rat)<((1000^(2*2):Int):Rat)*spd 2 (glC c g) (glC d f) (glC e i) u)↔3*(m*m*(T*T*(T*T)))<100*d2V c d e g f i*1000000*1000000:=by
 have j:(0:Rat)<=(d2V c d e g f i:Rat):=by exact_mod_cast Ybc ..
 have k:(d2V c d e g f i:Rat)<=13194139533312:=(show((13194139533312:Int):Rat)=13194139533312 from by decide +kernel)▸castL.2 s;have l:(Ze6 2 m 1 T:Rat)=(m:Rat)*m*((T:Rat)*T*(T*T)):=by unfold Ze6;rw [show 2*2=4 from rfl];push_cast;grind
 have n:((1000^(2*2):Int):Rat)=1000000000000:=O5;rw [l,n];simp only [spd_2];constructor
 .rintro⟨u,o,p,h⟩;have:=Zsx j (max_2 o p);rw [<-castR];push_cast at *;grind
 .intro h;obtain⟨t,v,y⟩:=near_2;refine⟨Fj,t,v,?_⟩;have r:((3*(m*m*(T*T*(T*T)))+1:Int):Rat)<=((100*d2V c d e g f i*1000000*1000000:Int):Rat):=castL.2 h;generalize (Fj*(1-Fj)*(1-2*Fj))*(Fj*(1-Fj)*(1-2*Fj))=q at *;push_cast at r;push_cast at j k ⊢;generalize ((c:Rat)-g)*(c-g)+(d-f)*(d-f)+(e-i)*(e-i)=D at *;have w:(1-108*q)*(100000000000000*D)<1:=by
   by_cases x:1-108*q<=0
   .have:=aC (show 0<=-(1-108*q) by grind) j;grind
   .have:=aC (show 0<=1-108*q by grind) (show 0<=13194139533312-D by grind);grind
  grind
theorem Yah:∀(l:List Int),Il 1 l=1
 | []=>rfl
 | x::r=>by show Il ((Int.gcd 1 x:Nat):Int) r=1;rw [Int.gcd_one_left];exact Yah r
theorem Zqk(e:-1048576<=a/\a<=1048576)(f:-1048576<=b/\b<=1048576):axB (glC a b) 1=true:=by
 by_cases h:a=b
 .subst h;rw [Zqm];have d:ctl [a] 0 1=a*60:=by simp [ctl,Zp,w60,Nm]
  have:Zeg [a] 1=true:=Zlw λj c=>by
   obtain rfl:j=0:=by simp at c;omega
   rw [d];omega
  unfold axB;rw [this];simp
 .rw [Zql h];have d:∀j,j<6->ctl [a,0,0,10*(b-a),(-15)*(b-a),6*(b-a)] j (j+1)=if j<3 then a*60 else b*60:=λj c=>by
   match j,c with
   | 0,_=>simp [ctl,Zp,w60,Nm]
   | 1,_=>simp [ctl,Zp,w60,Nm]
   | 2,_=>simp [ctl,Zp,w60,Nm]
   | 3,_=>simp [ctl,Zp,w60,Nm];omega
   | 4,_=>simp [ctl,Zp,w60,Nm];omega
   | 5,_=>simp [ctl,Zp,w60,Nm];omega
  have:Zeg [a,0,0,10*(b-a),(-15)*(b-a),6*(b-a)] 1=true:=Zlw λj c=>by rw [d j (by simpa using c)];split<;>omega
  unfold axB;rw [this];simp;omega
structure GlS (g:Zl) (T ax ay az bx b2 bz:Int):Prop where
 f:g.1.1=0
 t:g.1.2.1=T
 o:g.1.2.2=1
 x:g.2.1.2=glC ax bx
 y:g.2.2.1.2=glC ay b2
 z:g.2.2.2.2=glC az bz
section
variable {g:Zl} {T ax ay az bx b2 bz:Int} (hg:GlS g T ax ay az bx b2 bz) (hT:1<=T/\T<=3600000) (ha:ptB ax ay az=true) (hb:ptB bx b2 bz=true)
include hg hT ha hb
theorem Yac:seB g=true:=by obtain⟨c,d,e⟩:=Zd4 ha;obtain⟨f,h,i⟩:=Zd4 hb;unfold seB Ea Zw1;rw [hg.f,hg.t,hg.o,hg.x,hg.y,hg.z,Zqk c f,Zqk d h,Zqk e i,Yah];simp;omega
theorem Yei:Ok [g]=true:=by have h:Za4 [g] 0=true:=Zyz (Yac hg hT ha hb) rfl;unfold Ok;simp [h]
theorem gl_d2:d2V ax ay az bx b2 bz<=13194139533312:=by
 obtain⟨c,d,f⟩:=Zd4 ha;obtain⟨k,l,n⟩:=Zd4 hb;have h:∀x:Int,-2097152<=x->x<=2097152->x*x<=4398046511104:=λx i j=>by have:=cY (show 0<=2097152-x by omega) (show 0<=2097152+x by omega);have e:(2097152-x)*(2097152+x)=4398046511104-x*x:=O4;omega
 have:=h (ax-bx) O O;have:=h (ay-b2) O O;have:=h (az-bz) O O;unfold d2V;omega
theorem gl_fi(q:Gin g){sp ac:Int}(x:0<=sp)(y:sp<=10000)(s:0<=ac)(t:ac<=10000) :
  fiB [g] sp ac=none↔¬64*(sp*sp*(T*T))<225*d2V ax ay az bx b2 bz*1000000/\¬3*(ac*ac*(T*T*(T*T)))<100*d2V ax ay az bx b2 bz*1000000*1000000:=by
 have r:=Zj4 q (Yac hg hT ha hb);have l:=formB r x y (o:=1) (.inl rfl);have p:=formB r s t (o:=2) (.inr rfl);rw [hg.f,hg.t,hg.o,hg.x,hg.y,hg.z,eX]at l p;rw [Yc0]at l;rw [Yfq (gl_d2 hg hT ha hb)]at p;rw [<-l,<-p];have v:Ip 1 sp g=Im 1 sp 1 T (glC ax bx) (glC ay b2) (glC az bz):=by show Im 1 sp g.1.2.2 (g.1.2.1-g.1.1) g.2.1.2 g.2.2.1.2 g.2.2.2.2=_;rw [hg.f,hg.t,hg.o,hg.x,hg.y,hg.z,eX]
 have w:Ip 2 ac g=Im 2 ac 1 T (glC ax bx) (glC ay b2) (glC az bz):=by show Im 2 ac g.1.2.2 (g.1.2.1-g.1.1) g.2.1.2 g.2.2.1.2 g.2.2.2.2=_;rw [hg.f,hg.t,hg.o,hg.x,hg.y,hg.z,eX]
 rw [<-v,<-w];have j:frB [g] sp ac 0=if Gx (Ip 1 sp g)=true then 2 else if Gx (Ip 2 ac g)=true then 3 else 0:=by unfold frB;rw [aE (λh=>absurd h.1 (mJ 0)),show [g].getD 0 G0=g from rfl]
 constructor
 .intro h;by_cases d:Gx (Ip 1 sp g)=true
  .rw [Au (i:=0) (c:=2) O7 (λk e=>absurd e (dC k)) (by rw [j,aG d]) O3]at h;cases h
  .by_cases f:Gx (Ip 2 ac g)=true
   .rw [Au (i:=0) (c:=3) O7 (λk e=>absurd e (dC k)) (by rw [j,aE d,aG f]) O3]at h;cases h
   .exact⟨d,f⟩
 .rintro⟨d,f⟩;refine Zoe (n:=1) O7 λk e=>?_;obtain rfl:k=0:=O;rw [j,aE d,aE f]
end
end Go.Sky
namespace Go.Sky
open Go Go.MapKept
variable{b k a ax ay az bx b2 bz:Int}{es:List (Int×Value)}{v1 v2:Value}{p q:Nat}{xs:List Nat}
variable {P:Program} {N:Nat} {sc:Nat->Prop} {env env':Xu} {H H':Hp} {Q Q':Exit->Act->World->Prop} {M:Nat->Prop}
def mro(b:Nat)(es:List (Int×Value)):Pc:={ mpi b es with own:=false }
theorem s_pubm{b:Nat}(i:Nat)(hi:lk H i=some (mpi b es))(g:Nat.beq i 0=false):∀a w,Sat N sc env H a w->Sat N sc env ((i,mro b es)::H) a w:=λa w hs=>by
 have h:i≠0:=λe=>by subst e;cases g
 exact hs.add i (mro b es) (show(mpi b es).holds w from hs.hold i _ hi) (λj n l m _ c d f=>hs.sep i j _ n (λe=>l e.symm) hi m rfl c d f) (λc d=>hs.scope i _ h hi c d)
theorem d_mlr {o:Oper} {t kt f:TypeId} {x y:Operand} {i b:Nat}   {r:Value} {j:Nat} (u:o.op= .lookup t x y false)
  (v:ev env x=some (.map (some b))) (z:ev env y=some (.int .i64 k)) (g:lk H i=some (mro b es)) (s:P.underlying t=some (.map kt f)) (e:P.underlying kt=some (.int .i64))
  (m:mfi es k 0=some (j,r)):Ni P N sc o env H r:=λa w hs=>by
 obtain⟨c,n,h,l⟩:∃c n,w.heap[b]? = some (.map c n)/\mpe c es:=hs.hold i _ g;have d:=fn_i k _ _ 0 l;rw [m]at d;simp [execOp,u,hs.ev v,hs.ev z,Instr.lookup,run_underlying s,Go.MapKept.run_getObj_map h,run_checkKey e (show IsKey (.int .i64) (.int .i64 k)from rfl),run_findKey e d]
def rwK(k:Int):List Int:=if k=0 then []else if k=1 then [1]else Ztc
def row3(k:Int)(v1 v2:Value):Value:=if k=0 then .slice none 0 0 else if k=1 then v1 else v2
theorem mf_row(c:k=0\/k=1\/k=2):mfi [(0,.slice none 0 0),(1,v1),(2,v2)] k 0=some (k.toNat,row3 k v1 v2):=by rcases c with rfl|rfl|rfl<;>rfl
theorem s_row(l:k=0\/k=1\/k=2)(f i2 j:Nat)(g:lk H f=some (Ym 1 Ys v1 [1]))(i:lk H i2=some (Ym 1 Ys v2 Ztc))(d:Nat.beq f 0=false)(e:Nat.beq i2 0=false) :
  ∀a w,Sat N sc env H a w->Sat N sc env ((j,Ym 1 Ys (row3 k v1 v2) (rwK k))::H) a w:=λa w hs=>by
 rcases l with rfl|rfl|rfl
 .exact hs.add j (Ym 1 Ys (.slice none 0 0) []) (Zi8 1 Ys w) (λ_ _ _ _ _ b c _=>absurd rfl c.1) (λb c=>absurd rfl c.1)
 .exact Zck f j g d rfl (λw h=>h) (λb c=>c) rfl a w hs
 .exact Zck i2 j i e rfl (λw h=>h) (λb c=>c) rfl a w hs
theorem Zr3 : ∀f∈rwK k,-15<=f/\f<=15:=by
 unfold rwK;split
 .intro f c;cases c
 .split
  .intro f c;rw [aK.1 c];decide
  .decide
theorem trm_s{c:List Int}{k:Nat}(d:k<c.length):(a::((c.take (k+1)).map λf=>f*(b-a)))=(a::((c.take k).map λf=>f*(b-a))) ++ [c.getD k 0*(b-a)]:=by rw [Ql 0 _ _ d,lH];rfl
theorem trm_e (c:List Int)(h:a=b):Za1 a b c=[a]:=by unfold Za1;rw [aG h]
theorem trm_n{c:List Int}{k:Nat}(h:a≠b)(d:c.length<=k):Za1 a b c=a::((c.take k).map λf=>f*(b-a)):=by unfold Za1;rw [aE h,bW d]
abbrev numV (p:Nat):Value:= .agg #[.int .u64 ((p/U:Nat):Int),.int .u64 ((p%U:Nat):Int)]
theorem num_lo(p m:Nat):p*m%U=p%U*m%U:=by rw [Nat.mul_mod p m,Nat.mul_mod (p%U) m,Nat.mod_mod]
theorem num_hi{m:Nat}(h:p*m<U*U):p*m/U=(p%U*m/U+p/U*m%U)%U:=by
 have e:p*m=p%U*m+U*(p/U*m):=by
  conv=>lhs;rw [<-iO p U]
  rw [bD,cF]
 have d:p*m/U=p%U*m/U+p/U*m:=by rw [e,jJ _ _ Yp]
 have c:p*m/U<U:=fU h;rw [d]at c ⊢;generalize p%U*m/U=x at *;generalize p/U*m=y at *;rw [aQ (show y<U by omega),aQ c]
def Bj(l:List Nat):Nat:=l.foldl (· * ·) 1
theorem prN_s{l:List Nat}{k:Nat}(c:k<l.length):Bj (l.take (k+1))=Bj (l.take k)*l.getD k 0:=by rw [Ql 0 _ _ c];unfold Bj;rw [mX];rfl
def leL:List Nat->List Nat->Prop
 | [],[]=>True
 | x::xs,y::ys=>x<=y/\leL xs ys
 | _,_=>False
theorem Ztf:∀(xs ys:List Nat),leL xs ys->(∀y∈ys,1<=y)->∀(a b k:Nat),a<=b->(xs.take k).foldl (· * ·) a<=ys.foldl (· * ·) b
 | [],[],_,_,a,b,k,h=>by simpa using h
 | x::xs,y::ys,⟨h1,h2⟩,hy,a,b,0,h=>by
  have f:∀(l:List Nat),(∀z∈l,1<=z)->∀c,c<=l.foldl (· * ·) c:=λl=>by
   induction l with
   | nil=>intro _ c;exact aH _
   | cons z l g=>intro d c;exact aB (dL c (d z (bM ..))) (g (λi e=>d i (aT _ e)) _)
  exact aB h (f _ hy _)
 | x::xs,y::ys,⟨h1,h2⟩,hy,a,b,k+1,h=>Ztf xs ys h2 (λz d=>hy z (aT _ d)) _ _ k (aY h h1)
 | [],_::_,h,_,_,_,_,_=>h.elim
 | _::_,[],h,_,_,_,_,_=>h.elim
def Zgm(ys:List Nat)(h:leL xs ys)(e:ys.all (λy=>decide (1<=y))=true)(d:decide (Bj ys<U*U)=true):∀k,Bj (xs.take k)<U*U:=λk=>
 bC (Ztf xs ys h (λy c=>cZ (bR.1 e y c)) 1 1 k (aH _)) (cZ d)
theorem Zzf(h:((p/U:Nat):Int)>((q/U:Nat):Int)):decide (q<p)=true:=by refine aO (Nat.lt_of_not_le λd=>?_);have:=lZ (c:=U) d;omega
theorem Zzg(h:¬((p/U:Nat):Int)>((q/U:Nat):Int))(e:¬((p/U:Nat):Int)=((q/U:Nat):Int)):decide (q<p)=false:=by refine aM λd=>?_;have:=lZ (c:=U) (dZ d);omega
theorem Zze(f:((p/U:Nat):Int)=((q/U:Nat):Int)):decide (q<p)=decide (((p%U:Nat):Int)>((q%U:Nat):Int)):=by have c:=iO p U;have e:=iO q U;have d:p/U=q/U:=O;rw [d]at c;exact cE.2 O
def kpQ(q s t:Nat):Bool:=!decide (Bj [64,s,s,t,t]<q)
def kqQ(q a t:Nat):Bool:=!decide (Bj [3,a,a,t,t,t,t]<q)
def Ft(d s a t:Nat):Bool:=kpQ (Bj [225,d,1000000]) s t && kqQ (Bj [100,d,1000000,1000000]) a t
theorem pr3(a b c:Nat):Bj [a,b,c]=a*b*c:=by simp [Bj]
theorem pr4(a b c d:Nat):Bj [a,b,c,d]=a*b*c*d:=by simp [Bj]
theorem pr5(a b c d e:Nat):Bj [a,b,c,d,e]=a*b*c*d*e:=by simp [Bj]
theorem pr7(a b c d e f g:Nat):Bj [a,b,c,d,e,f,g]=a*b*c*d*e*f*g:=by simp [Bj]
theorem kp_iff{d s a t:Nat} : Ft d s a t=true↔¬64*((s:Int)*s*((t:Int)*t))<225*(d:Int)*1000000/\¬3*((a:Int)*a*((t:Int)*t*((t:Int)*t)))<100*(d:Int)*1000000*1000000:=by
 have h:Bj [64,s,s,t,t]=64*(s*s*(t*t)):=(pr5 ..).trans O4;have i:Bj [3,a,a,t,t,t,t]=3*(a*a*(t*t*(t*t))):=(pr7 ..).trans O4;have j:Bj [225,d,1000000]=225*d*1000000:=pr3 ..;have l:Bj [100,d,1000000,1000000]=100*d*1000000*1000000:=pr4 ..;unfold Ft kpQ kqQ;rw [h,i,j,l];simp only [aL,eU,fJ];have c:((64*(s*s*(t*t)):Nat):Int)=64*((s:Int)*s*((t:Int)*t)):=by simp only [dM,iT]
 have e:((3*(a*a*(t*t*(t*t))):Nat):Int)=3*((a:Int)*a*((t:Int)*t*((t:Int)*t))):=by simp only [dM,iT]
 have f:((225*d*1000000:Nat):Int)=225*(d:Int)*1000000:=by simp only [dM,iT]
 have g:((100*d*1000000*1000000:Nat):Int)=100*(d:Int)*1000000*1000000:=by simp only [dM,iT]
 rw [<-c,<-e,<-f,<-g];exact and_congr (not_congr Int.ofNat_lt.symm) (not_congr Int.ofNat_lt.symm)
theorem Zy9(g:-33554432<=a/\a<=33554432)(h:-33554432<=b/\b<=33554432):-1125899906842624<=a*b/\a*b<=1125899906842624:=by have c:=cY (show 0<=33554432-a by omega) (show 0<=33554432-b by omega);have d:=cY (show 0<=33554432+a by omega) (show 0<=33554432+b by omega);have e:=cY (show 0<=33554432-a by omega) (show 0<=33554432+b by omega);have f:=cY (show 0<=33554432+a by omega) (show 0<=33554432-b by omega);simp only [Int.sub_mul,nE,kM,kJ]at c d e f;constructor<;>omega
def Zbn(ax ay az bx b2 bz fr c:Int):Bool:=ptB ax ay az && (ptB bx b2 bz && decide (0<=fr/\fr<c/\c<=3600000))
theorem glv_t{fr c:Int}(d:ptB ax ay az=true)(e:ptB bx b2 bz=true)(f:0<=fr)(g:fr<c)(h:c<=3600000):Zbn ax ay az bx b2 bz fr c=true:=by unfold Zbn;rw [d,e,aO ⟨f,g,h⟩];rfl
theorem Zn9{fr d:Int}(c:ptB ax ay az=false):Zbn ax ay az bx b2 bz fr d=false:=by unfold Zbn;rw [c];rfl
theorem Zn8{fr d:Int}(c:ptB bx b2 bz=false):Zbn ax ay az bx b2 bz fr d=false:=by unfold Zbn;rw [c,Bool.false_and,mA]
theorem Zn6{fr c:Int}(h:¬(0<=fr/\fr<c/\c<=3600000)):Zbn ax ay az bx b2 bz fr c=false:=by unfold Zbn;rw [aM h,mA,mA]
theorem Yeg{fr c:Int}(h:Zbn ax ay az bx b2 bz fr c=true):ptB ax ay az=true/\ptB bx b2 bz=true/\0<=fr/\fr<c/\c<=3600000:=by unfold Zbn at h;simp only [aL,dW]at h;exact⟨h.1,h.2.1,h.2.2⟩
def glG(ax ay az bx b2 bz fr c k:Int)(r:SL×SL×SL):Zl:=((fr,c,1),(r.1,Za1 ax bx (rwK k)),(r.2.1,Za1 ay b2 (rwK k)),(r.2.2,Za1 az bz (rwK k)))
theorem Zpy : (rwK k).length<=5:=by unfold rwK;split;decide;split<;>decide
theorem Zn7{fr c:Int}(d:ptB ax ay az=true)(e:ptB bx b2 bz=true)(f:0<=fr)(g:fr<c):Zbn ax ay az bx b2 bz fr c=decide (c<=3600000):=by unfold Zbn;rw [d,e,jH,jH];exact cE.2 ⟨λh=>h.2.2,λh=>⟨f,g,h⟩⟩
theorem Ydy(xs:List Nat)(k:Nat):(xs.map λn:Nat=>(n:Int)).getD k 0=((xs.getD k 0:Nat):Int):=by simp only [aX,fI];cases xs[k]?<;>rfl
def tmB(ax ay az bx b2 bz sp ac:Int):Bool:=ptB ax ay az && (ptB bx b2 bz && decide ((1<=sp/\sp<=10000)/\(1<=ac/\ac<=10000)))
theorem Zrh{x y z:Int}(h:ptB x y z=true):vcB x y z=true:=by obtain⟨c,d,e⟩:=Zd4 h;unfold vcB Zky;simp;omega
@[reducible,instance] def roiM {b:Nat} {es:List (Int×Value)} : RoI (mro b es):=⟨rfl⟩
end Go.Sky
namespace Go.Sky
open Go.Proofs.Tryz
open Go.Proofs
set_option synthInstance.maxHeartbeats 0
set_option synthInstance.maxSize 100000
set_option maxRecDepth 20000
set_option linter.unusedSimpArgs false
variable{by_ k:Int}{v:Value}{r:SL×SL×SL}
theorem Zww(x y:Int)(h:Qf (x-y)):Yx prog 130 #[.int .i64 x,.int .i64 y] [] (.int .i64 (x-y)):=by refine Zd func130 ntmps130 λd c b a=>?_;refine go 14 ⟨h,?_⟩;exact Xg a () results130 J aA Za
theorem Yck{c d e f g:Int}(h:-16777216<=c/\c<=16777216)(i:-16777216<=d/\d<=16777216)(j:-16777216<=e/\e<=16777216)(l:-16777216<=f/\f<=16777216)(b:-16777216<=by_/\by_<=16777216)(m:-16777216<=g/\g<=16777216):Yx prog 129 #[.agg #[.int .i64 c,.int .i64 d,.int .i64 e],.agg #[.int .i64 f,.int .i64 by_,.int .i64 g],.func (.func 130) #[] #[]] [] (.agg #[.int .i64 (c-f),.int .i64 (d-by_),.int .i64 (e-g)]):=by refine Zd func129 ntmps129 λu t q p=>go 2 ?_;refine Zw (Zu 1) λs _=>Zw (Zu 2) λn _=>Zw (Zr 3) λo _=>go 3<|Qg (λ_=>False) [(0,0),(1,0),(2,0),(3,0),(4,0),(6,0),(7,0),(8,0),(9,0),(10,0),(12,0),(13,0),(14,0),(15,0),(16,0),(5,1),(11,1),(17,1),(18,0),(19,3)]<|go 15 ?_;refine Ec J (Ch 3 [] [_,_] [] (Zww c f (show Qf _ from⟨by have:=h;have:=l;omega,by have:=h;have:=l;omega⟩)) J J J J K2 call130 Yb J q.h) (λ_ _=>?_);refine Ec J (Ch 3 [] [_,_] [] (Zww d by_ (show Qf _ from⟨by have:=i;have:=b;omega,by have:=i;have:=b;omega⟩)) J J J J K2 call130 Yb J q.h) (λ_ _=>?_);refine Ec J (Ch 3 [] [_,_] [] (Zww e g (show Qf _ from⟨by have:=j;have:=m;omega,by have:=j;have:=m;omega⟩)) J J J J K2 call130 Yb J q.h) (λ_ _=>?_);refine Pe J J (Pz (Xd [(0,_),(1,_),(2,_)] J K6 (λa w hs=>Yfp ((Zf J) a w hs) ((Zf J) a w hs) ((Zf J) a w hs))))<|go 4 ?_;exact Xg p () results129 J aA Za
theorem ve_dot(b c d e by_ f:Int)(h:-33554432<=b/\b<=33554432)(i:-33554432<=c/\c<=33554432)(j:-33554432<=d/\d<=33554432)(l:-33554432<=e/\e<=33554432)(a:-33554432<=by_/\by_<=33554432)(m:-33554432<=f/\f<=33554432):Yx prog 131 #[.agg #[.int .i64 b,.int .i64 c,.int .i64 d],.agg #[.int .i64 e,.int .i64 by_,.int .i64 f]] [] (.int .i64 (b*e+c*by_+d*f)):=by refine Zd func131 ntmps131 λw u p n=>?_;have q:=Zy9 h l;have s:=Zy9 i a;have t:=Zy9 j m;refine go 2<|Zw (Zu 1) λo _=>Zw (Zu 2) λg _=>?_;refine go 26 ⟨O,O,O,O,O,?_⟩;exact Xg n () results131 J aA Za
theorem ve_d2{a c d e f:Int}(h:vcB a c d=true)(i:vcB e by_ f=true):Yx prog 62 #[.agg #[.int .i64 a,.int .i64 c,.int .i64 d],.agg #[.int .i64 e,.int .i64 by_,.int .i64 f]] [] (.tuple #[.int .i64 (d2V a c d e by_ f),.int .i64 0]):=by refine Zd func62 ntmps62 λx w u s=>?_;obtain⟨m,n,o⟩:=vc_b h;obtain⟨p,g,q⟩:=vc_b i;refine go 2<|Zw (Zu 1) λt _=>Zw (Zu 2) λj _=>go 8 ?_;refine cl 2 [] ve_vc λ_ _=>?_;refine dt (dF (Xn J J) (aP (λb=>Value.bool (!b)) h))<|go 2 ?_;refine Fy 2 [] ve_vc λ_ _=>?_;refine Et (dF (Xn J J) (aP (λb=>Value.bool (!b)) i)) J J<|go 10 ?_;refine cl 2 [] (Yck m n o p g q) λ_ _=>Zw (Zr 3) λl _=>go 7 ?_;refine cl 3 [] (ve_dot (a-e) (c-by_) (d-f) (a-e) (c-by_) (d-f) ⟨O,O⟩ ⟨O,O⟩ ⟨O,O⟩ ⟨O,O⟩ ⟨O,O⟩ ⟨O,O⟩) λ_ _=>go 5 ?_;exact Na s () results62 J aA Za
theorem Yeh:Cal prog 215 #[] [] true (G:=Nat×SL×SL) (λr=>True) (λr=> .map (some r.1)) (λr=>[mro r.1 [(0,.slice none 0 0),(1,Lh r.2.1),(2,Lh r.2.2)],Ym 1 Ys (Lh r.2.1) [1],Ym 1 Ys (Lh r.2.2) Ztc]):=by refine Zd func215 ntmps215 λl j a d=>go 7 ?_;refine tt (t_mmi (i:=1) J J J J a.h) (λh _=>?_);refine tt (Zw5 1 J J J J J J (by simp [mfi]) O3 underlying323 underlying150 J a.h aA) (λ_ _=>?_);refine tt (Xw [(0,_)] 2 (enc:=Ys) ([1]:List Int) J J K2 Oa ti3 J J J J J pZ.cells J J a.h) (λv _=>?_);refine tt (Zw5 1 J J J J J J (by simp [mfi]) O3 underlying323 underlying150 J a.h aA) (λ_ _=>?_);refine tt (Xw [(0,_),(1,_),(2,_),(3,_),(4,_)] 3 (enc:=Ys) ([0,0,10,-15,6]:List Int) J J K10 Oa ti3 J J J J J pZ.cells J J a.h) (λg _=>?_);refine tt (Zw5 1 J J J J J J (by simp [mfi]) O3 underlying323 underlying150 J a.h aA) λ_ _=>go 5 ?_;refine Xh (s_pubm 1 J J)<|Xh (Pd 2 J J pZ)<|Zmb (Mp 2 J Zh) (λe b=>?_);subst b;refine Xh (Pd 3 J J pZ)<|Zmb (Mp 3 J Zh) (λf c=>?_);subst c;exact Xg d (_,e,f) results215 J aA (Nz 1 (Nz 2 (Nz 3 Za)))
theorem Zhd(a b:Int)(c:List Int)(t:-4194304<=a/\a<=4194304)(u:-4194304<=b/\b<=4194304)(h:∀f∈c,-15<=f/\f<=15)(x:c.length<=5):Cal prog 216 #[.int .i64 a,.int .i64 b,v] [Ym 1 Ys v c] true (G:=SL) (λr=>True) (λr=>Lh r) (λr=>[Ym 1 Ys (Lh r) (Za1 a b c)]):=by
 refine Zd func216 ntmps216 λD z n j=>go 8 ?_;refine tt (Xw [(0,_)] 2 (enc:=Ys) ([a]:List Int) J J K2 Oa ti3 J J J J J pZ.cells J J n.h) λv _=>go 11 ?_;refine Zc J (λg=>?_) (λg=>?_)
 .refine go 8 ?_;refine lp (G:=Nat×Value) [0,1,15,16] [0,1] (λq=>[(17,.int .i64 (q.1:Int)),(7,q.2)]) (λq=>[(2,Nl 1 3 Ys q.2 (a::((c.take q.1).map λf=>f*(b-a))))]) (λq=>q.1<=c.length) (λq=>c.length-q.1) (0,_) O1 K2 K1 ?_;rintro⟨k,B⟩ o;dsimp only at o;dsimp only;refine go 6<|Zc J (λm=>?_) (λm=>?_)
  .refine go 6 ?_;refine dt (Yu 1 k J J J J Zh Oa zT3 J)<|go 4 ⟨O,?_⟩;have w:=h _ (Zo (zs:=c) (i:=k) (d:=0));have y:=Zy9 (a:=c.getD k 0) (b:=b-a) ⟨O,O⟩ ⟨O,O⟩;refine go 7 ⟨O,O,?_⟩;refine tt (Xw [(0,_)] 3 (enc:=Ys) ([c.getD k 0*(b-a)]:List Int) J J K2 Oa ti3 J J J J J pZ.cells J J n.h) (λp _=>?_);refine tt (Ha 2 3 8 J J J J J J O3 J (Xc pZ) Oa ti3 J pZ J J J O9 O3 J n.h) (λs _=>?_);refine go 8 ⟨O,?_⟩;exact Xe (k+1,_) O1 O1 K2 ⟨by rw [trm_s O];rfl,aA⟩
  .refine go 12<|Xh (Pd 2 J J pZ) ?_;refine Zmb (Mp 2 J Zh) (λl e=>?_);subst e;exact Xg j l results216 J aA (Nz 2 Za (aP (Ym 1 Ys (Lh l)) (trm_n g O).symm))
 .refine go 9<|Xh (Pd 2 J J pZ) ?_;refine Zmb (Mp 2 J Zh) (λl e=>?_);subst e;exact Xg j l results216 J aA (Nz 2 Za (aP (Ym 1 Ys (Lh l)) (trm_e c (a:=a) (b:=b) O).symm))
theorem gl_leg{b c d e f fr x:Int}(u:k=0\/k=1\/k=2)(l:-4194304<=b/\b<=4194304)(m:-4194304<=c/\c<=4194304)(n:-4194304<=d/\d<=4194304)(o:-4194304<=e/\e<=4194304)(g:-4194304<=by_/\by_<=4194304)(p:-4194304<=f/\f<=4194304):Cal prog 146 #[.agg #[.int .i64 b,.int .i64 c,.int .i64 d],.agg #[.int .i64 e,.int .i64 by_,.int .i64 f],.int .i64 fr,.int .i64 x,.int .i64 k] [] true (G:=SL×SL×SL) (λr=>True) (λr=> .agg #[.int .i64 fr,.int .i64 x,.int .i64 1,Lh r.1,Lh r.2.1,Lh r.2.2]) (λr=>[Ym 1 Ys (Lh r.1) (Za1 b e (rwK k)),Ym 1 Ys (Lh r.2.1) (Za1 c by_ (rwK k)),Ym 1 Ys (Lh r.2.2) (Za1 d f (rwK k))]):=by refine Zd func146 ntmps146 λD B z q=>go 2 ?_;refine Zw (Zu 1) λbq _=>Zw (Zu 2) λs _=>Zw (Zr 3) λt _=>go 4 ?_;refine cl 4 [] Yeh λrw _=>go 1 ?_;refine dt (d_mlr (i:=4) J J J J underlying323 underlying150 (mf_row u))<|go 4 ?_;refine Zg (s_row u 5 6 60 J J J J)<|Qg (λ_=>False) [(0,0),(1,0),(2,0),(3,0),(4,0),(5,0),(6,0),(8,0),(9,0),(10,0),(11,0),(12,0),(14,0),(15,0),(16,0),(17,0),(18,0),(7,1),(13,1),(19,1),(20,0),(21,3)]<|go 17<|Xs (Zm 7 [60] (Zhd b e (rwK k) l o Zr3 Zpy)) λy _=>Xs (Zm 8 [60] (Zhd c by_ (rwK k) m g Zr3 Zpy)) λh _=>Xs (Zm 9 [60] (Zhd d f (rwK k) n p Zr3 Zpy)) λj _=>?_;refine Pe J J (Pz (Xd [(0,_),(1,_),(2,_),(3,_),(4,_),(5,_)] J K12 (λa w hs=>Ze2 ((Zf J) a w hs) ((Zf J) a w hs) ((Zf J) a w hs) ((Qm 7 J Zh) a w hs) ((Qm 8 J Zh) a w hs) ((Qm 9 J Zh) a w hs))))<|go 4 ?_;exact Xg q (y,h,j) results146 J aA (Nz 7 (Nz 8 (Nz 9 Za)))
theorem Yaa{f g h j l fr m:Int}:Cal prog 145 #[.agg #[.int .i64 f,.int .i64 g,.int .i64 h],.agg #[.int .i64 j,.int .i64 by_,.int .i64 l],.int .i64 fr,.int .i64 m] [] true (G:=Unit) (λ_=>True) (λ_=> .bool (Zbn f g h j by_ l fr m)) (λ_=>[]):=by
 refine Zd func145 ntmps145 λp o n a=>go 2 ?_;refine Zw (Zu 1) λbq _=>Zw (Zu 2) λi _=>go 6 ?_;refine cl 2 [] Zem λ_ _=>go 1<|Gi 11 J (λe=>?_) (λe=>?_)
 .refine go 1 ?_;refine Fy 2 [] Zem λ_ _=>go 2<|Gi 15 J (λb=>?_) (λb=>?_)
  .refine go 4<|Yq 19 J (λc=>?_) (λc=>?_)
   .refine go 5<|Yq 24 J (λd=>?_) (λd=>?_)
    .refine go 7 ?_;exact Xg a () results145 (by first|exact vB (Zn9 ‹_›)|exact vB (Zn8 ‹_›)|exact vB (Zn6 O)|exact vB (Zn7 ‹_› ‹_› O O)) aA Za
    .refine go 7 ?_;exact Xg a () results145 (by first|exact vB (Zn9 ‹_›)|exact vB (Zn8 ‹_›)|exact vB (Zn6 O)|exact vB (Zn7 ‹_› ‹_› O O)) aA Za
   .refine go 12 ?_;exact Xg a () results145 (by first|exact vB (Zn9 ‹_›)|exact vB (Zn8 ‹_›)|exact vB (Zn6 O)|exact vB (Zn7 ‹_› ‹_› O O)) aA Za
  .refine go 16 ?_;exact Xg a () results145 (by first|exact vB (Zn9 ‹_›)|exact vB (Zn8 ‹_›)|exact vB (Zn6 O)|exact vB (Zn7 ‹_› ‹_› O O)) aA Za
 .refine go 20 ?_;exact Xg a () results145 (by first|exact vB (Zn9 ‹_›)|exact vB (Zn8 ‹_›)|exact vB (Zn6 O)|exact vB (Zn7 ‹_› ‹_› O O)) aA Za
theorem gl_fly{d e f g h fr i:Int}(B:k=0\/k=1\/k=2)(p:Zbn d e f g by_ h fr i=true):Cal prog 76 #[.agg #[.int .i64 d,.int .i64 e,.int .i64 f],.agg #[.int .i64 g,.int .i64 by_,.int .i64 h],.int .i64 fr,.int .i64 i,.int .i64 k] [] true (G:=Value×(SL×SL×SL)) (λr=>True) (λr=> .tuple #[r.1,.int .i64 0]) (λr=>[Nv 6 Ee qG r.1 [glG d e f g by_ h fr i k r.2]]):=by refine Zd func76 ntmps76 λH F D n=>?_;obtain⟨l,m,-,-,-⟩:=Yeg p;obtain⟨s,t,u⟩:=Zd4 l;obtain⟨w,x,y⟩:=Zd4 m;refine go 2<|Zw (Zu 1) λbq _=>Zw (Zu 2) λo _=>go 11 ?_;refine cl 2 [] Yaa λ_ _=>?_;refine dt (dF (Xn J J) (aP (λb=>Value.bool (!b)) p))<|go 12 ?_;refine cl 3 [] (gl_leg B ⟨O,O⟩ ⟨O,O⟩ ⟨O,O⟩ ⟨O,O⟩ ⟨O,O⟩ ⟨O,O⟩) λ⟨j,a,c⟩ _=>?_;refine tt (Xw [(0,_)] 6 (enc:=Ee) [glG d e f g by_ h fr i k (j,a,c)] J J K2 Zuw ti137 J J Yaq J J pG.cells J J D.h) λv _=>go 5 ?_;exact Xh (Pd 6 J J pG)<|Xh (Li qC 71)<|Xh (Pk (q:=qC) (z:=(glG d e f g by_ h fr i k (j,a,c)).2.1) 71 3 71 J J J J J)<|Xh (Pk (q:=qC) (z:=(glG d e f g by_ h fr i k (j,a,c)).2.2.1) 71 4 71 J J J J J)<|Xh (Pk (q:=qC) (z:=(glG d e f g by_ h fr i k (j,a,c)).2.2.2) 71 5 71 J J J J J)<|Xh (Li qG 73)<|Xh (Pk (q:=qG) (z:=(glG d e f g by_ h fr i k (j,a,c))) 73 71 73 J J J J J)<|Xh (Dk 6 73 72 J J J J)<|Na n (_,j,a,c) results76 J aA (Nz 72 Za)
theorem Zoa(a b c d by_ e fr g:Int)(i:Zbn a b c d by_ e fr g=true):Cal prog 17 #[.agg #[.int .i64 a,.int .i64 b,.int .i64 c],.agg #[.int .i64 d,.int .i64 by_,.int .i64 e],.int .i64 fr,.int .i64 g] [] true (G:=Value×(SL×SL×SL)) (λr=>True) (λr=> .tuple #[r.1,.int .i64 0]) (λr=>[Nv 6 Ee qG r.1 [glG a b c d by_ e fr g 2 r.2]]):=by refine Zd func17 ntmps17 λm l j f=>go 2 ?_;refine Zw (Zu 1) λbq _=>Zw (Zu 2) λh _=>go 10 ?_;refine cl 3 [] (gl_fly (.inr (.inr J)) i) λ⟨v,q⟩ _=>go 7 ?_;exact Na f (v,q) results17 J aA (Nz 3 Za)
theorem Yab(q m:Nat)(d:q*m<U*U)(e:m<9223372036854775808):Yx prog 132 #[.agg #[.int .u64 ((q/U:Nat):Int),.int .u64 ((q%U:Nat):Int)],.int .i64 (m:Int)] [] (.agg #[.int .u64 ((q*m/U:Nat):Int),.int .u64 ((q*m%U:Nat):Int)]):=by refine Zd func132 ntmps132 λh g f b=>go 2 ?_;refine Zw (Zu 1) λbq _=>Zw (Zr 2) λc _=>go 7 ?_;refine dt (Zhq J J uT3 De (by simp only [U];omega))<|cl 2 [] (Zo6 (q%U) m (bG _ Yp) (by simp only [U];omega)) λ_ _=>go 13 ?_;refine dt (Zhq J J uT3 De (by simp only [U];omega))<|dt (Gc J J J)<|dt (Gm J J J)<|go 1 ?_;refine dt (Xd [(0,_),(1,_)] J K4 (λa w hs=>Zup ((Zf J) a w hs) ((Zf J) a w hs)))<|go 4 ?_;exact Xg b () results132 (by rw [num_hi d,num_lo q m]) aA Za
theorem Zkz(q r:Nat):Yx prog 65 #[.agg #[.int .u64 ((q/U:Nat):Int),.int .u64 ((q%U:Nat):Int)],.agg #[.int .u64 ((r/U:Nat):Int),.int .u64 ((r%U:Nat):Int)]] [] (.bool (decide (r<q))):=by
 refine Zd func65 ntmps65 λg f e b=>go 2 ?_;refine Zw (Zu 1) λbq _=>Zw (Zu 2) λd _=>go 11<|Yq 10 J (λc=>?_) (λc=>?_)
 .refine go 17 ?_;exact Xg b () results65 (by first|exact vB (Zzf ‹_›)|exact vB (Zze ‹_›)|exact vB (Zzg ‹_› ‹_›)) aA Za
 .refine go 6<|Yq 16 J (λa=>?_) (λa=>?_)
  .refine go 11 ?_;exact Xg b () results65 (by first|exact vB (Zzf ‹_›)|exact vB (Zze ‹_›)|exact vB (Zzg ‹_› ‹_›)) aA Za
  .refine go 11 ?_;exact Xg b () results65 (by first|exact vB (Zzf ‹_›)|exact vB (Zze ‹_›)|exact vB (Zzg ‹_› ‹_›)) aA Za
theorem Cx(zs:List Int)(xs:List Nat)(j:zs=xs.map λn:Nat=>(n:Int))(f:∀k,Bj (xs.take k)<U*U)(h:∀n∈xs,n<9223372036854775808):Yx prog 63 #[v] [Ym 1 Ys v zs] (.agg #[.int .u64 ((Bj xs/U:Nat):Int),.int .u64 ((Bj xs%U:Nat):Int)]):=by
 refine Zd func63 ntmps63 λp o m e=>?_;subst j;refine Oo (It (i:=1) J Zh) (λd=>?_);rw [bX]at d;have g:(xs.map λn:Nat=>(n:Int)).length=xs.length:=bX ..;refine go 2<|Zw (Zr 2) λbq _=>go 4 ?_;refine dt (Xd [(0,_),(1,_)] J K4 (λa w hs=>Zup ((Zf J) a w hs) ((Zf J) a w hs)))<|Zw (Zr 3) λb _=>go 12 ?_;refine lp (G:=Nat) [2,3,7,8] [0,1,2] (λk=>[(9,.int .i64 (k:Int))]) (λk=>[(3,box b 127 #[.int .u64 ((Bj (xs.take k)/U:Nat):Int),.int .u64 ((Bj (xs.take k)%U:Nat):Int)])]) (λk=>k<=xs.length) (λk=>xs.length-k) 0 O1 K1 ⟨by rw [show Bj (xs.take 0)=1 from rfl,show 1/U=0 from rfl,show 1%U=1 from rfl];rfl,aA⟩ ?_;rintro k l;refine go 6<|Zc J (λc=>?_) (λc=>?_)
 .refine go 6 ?_;refine dt (Yu 1 k J J J J Zh Oa zT3 J)<|dt (Of ( .int .i64 ((xs.getD k 0:Nat):Int)) (Mh 1 0 J J J Zh pZ) (aP (Value.int .i64) (Ydy xs k)))<|go 6 ?_;refine cl 3 [] (Yab (Bj (xs.take k)) (xs.getD k 0) (by rw [<-prN_s O];exact f _) (h _ Zo)) λ_ _=>?_;refine go 8 ⟨O,?_⟩;exact Xe (k+1) O1 O1 K1 ⟨by rw [prN_s O];rfl,aA⟩
 .refine go 12 ?_;obtain rfl:k=xs.length:=O;exact Xg e () results63 (by rw [bN]) aA Za
theorem Zhe(b f s a t:Nat)(g h i:Nat)(hs:1<=s/\s<=10000)(m:1<=a/\a<=10000)(o:t<=3600000):Yx prog 64 #[.int .i64 (t:Int),.pointer (some ⟨g,0,none⟩),.pointer (some ⟨h,0,none⟩),.pointer (some ⟨i,0,none⟩)] [Ka g 127 #[.int .u64 ((b/U:Nat):Int),.int .u64 ((b%U:Nat):Int)],Ka h 25 #[.int .i64 (s:Int),.int .i64 (a:Int)],Ka i 127 #[.int .u64 ((f/U:Nat):Int),.int .u64 ((f%U:Nat):Int)]] (.bool (kpQ b s t && kqQ f a t)):=by
 refine Zd func64 ntmps64 λq p e d=>go 6 ?_;cases h9:kpQ b s t
 .refine Qg (λ_=>False) [(0,0),(1,0),(2,0),(3,0),(4,0),(5,0),(6,0),(7,1),(8,1),(9,1),(10,0),(11,0),(12,2),(13,2),(14,2),(15,2),(16,2),(17,2),(18,2),(19,2),(20,2),(21,2),(22,2),(23,2),(24,2),(25,0),(26,3)]<|go 7 ?_;refine Ec J (Xw [(0,_),(1,_),(2,_),(3,_),(4,_)] 4 (enc:=Ys) ([64,(s:Int),(s:Int),(t:Int),(t:Int)]:List Int) J J K10 Oa ti3 J J J J J pZ.cells J J e.h) λv _=>Xs (Zm 4 [4] (Cx [64,(s:Int),(s:Int),(t:Int),(t:Int)] [64,s,s,t,t] J (Zgm [64,10000,10000,3600000,3600000] (show leL _ _ from⟨O,O,O,O,O,aA⟩) O5 O5) (by intro n c;simp at c;omega))) λ_ _=>Xs (Zm 4 [] (Zkz b (Bj [64,s,s,t,t]))) λ_ _=>?_;refine Pe J J (Pz (dF (Xn J J) (vB h9)))<|go 19 ?_;exact Xg d () results64 J aA Za
 .refine Qg (λ_=>False) [(0,0),(1,0),(2,0),(3,0),(4,0),(5,0),(6,0),(7,1),(8,1),(9,1),(10,0),(11,0),(12,0),(13,0),(14,0),(15,0),(16,0),(17,0),(18,0),(19,0),(20,0),(21,1),(22,1),(23,1),(24,0),(25,0),(26,3)]<|go 7 ?_;refine Ec J (Xw [(0,_),(1,_),(2,_),(3,_),(4,_)] 5 (enc:=Ys) ([64,(s:Int),(s:Int),(t:Int),(t:Int)]:List Int) J J K10 Oa ti3 J J J J J pZ.cells J J e.h) λj _=>Xs (Zm 5 [5] (Cx [64,(s:Int),(s:Int),(t:Int),(t:Int)] [64,s,s,t,t] J (Zgm [64,10000,10000,3600000,3600000] (show leL _ _ from⟨O,O,O,O,O,aA⟩) O5 O5) (by intro n c;simp at c;omega))) λ_ _=>Xs (Zm 5 [] (Zkz b (Bj [64,s,s,t,t]))) λ_ _=>?_;refine Pe J J (Pz (dT (Xn J J) (vB h9)))<|go 10 ?_;refine Zm9 J J J J J (Xw [(0,_),(1,_),(2,_),(3,_),(4,_),(5,_),(6,_)] 6 (enc:=Ys) ([3,(a:Int),(a:Int),(t:Int),(t:Int),(t:Int),(t:Int)]:List Int) J J K14 Oa ti3 J J J J J pZ.cells J J e.h) (λl _=>?_);refine Zm9 J J J J J (Lg 6 (Cx [3,(a:Int),(a:Int),(t:Int),(t:Int),(t:Int),(t:Int)] [3,a,a,t,t,t,t] J (Zgm [3,10000,10000,3600000,3600000,3600000,3600000] (show leL _ _ from⟨O,O,O,O,O,O,O,aA⟩) O5 O5) (by intro n c;simp at c;omega)) J J J K1 call63 (Znb 6 J J pZ Yb) J e.h) (λ_ _=>?_);refine Zm9 J J J J J (Lg 6 (Zkz f (Bj [3,a,a,t,t,t,t])) J J J K2 call65 Yb J e.h) λ_ _=>go 6 ?_;exact Xg d () results64 (by show Value.bool (!decide (Bj [3,a,a,t,t,t,t]<f))=_;exact vB decide_not.symm) aA Za
theorem Yad(c d s a:Nat){f g h:Nat}(hs:1<=s/\s<=10000)(t:1<=a/\a<=10000)(u:(kpQ c s 3600000 && kqQ d a 3600000)=true):Cal prog 66 #[.int .i64 1,.int .i64 3600000,.func (.func 64) #[] #[.pointer (some ⟨f,0,none⟩),.pointer (some ⟨g,0,none⟩),.pointer (some ⟨h,0,none⟩)]] [Ka f 127 #[.int .u64 ((c/U:Nat):Int),.int .u64 ((c%U:Nat):Int)],Ka g 25 #[.int .i64 (s:Int),.int .i64 (a:Int)],Ka h 127 #[.int .u64 ((d/U:Nat):Int),.int .u64 ((d%U:Nat):Int)]] false (G:=Nat) (λr=>(kpQ c s r && kqQ d a r)=true/\(1<=r/\r<=3600000)/\(r=1\/(kpQ c s (r-1) && kqQ d a (r-1))=false)) (λr=> .int .i64 (r:Int)) (λr=>[]):=by
 refine Zd func66 ntmps66 λz y x p=>go 7 ?_;refine lp (G:=Nat×Nat) [2] [0,1,2,3] (λq=>[(0,.int .i64 (q.1:Int)),(1,.int .i64 (q.2:Int))]) (λq=>[]) (λq=>(1<=q.1/\q.1<=q.2/\q.2<=3600000)/\((kpQ c s q.2 && kqQ d a q.2)=true)/\(q.1=1\/(kpQ c s (q.1-1) && kqQ d a (q.1-1))=false)) (λq=>q.2-q.1) (1,3600000) ⟨⟨O3,O3,O3⟩,u,.inl J⟩ K2 aA ?_;rintro⟨i,j⟩ ⟨o,l,m⟩;dsimp only at o l m;dsimp only;refine go 8<|Zc J (λe=>?_) (λe=>?_)
 .have w:i<j:=O;refine go 9 ⟨O,?_⟩;refine dt (Zdf J J J)<|dt (Of ( .int .i64 (((i+(j-i)/2):Nat):Int)) (Zt2 J J J) (by congr 1;omega))<|go 7 ?_;refine tt (Ch 3 [] [_] [_,_,_] (Zhe c d s a (i+(j-i)/2) f g h hs t O) J J J J K1 call64 (Zn 1 J J J (Zn 2 J J J (Zn 3 J J J Yb))) J x.h) λ_ _=>go 2 ?_;refine Ow J (λb=>?_) (λb=>?_)
  .have n:=b;refine go 5 ?_;exact Xe (i,(i+(j-i)/2)) ⟨⟨O8,O8,O8⟩,n,m⟩ O8 K2 aA
  .have n:=b;refine go 6 ⟨O,?_⟩;exact Xe ((i+(j-i)/2)+1,j) ⟨⟨O8,O8,O8⟩,l,.inr n⟩ O8 K2 aA
 .obtain rfl:i=j:=O;refine go 12 ?_;exact Xg p i results66 J ⟨l,⟨O,O⟩,m⟩ Za
theorem Zob{h i j n o sp ac:Int}(p:tmB h i j n by_ o sp ac=false):Yx prog 15 #[.agg #[.int .i64 h,.int .i64 i,.int .i64 j],.agg #[.int .i64 n,.int .i64 by_,.int .i64 o],.agg #[.int .i64 sp,.int .i64 ac]] [] (.tuple #[.int .i64 0,.int .i64 2]):=by
 refine Zd func15 ntmps15 λt s q a=>go 2 ?_;refine Zw (Zu 1) λbq _=>Zw (Zu 2) λl _=>Zw (Zu 3) λm _=>go 8 ?_;refine cl 3 [] Zem λ_ _=>go 2<|Gi 16 J (λg=>?_) (λg=>?_)
 .refine go 35 ?_;exact Na a () results15 J aA Za
 .refine go 1 ?_;refine Fy 3 [] Zem λ_ _=>go 3<|Gi 21 J (λb=>?_) (λb=>?_)
  .refine go 30 ?_;exact Na a () results15 J aA Za
  .refine go 5<|Yq 26 J (λc=>?_) (λc=>?_)
   .refine go 25 ?_;exact Na a () results15 J aA Za
   .refine go 5<|Yq 31 J (λd=>?_) (λd=>?_)
    .refine go 20 ?_;exact Na a () results15 J aA Za
    .refine go 5<|Yq 36 J (λe=>?_) (λe=>?_)
     .refine go 15 ?_;exact Na a () results15 J aA Za
     .refine go 6<|Zc J (λf=>?_) (λf=>?_)
      .refine go 8 ?_;exact Na a () results15 J aA Za
      .exfalso;simp_all [tmB]<;>omega
theorem Zh9(e f g h by_ i:Int)(D s a:Nat)(c:ptB e f g=true)(d:ptB h by_ i=true)(j:d2V e f g h by_ i=(D:Int))(M:D<=13194139533312)(hs:1<=s/\s<=10000)(w:1<=a/\a<=10000)(H:Ft D s a 3600000=false):Yx prog 15 #[.agg #[.int .i64 e,.int .i64 f,.int .i64 g],.agg #[.int .i64 h,.int .i64 by_,.int .i64 i],.agg #[.int .i64 (s:Int),.int .i64 (a:Int)]] [] (.tuple #[.int .i64 0,.int .i64 3]):=by refine Zd func15 ntmps15 λP N o m=>?_;obtain⟨x,y,z⟩:=Zd4 c;obtain⟨B,F,G⟩:=Zd4 d;refine go 2<|Zw (Zu 1) λbq _=>Zw (Zu 2) λp _=>Zw (Zu 3) λq _=>go 8 ?_;refine cl 3 [] Zem λ_ _=>?_;refine dt (dF (Xn J J) (aP (λb=>Value.bool (!b)) c))<|go 2 ?_;refine Fy 3 [] Zem λ_ _=>?_;refine Et (dF (Xn J J) (aP (λb=>Value.bool (!b)) d)) J J<|go 4 ?_;refine kfg (aM O)<|go 4<|kfg (aM O)<|go 4<|kfg (aM O)<|go 4<|kfg (aM O)<|go 10 ?_;refine cl 3 [] (ve_d2 (Zrh c) (Zrh d)) λ_ _=>go 1 ?_;refine dt (Of ( .int .i64 (D:Int)) (Zlk J J J) (by rw [j];rfl))<|go 8 ?_;refine tt (Xw [(0,_),(1,_),(2,_)] 4 (enc:=Ys) ([225,(D:Int),1000000]:List Int) J J K6 Oa ti3 J J J J J pZ.cells J J o.h) λv _=>cl 4 [4] (Cx [225,(D:Int),1000000] [225,D,1000000] J (Zgm [225,13194139533312,1000000] (show leL _ _ from⟨O,O,O,aA⟩) O5 O5) (by intro n l;simp at l;omega)) λ_ _=>go 1 ?_;refine tt (Xw [(0,_),(1,_),(2,_),(3,_)] 5 (enc:=Ys) ([100,(D:Int),1000000,1000000]:List Int) J J K8 Oa ti3 J J J J J pZ.cells J J o.h) λI _=>cl 5 [5] (Cx [100,(D:Int),1000000,1000000] [100,D,1000000,1000000] J (Zgm [100,13194139533312,1000000,1000000] (show leL _ _ from⟨O,O,O,O,aA⟩) O5 O5) (by intro n l;simp at l;omega)) λ_ _=>Zw (Zr 6) λt _=>Zw (Zr 7) λu _=>go 6 ?_;refine dt (Ztx [] [_,_,_] J aA K3)<|go 7 ?_;refine tt (Ch 7 [] [_] [_,_,_] (Zhe (Bj [225,D,1000000]) (Bj [100,D,1000000,1000000]) s a 3600000 _ _ _ hs w (aH _)) J J J J K1 call64 (Kc 6 J J (Kc 3 J J (Kc 7 J J Yb))) J o.h) (λ_ _=>?_);refine dt (dT (Xn J J) (aP (λb=>Value.bool (!b)) H))<|go 11 ?_;exact Na m () results15 J aA Za
theorem Yej(e f g h by_ i:Int)(D s a:Nat)(c:ptB e f g=true)(d:ptB h by_ i=true)(j:d2V e f g h by_ i=(D:Int))(Q:D<=13194139533312)(hs:1<=s/\s<=10000)(x:1<=a/\a<=10000)(y:Ft D s a 3600000=true):Cal prog 15 #[.agg #[.int .i64 e,.int .i64 f,.int .i64 g],.agg #[.int .i64 h,.int .i64 by_,.int .i64 i],.agg #[.int .i64 (s:Int),.int .i64 (a:Int)]] [] false (G:=Nat) (λr=>Ft D s a r=true/\(1<=r/\r<=3600000)/\(r=1\/Ft D s a (r-1)=false)) (λr=> .tuple #[.int .i64 (r:Int),.int .i64 0]) (λr=>[]):=by refine Zd func15 ntmps15 λS R p o=>?_;obtain⟨z,B,F⟩:=Zd4 c;obtain⟨H,I,M⟩:=Zd4 d;refine go 2<|Zw (Zu 1) λbq _=>Zw (Zu 2) λq _=>Zw (Zu 3) λt _=>go 8 ?_;refine cl 3 [] Zem λ_ _=>?_;refine dt (dF (Xn J J) (aP (λb=>Value.bool (!b)) c))<|go 2 ?_;refine Fy 3 [] Zem λ_ _=>?_;refine Et (dF (Xn J J) (aP (λb=>Value.bool (!b)) d)) J J<|go 4 ?_;refine kfg (aM O)<|go 4<|kfg (aM O)<|go 4<|kfg (aM O)<|go 4<|kfg (aM O)<|go 10 ?_;refine cl 3 [] (ve_d2 (Zrh c) (Zrh d)) λ_ _=>go 1 ?_;refine dt (Of ( .int .i64 (D:Int)) (Zlk J J J) (by rw [j];rfl))<|go 8 ?_;refine tt (Xw [(0,_),(1,_),(2,_)] 4 (enc:=Ys) ([225,(D:Int),1000000]:List Int) J J K6 Oa ti3 J J J J J pZ.cells J J p.h) λv _=>cl 4 [4] (Cx [225,(D:Int),1000000] [225,D,1000000] J (Zgm [225,13194139533312,1000000] (show leL _ _ from⟨O,O,O,aA⟩) O5 O5) (by intro n l;simp at l;omega)) λ_ _=>go 1 ?_;refine tt (Xw [(0,_),(1,_),(2,_),(3,_)] 5 (enc:=Ys) ([100,(D:Int),1000000,1000000]:List Int) J J K8 Oa ti3 J J J J J pZ.cells J J p.h) λP _=>cl 5 [5] (Cx [100,(D:Int),1000000,1000000] [100,D,1000000,1000000] J (Zgm [100,13194139533312,1000000,1000000] (show leL _ _ from⟨O,O,O,O,aA⟩) O5 O5) (by intro n l;simp at l;omega)) λ_ _=>Zw (Zr 6) λu _=>Zw (Zr 7) λw _=>go 6 ?_;refine dt (Ztx [] [_,_,_] J aA K3)<|go 7 ?_;refine tt (Ch 7 [] [_] [_,_,_] (Zhe (Bj [225,D,1000000]) (Bj [100,D,1000000,1000000]) s a 3600000 _ _ _ hs x (aH _)) J J J J K1 call64 (Kc 6 J J (Kc 3 J J (Kc 7 J J Yb))) J p.h) (λ_ _=>?_);refine dt (dF (Xn J J) (aP (λb=>Value.bool (!b)) y))<|go 8 ?_;refine cl 7 [6,3,7] (Yad (Bj [225,D,1000000]) (Bj [100,D,1000000,1000000]) s a hs x y) λN m=>go 5 ?_;exact Na o N results15 J m Za
def Zqj (T:Int){a b c e d f:Int}(r:SL×SL×SL):GlS (glG a b c e d f 0 T 2 r) T a b c e d f:=⟨rfl,rfl,rfl,rfl,rfl,rfl⟩
theorem Yaf{a b:Int}(e:-1048576<=a/\a<=1048576)(g:-1048576<=b/\b<=1048576)(k:Int):∀x∈Za1 a b (rwK k),Qf x:=by
 intro x c;unfold Za1 at c;rcases bO.1 c with rfl|c
 .exact⟨O,O⟩
 .split at c
  .cases c
  .obtain⟨f,d,rfl⟩:=jX.1 c;have:=Zr3 f d;have:=Zy9 (a:=f) (b:=b-a) ⟨O,O⟩ ⟨O,O⟩;exact⟨O,O⟩
theorem Yae{b c d f e g fr a:Int}(l:ptB b c d=true)(m:ptB f e g=true)(q:0<=fr)(s:fr<a)(t:a<=3600000)(r:SL×SL×SL):Gin (glG b c d f e g fr a k r):=by obtain⟨h,i,j⟩:=Zd4 l;obtain⟨n,o,p⟩:=Zd4 m;exact⟨show Qf fr from⟨O,O⟩,show Qf a from⟨O,O⟩,show Qf (1:Int)from⟨O3,O3⟩,Yaf h n k,Yaf i o k,Yaf j p k⟩
theorem Ztb{b c d f e h fr a:Int}(m:ptB b c d=true)(n:ptB f e h=true)(i:0<=fr)(j:fr<a)(l:a<=3600000):∀g∈[glG b c d f e h fr a k r],Gin g:=λg o=>by rw [aK.1 o];exact Yae m n i j l r
section
variable {ax ay az bx b2 bz:Int} {D s a T:Nat} (ha:ptB ax ay az=true) (hb:ptB bx b2 bz=true) (hT:1<=T/\T<=3600000)
include ha hb hT
theorem gl_pt(r:SL×SL×SL):Ok [glG ax ay az bx b2 bz 0 (T:Int) 2 r]=true:=Yei (Zqj _ r) O ha hb
theorem gl_in(hs:1<=s/\s<=10000)(d:1<=a/\a<=10000)(c:d2V ax ay az bx b2 bz=(D:Int))(r:SL×SL×SL):(!(fiB [glG ax ay az bx b2 bz 0 (T:Int) 2 r] (s:Int) (a:Int)).isSome)=Ft D s a T:=by
 have b:=gl_fi (Zqj (T:Int) r) O ha hb (Yae ha hb O O O r) (sp:=(s:Int)) (ac:=(a:Int)) O O O O;rw [c,<-kp_iff]at b;cases hf:fiB [glG ax ay az bx b2 bz 0 (T:Int) 2 r] (s:Int) (a:Int)with
 | none=>rw [b.1 hf];rfl
 | some x=>
  cases hk:Ft D s a T with
  | true=>rw [b.2 hk]at hf;cases hf
  | false=>rfl
end
end Go.Sky
namespace Go.Sky
open Go.Proofs.Tryz
open Go.Proofs
set_option synthInstance.maxHeartbeats 0
set_option synthInstance.maxSize 100000
set_option maxRecDepth 20000
set_option linter.unusedSimpArgs false
def Zzy(v:Value)(ps:List Zl)(o:Nat)(u t m:Int)(q:o=1\/o=2)(s:∀g∈ps,SgG g)(l:0<=m)(n:m<=10000):Yx prog 142 #[.agg #[v,.int .i64 (o:Int),.int .i64 u,.int .i64 t],.int .i64 m] [Nv 6 Ee qG v ps] (.bool (Zc6 o ps m)):=by
 refine Zd func142 ntmps142 λz y x e=>?_;refine Oo (It (i:=1) J Yz) λp=>go 2 ?_;refine Zw (Zu 2) λw _=>go 13 ?_;refine lp (G:=Nat) [1,2,8,9] [0,1,2] (λi=>[(10,.int .i64 (i:Int))]) (λi=>[]) (λi=>(i<=ps.length)/\(∀k,k<i->Gx (Ip o m (ps.getD k G0))=false)) (λi=>ps.length-i) 0 ⟨O1,λk f=>absurd f (dC k)⟩ K1 aA ?_;rintro i ⟨hi,f⟩;refine go 6<|Zc J (λa=>?_) (λa=>?_)
 .refine go 5 ?_;have c:=s _ (Zo (d:=G0) (show i<ps.length by omega));refine Zg (Qu (ps.getD i G0) ((ps.getD i G0).2.1) 1 51 J J Zo O7)<|Zg (Qu (ps.getD i G0) ((ps.getD i G0).2.2.1) 1 52 J J Zo O7)<|Zg (Qu (ps.getD i G0) ((ps.getD i G0).2.2.2) 1 53 J J Zo O7)<|go 2 ⟨O2,?_⟩;refine dt (Mh 1 G0 J J J Yz pG O2)<|Zw (Zr 3) λj _=>go 9 ?_;refine cl 4 [51,52,53] (Zaq o q c l n) λv _=>cl 4 [4] (Zg3 (Fu c l n q).2.2) λ_ _=>go 2<|Ow J (λb=>?_) (λb=>?_)
  .refine go 11 ?_;exact Xg e () results142 (by rw [Yea (i:=i) O (by simp_all)]) aA Za
  .refine go 7 ⟨O,?_⟩;exact Xe (i+1) ⟨O1,λk r=>by rcases cK.1 r with h|h;exact f k h;subst h;simp_all⟩ O1 K1 aA
 .obtain rfl:i=ps.length:=O;refine go 11 ?_;exact Xg e () results142 (by rw [Yd9 f]) aA Za
def Zeq(v:Value)(ps:List Zl)(o:Nat)(m l:Int)(r:o=1\/o=2)(p:∀g∈ps,SgG g):Yx prog 141 #[.int .i64 10001,.func (.func 142) #[.agg #[v,.int .i64 (o:Int),.int .i64 m,.int .i64 l]] #[]] [Nv 6 Ee qG v ps] (.int .i64 (Zcb o ps:Int)):=by
 refine Zd func141 ntmps141 λw u t h=>go 14 ?_;refine lp (G:=Nat×Nat×Nat) [1] [0,1] (λq=>[(5,.int .i64 (q.1:Int)),(6,.int .i64 (q.2.1:Int))]) (λq=>[]) (λq=>(q.1<=q.2.1/\q.2.1<=10001)/\(q.2.1-q.1<2^q.2.2)/\(Zdv (λn=>Zc6 o ps (n:Int)) q.2.2 q.1 q.2.1=Zcb o ps)) (λq=>q.2.1-q.1) (0,10001,14) ⟨⟨O3,O3⟩,O3,rfl⟩ K2 aA ?_;rintro⟨i,j,f⟩ ⟨e,k,hs⟩;dsimp only at e k hs;dsimp only;refine go 8<|Zc J (λb=>?_) (λb=>?_)
 .have a:i<j:=O;obtain⟨f9,rfl,s⟩:=sr_pos a k;refine go 7 ?_;refine dt (Of ( .int .i64 ((i+j:Nat):Int)) (Zt2 J J J) (by rw [iQ]))<|dt (Zhq J J uT3 Zwy (by simp only [U];omega))<|dt (Ks 2 (n:=1) J J J J J)<|dt (Bb J J Zwy uT3 ⟨O,O⟩)<|go 7 ?_;refine tt (Ch 1 [_] [_] [] (Zzy v ps o m l (((i+j)/2):Nat) r p O O) J J J J K1 call142 (Zn 1 J J J Yb) J t.h) λ_ _=>go 3 ?_;refine Ow J (λc=>?_) (λc=>?_)
  .refine go 6 ⟨O,?_⟩;exact Xe (((i+j)/2)+1,j,f9) ⟨⟨O8,O8⟩,O8,by dsimp only;rw [<-hs];exact(srch_f a (by simp_all)).symm⟩ O8 K2 aA
  .refine go 5 ?_;exact Xe (i,(i+j)/2,f9) ⟨⟨O8,O8⟩,O8,by dsimp only;rw [<-hs];exact(srch_t a (by simp_all)).symm⟩ O8 K2 aA
 .have d:¬i<j:=O;refine go 12 ?_;exact Xg h () results141 (by rw [<-hs,Zu1 d]) aA Za
def Zzz{v:Value}{ps:List Zl}(r:∀g∈ps,Gin g)(o:Ok ps=true):Yx prog 73 #[v] [Nv 6 Ee qG v ps] (.tuple #[.agg #[.int .i64 (Zca ps).1,.int .i64 (Zca ps).2.1],.int .i64 (Zca ps).2.2]):=by
 refine Zd func73 ntmps73 λy x u b=>?_;refine Oo (It (i:=1) J Yz) (λq=>?_);have j:=Zsl r o;refine go 2<|Zw (Zr 2) λt _=>go 7 ?_;refine cl 2 [1] (Zcf r) λ_ _=>?_;refine dt (dF (Xn J J) (vB (by rw [o];rfl)))<|go 8 ?_;refine cl 2 [] Zc2 λ_ _=>?_;refine dt (Xd [(0,_),(1,_)] J K4 (λa w hs=>Zuo ((Qm 1 J Yz) a w hs)))<|dt (Ztw [_] J K1)<|cl 2 [1] (Zeq v ps 1 10000 2 (.inl J) j) λ_ _=>go 6 ?_;refine cl 2 [] Ko λ_ _=>?_;refine dt (Xd [(0,_),(1,_)] J K4 (λa w hs=>Zuo ((Qm 1 J Yz) a w hs)))<|dt (Ztw [_] J K1)<|cl 2 [1] (Zeq v ps 2 10000 3 (.inr J) j) λ_ _=>go 9 ?_;refine Yq 23 J (λf=>?_) (λf=>?_)
 .refine go 8 ?_;refine dt (Xd [] J aA (λa w hs=>b25_))<|go 6 ?_;exact Na b () results73 (by rw [Zwz (by first|(left;omega)|(right;omega))]) aA Za
 .refine go 5<|Zc J (λc=>?_) (λc=>?_)
  .refine go 2 ?_;refine dt (Xd [] J aA (λa w hs=>b25_))<|go 6 ?_;exact Na b () results73 (by rw [Zwz (by first|(left;omega)|(right;omega))]) aA Za
  .refine go 9 ?_;refine lp (G:=Nat) [0,2,4,5] [0,1,2] (λi=>[(6,.int .i64 (i:Int))]) (λi=>[]) (λi=>(1<=i)/\(∀k,1<=k->k<i->joG (ps.getD (k-1) G0) (ps.getD k G0)=true)) (λi=>ps.length-i) 1 ⟨O1,λk h n=>absurd n O⟩ K1 aA ?_;rintro i ⟨m,p⟩;refine go 9<|Zc J (λd=>?_) (λd=>?_)
   .refine go 5<|Zg (Qu (ps.getD (i-1) G0) ((ps.getD (i-1) G0).2.1) 1 54 J J Zo O7)<|Zg (Qu (ps.getD (i-1) G0) ((ps.getD (i-1) G0).2.2.1) 1 55 J J Zo O7)<|Zg (Qu (ps.getD (i-1) G0) ((ps.getD (i-1) G0).2.2.2) 1 56 J J Zo O7)<|Zg (Qu (ps.getD i G0) ((ps.getD i G0).2.1) 1 51 J J Zo O7)<|Zg (Qu (ps.getD i G0) ((ps.getD i G0).2.2.1) 1 52 J J Zo O7)<|Zg (Qu (ps.getD i G0) ((ps.getD i G0).2.2.2) 1 53 J J Zo O7)<|Qg (λ_=>False) [(0,0),(1,0),(2,0),(3,0),(4,0),(5,0),(6,0),(7,0),(8,0),(9,1),(10,0)]<|go 3 ⟨O,?_⟩;refine Pe J J (Pz (Yu 1 (i-1) J J J J Yz Zuw Zrf))<|Pe J J (Pz (Mh 1 G0 J J J Yz pG O2))<|go 3 ⟨O2,?_⟩;refine Pe J J (Pz (Mh 1 G0 J J J Yz pG O2))<|Xs (Zm 2 [54,55,56,51,52,53] (Zc3 (j _ Zo) (j _ Zo))) λ_ _=>go 3 ?_;refine Ow J (λe=>?_) (λe=>?_)
    .refine go 2 ?_;refine dt (Xd [] J aA (λa w hs=>b25_))<|go 10 ?_;exact Na b () results73 (by rw [Ycs O O (Yec m O (Ybq ‹_›))]) aA Za
    .refine go 8 ⟨O,?_⟩;exact Xe (i+1) ⟨O1,λk h s=>by rcases cK.1 s with l|l;exact p k h l;subst l;exact Ybr ‹_›⟩ O1 K1 aA
   .refine go 9 ?_;refine dt (Xd [(0,_),(1,_)] J K4 (λa w hs=>Zl3 ((Zf J) a w hs) ((Zf J) a w hs)))<|go 5 ?_;exact Na b () results73 (by rw [topV_0 O O (Yeb λk h n=>p k h O)]) aA Za
abbrev C0:SL×List Int:=((none,0,0),[])
end Go.Sky

