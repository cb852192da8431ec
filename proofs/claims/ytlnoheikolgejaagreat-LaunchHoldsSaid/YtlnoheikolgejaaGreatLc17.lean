/- Rules, arithmetic and contracts: part 18. No conditions but those that each theorem names. -/
import Derived.Deep.LoopGhost
import Derived.Sort.LoopGhostIn
import Derived.Test.YtlnoheikolgejaaGreatLc16
set_option linter.all false
set_option maxHeartbeats 4000000
namespace Go.Sky
open Go.RowKit Below
variable {P:Program} {N:Nat} {sc:Nat->Prop} {env env':Px} {H H':Hp} {Q Q':Exit->Act->World->Prop} {ds:List Nat}
abbrev mrk (D:Nat):Deferred:={ target:= .collected D,args:=#[] }
def ap(ds:List Nat)(a:Act):Act:={ a with defers:=a.defers ++ ds.map mrk }
end Go.Sky
namespace Go.Sky
variable{ls:List PT}
abbrev Dh:=Int×Int×Int
abbrev Zbm (p:Dh):Value:= .agg #[.int .i64 p.1,.int .i64 p.2.1,.int .i64 p.2.2]
abbrev Pt0:Dh:=(0,0,0)
abbrev ptT (p:Dh):Bool:=ptB p.1 p.2.1 p.2.2
def flt(p:Dh):Dh:=(p.1,p.2.1,0)
def edg(l:List Dh)(i:Nat):Dh×Dh:=(flt (l.getD i Pt0),flt (l.getD ((i+1)%l.length) Pt0))
def edges(l:List Dh):List (Dh×Dh):=(List.range l.length).map (edg l)
def pt_at{l:List Dh}(h:l.all ptT=true){i:Nat}(hi:i<l.length):ptT (l.getD i Pt0)=true:=bK.1 h _ (Zd hi)
theorem al_f{l:List Dh}{i:Nat}(hi:i<l.length)(h:ptT (l.getD i Pt0)=false):l.all ptT=false:=List.all_eq_false.2 ⟨_,Zd hi,by rw [h];exact dU⟩
theorem al_t{l:List Dh}(h:∀j,j<l.length->ptT (l.getD j Pt0)=true):l.all ptT=true:=bK.2 λx b=>by obtain⟨j,a,rfl⟩:=cN.1 b;have:=h j a;rwa [aK,aL a]at this
@[reducible,instance] def clIF {f:Fn} {a b:Array Value} : ClI (.func f a b) [.func f a b]:=⟨rfl⟩
abbrev WvT:=Int×Int×Int
def wvB(w:WvT):Bool:=decide (0<=w.1/\w.1<=3600000/\1<=w.2.1/\w.2.1<=3600000/\1<=w.2.2/\w.2.2<=64)
def lnd(w:WvT)(t:Int):Int:=t+(w.2.2-1)*w.1+w.2.1
def lkB(a b:List Dh)(w:WvT)(t:Int)(c:Bool):Bool:=!c && (wvB w && (decide (0<a.length) && (decide (a.length=b.length) && (decide (0<=t/\t<=3600000) && (a.all ptT && b.all ptT)))))
def lkE(a b:List Dh)(w:WvT)(t:Int)(c:Bool):Int:=if lkB a b w t c=true then(if 64<a.length then 7 else if 3600000<lnd w t then 3 else 0)else 2
def wv_t{w:WvT}(h:wvB w=true):0<=w.1/\w.1<=3600000/\1<=w.2.1/\w.2.1<=3600000/\1<=w.2.2/\w.2.2<=64:=bW h
section
variable {a b:List Dh} {w:WvT} {t:Int} {bad:Bool}
theorem lkB_t(h:lkB a b w t bad=true):bad=false/\wvB w=true/\0<a.length/\a.length=b.length/\(0<=t/\t<=3600000)/\a.all ptT=true/\b.all ptT=true:=by unfold lkB at h;grind
theorem Ze8(h:lkB a b w t bad=false):lkE a b w t bad=2:=by unfold lkE;grind
theorem lkE_0(h:lkE a b w t bad=0):lkB a b w t bad=true/\a.length<=64/\lnd w t<=3600000:=by unfold lkE at h;grind
theorem lkE_7(h:lkB a b w t bad=true)(c:64<a.length):lkE a b w t bad=7:=by unfold lkE;grind
theorem lkE_3(h:lkB a b w t bad=true)(c:¬64<a.length)(d:3600000<lnd w t):lkE a b w t bad=3:=by unfold lkE;grind
theorem lkE_ok(h:lkB a b w t bad=true)(c:¬64<a.length)(d:¬3600000<lnd w t):lkE a b w t bad=0:=by unfold lkE;grind
theorem mg_b{g n:Int}(c:0<=g)(d:g<=3600000)(e:0<=n)(f:n<=64):0<=n*g/\n*g<=230400000:=by have h:=cP e c;have i:=iA f d c O;omega
def mg_le{g n m:Int}(c:0<=g)(h:n<=m):n*g<=m*g:=dM h c
end
def hvU(p:Dh)(fr c:Int):Zco:=((fr,c,1),[p.1],[p.2.1],[p.2.2])
def glU(p q:Dh)(fr c:Int):Zco:=((fr,c,1),Zfh p.1 q.1 Zpv,Zfh p.2.1 q.2.1 Zpv,Zfh p.2.2 q.2.2 Zpv)
def Zgj(p:Dh)(fr c:Int):List Zco:=if fr<c then [hvU p fr c]else []
def lpP(p q:Dh)(w:WvT)(t n:Int):List Zco:=Zgj p t (t+n*w.1) ++ ([glU p q (t+n*w.1) (t+n*w.1+w.2.1)] ++ Zgj q (t+n*w.1+w.2.1) (lnd w t))
theorem un_hv{p:Dh}{fr c k:Int}{r:SL×SL×SL} : Ia (glG p.1 p.2.1 p.2.2 p.1 p.2.1 p.2.2 fr c k r)=hvU p fr c:=by unfold Ia glG hvU Zfh;simp
def lgG(a b:Dh)(fr c k:Int)(r:SL×SL×SL):Zv:=((fr,c,1),(r.1,tmL a.1 b.1 k),(r.2.1,tmL a.2.1 b.2.1 k),(r.2.2,tmL a.2.2 b.2.2 k))
theorem sty_t{p:Dh}{fr c:Int}(h:fr<c):Zgj p fr c=[hvU p fr c]:=aP h
def sty_f{p:Dh}{fr c:Int}(h:¬fr<c):Zgj p fr c=[]:=aJ h
def lPs(a b:List Dh)(w:WvT)(t:Int)(c:List Int)(k:Nat):List (List Zco):=(List.range k).map λi=>lpP (a.getD i Pt0) (b.getD i Pt0) w t (c.getD i 0)
theorem lPs_s{a b:List Dh}{w:WvT}{t:Int}{c:List Int}{k:Nat} : lPs a b w t c (k+1)=lPs a b w t c k ++ [lpP (a.getD k Pt0) (b.getD k Pt0) w t (c.getD k 0)]:=by unfold lPs;rw [List.range_succ,cI];rfl
abbrev Ztw (ls:List PT):List (List Zco):=ls.map λx=>x.2.map Ia
def Yek{z:PT} : Ztw (ls ++ [z])=Ztw ls ++ [z.2.map Ia]:=cI
theorem tk_s{x y:List Int}{k:Nat}(c:k<x.length)(d:k<y.length)(h:x.take k=y.take k)(e:x.getD k 0=y.getD k 0):x.take (k+1)=y.take (k+1):=by grind [Qz]
theorem tk_e{α:Type}{x y:List α}(h:x.length=y.length)(c:x.take x.length=y.take x.length):x=y:=by grind
def sgE(a b:Zco):Bool:=decide (a.1.1=b.1.1) && (decide (a.1.2.1=b.1.2.1) && (decide (a.1.2.2=b.1.2.2) && (decide (a.2.1=b.2.1) && (decide (a.2.2.1=b.2.2.1) && decide (a.2.2.2=b.2.2.2)))))
theorem sgE_t{a b:Zco}(h:sgE a b=true):a=b:=by unfold sgE at h;grind
theorem sgE_r{a:Zco}:sgE a a=true:=by unfold sgE;simp
section
variable {xs ys:List Zv} {k:Nat}
theorem tku_s(c:k<xs.length)(d:k<ys.length)(h:(xs.map Ia).take k=(ys.map Ia).take k)(e:Ia (xs.getD k G0)=Ia (ys.getD k G0)):(xs.map Ia).take (k+1)=(ys.map Ia).take (k+1):=by rw [<-jB,<-jB,Qz G0 _ _ c,Qz G0 _ _ d,cI,cI,jB,jB,h,bQ,bQ,e]
theorem tku_e(h:xs.length=ys.length)(c:(xs.map Ia).take xs.length=(ys.map Ia).take xs.length):xs.map Ia=ys.map Ia:=by grind [tk_e,List.length_map]
theorem tku_n(c:k<xs.length)(d:k<ys.length)(e:xs.map Ia=ys.map Ia):sgE (Ia (xs.getD k G0)) (Ia (ys.getD k G0))=true:=by have h:=aD (λl=>l[k]?) e;simp only [fG,aL c,aL d,Option.map_some,iR]at h;rw [aK,aK,aL c,aL d,eN,h];exact sgE_r
end
section
variable (a b:List Dh) (w:WvT) (t:Int) (bad:Bool)
theorem Yln:bad=true\/(bad=false/\wvB w=false)\/(bad=false/\wvB w=true/\((a.length:Nat):Int)=0)\/(bad=false/\wvB w=true/\¬((a.length:Nat):Int)=0/\((a.length:Nat):Int)≠((b.length:Nat):Int))\/
  (bad=false/\wvB w=true/\¬((a.length:Nat):Int)=0/\¬((a.length:Nat):Int)≠((b.length:Nat):Int)/\t<0)\/(bad=false/\wvB w=true/\¬((a.length:Nat):Int)=0/\¬((a.length:Nat):Int)≠((b.length:Nat):Int)/\¬t<0/\t>3600000)\/
  (bad=false/\wvB w=true/\¬((a.length:Nat):Int)=0/\¬((a.length:Nat):Int)≠((b.length:Nat):Int)/\¬t<0/\¬t>3600000/\a.all ptT=false)\/
  (bad=false/\wvB w=true/\¬((a.length:Nat):Int)=0/\¬((a.length:Nat):Int)≠((b.length:Nat):Int)/\¬t<0/\¬t>3600000/\a.all ptT=true/\b.all ptT=false)\/
  (bad=false/\wvB w=true/\¬((a.length:Nat):Int)=0/\¬((a.length:Nat):Int)≠((b.length:Nat):Int)/\¬t<0/\¬t>3600000/\a.all ptT=true/\b.all ptT=true):=by
 grind
variable {a b w t bad}
theorem Ylm(c:bad=true):lkB a b w t bad=false:=by unfold lkB;grind
theorem lk_f1(c:bad=false)(d:wvB w=false):lkB a b w t bad=false:=by unfold lkB;grind
theorem lk_f2(c:bad=false)(d:wvB w=true)(e:((a.length:Nat):Int)=0):lkB a b w t bad=false:=by unfold lkB;grind
theorem lk_f3(c:bad=false)(d:wvB w=true)(e:¬((a.length:Nat):Int)=0)(f:((a.length:Nat):Int)≠((b.length:Nat):Int)):lkB a b w t bad=false:=by unfold lkB;grind
theorem lk_f4(c:bad=false)(d:wvB w=true)(e:¬((a.length:Nat):Int)=0)(f:¬((a.length:Nat):Int)≠((b.length:Nat):Int))(g:t<0):lkB a b w t bad=false:=by unfold lkB;grind
theorem lk_f5(c:bad=false)(d:wvB w=true)(e:¬((a.length:Nat):Int)=0)(f:¬((a.length:Nat):Int)≠((b.length:Nat):Int))(g:¬t<0)(h:t>3600000):lkB a b w t bad=false:=by unfold lkB;grind
theorem lk_f6(c:bad=false)(d:wvB w=true)(e:¬((a.length:Nat):Int)=0)(f:¬((a.length:Nat):Int)≠((b.length:Nat):Int))(g:¬t<0)(h:¬t>3600000)(i:a.all ptT=false):lkB a b w t bad=false:=by unfold lkB;grind
theorem lk_f7(c:bad=false)(d:wvB w=true)(e:¬((a.length:Nat):Int)=0)(f:¬((a.length:Nat):Int)≠((b.length:Nat):Int))(g:¬t<0)(h:¬t>3600000)(i:a.all ptT=true)(j:b.all ptT=false):lkB a b w t bad=false:=by unfold lkB;grind
theorem Yll(c:bad=false)(d:wvB w=true)(g:¬((a.length:Nat):Int)=0)(h:¬((a.length:Nat):Int)≠((b.length:Nat):Int))(i:¬t<0)(j:¬t>3600000)(e:a.all ptT=true)(f:b.all ptT=true):lkB a b w t bad=true:=by unfold lkB;rw [c,d,e,f,aH (show 0<a.length by omega),aH (show a.length=b.length by omega),aH (show 0<=t/\t<=3600000 by omega)];rfl
end
def lpT(p q:Dh)(w:WvT)(t n:Int):Nat->List Zco
 | 0=>[]
 | 1=>Zgj p t (t+n*w.1)
 | 2=>Zgj p t (t+n*w.1) ++ [glU p q (t+n*w.1) (t+n*w.1+w.2.1)]
 | _=>lpP p q w t n
theorem lp5{i:Nat}(h:i<3)(A B:Prop):(i=0/\A)\/(i=0/\¬A)\/i=1\/(i=2/\B)\/(i=2/\¬B):=by grind
section
variable {p q:Dh} {gap fl wv t n:Int} {xs:List Zv} {r:SL×SL×SL}
theorem lpT_0(c:xs.map Ia=lpT p q (gap,fl,wv) t n 0)(d:t<t+n*gap):(xs ++ [glG p.1 p.2.1 p.2.2 p.1 p.2.1 p.2.2 t (t+n*gap) 1 r]).map Ia=lpT p q (gap,fl,wv) t n 1:=by rw [cI,c];show [] ++ [Ia _]=Zgj p t _;grind [un_hv,sty_t]
theorem lpT_1(d:xs.map Ia=lpT p q (gap,fl,wv) t n 0)(c:¬t<t+n*gap):(xs ++ []).map Ia=lpT p q (gap,fl,wv) t n 1:=by rw [eU,d];show []=Zgj p t _;rw [sty_f c]
theorem lpT_2(c:xs.map Ia=lpT p q (gap,fl,wv) t n 1):(xs ++ [glG p.1 p.2.1 p.2.2 q.1 q.2.1 q.2.2 (t+n*gap) (t+n*gap+fl) 2 r]).map Ia=lpT p q (gap,fl,wv) t n 2:=by rw [cI,c];rfl
theorem lpT_3(d:xs.map Ia=lpT p q (gap,fl,wv) t n 2)(c:t+n*gap+fl<t+(wv-1)*gap+fl):(xs ++ [glG q.1 q.2.1 q.2.2 q.1 q.2.1 q.2.2 (t+n*gap+fl) (t+(wv-1)*gap+fl) 1 r]).map Ia=lpT p q (gap,fl,wv) t n 3:=by rw [cI,d];show(Zgj p t _ ++ [glU p q _ _]) ++ [Ia _]=Zgj p t _ ++ ([glU p q _ _] ++ Zgj q _ (t+(wv-1)*gap+fl));rw [un_hv,sty_t c,gU]
theorem lpT_4(d:xs.map Ia=lpT p q (gap,fl,wv) t n 2)(c:¬t+n*gap+fl<t+(wv-1)*gap+fl):(xs ++ []).map Ia=lpT p q (gap,fl,wv) t n 3:=by rw [eU,d];show(Zgj p t _ ++ [glU p q _ _])=Zgj p t _ ++ ([glU p q _ _] ++ Zgj q _ (t+(wv-1)*gap+fl));rw [sty_f c,eU]
def glv_g{fr c:Int}(g:ptT p=true)(h:ptT q=true)(d:0<=fr)(e:fr<c)(f:c<=3600000):Zcv p.1 p.2.1 p.2.2 q.1 q.2.1 q.2.2 fr c=true:=(Zpu g h d e).trans (aH f)
def glv_h{fr c:Int}(d:ptT p=true)(e:0<=fr)(f:fr<c)(g:c<=3600000):Zcv p.1 p.2.1 p.2.2 p.1 p.2.1 p.2.2 fr c=true:=glv_g d d e f g
end
def nbB(wv n:Int):Bool:=decide (n<0\/wv<=n)
def pbB(a:List Dh)(c:List Int)(wv:Int):Bool:=if c.length=a.length then c.any (nbB wv)else true
def lPr(a b:List Dh)(w:WvT)(t:Int)(c:List Int):List (List Zco):=if lkE a b w t (pbB a c w.2.2)=0 then lPs a b w t c a.length else []
section
variable {a b:List Dh} {w:WvT} {t wv:Int} {ns l:List Int} {i:Nat}
def an_t(hi:i<l.length)(h:nbB wv (l.getD i 0)=true):l.any (nbB wv)=true:=kG.2 ⟨_,Zd hi,h⟩
theorem an_f(h:∀j,j<l.length->nbB wv (l.getD j 0)=false):l.any (nbB wv)=false:=by rw [iU];intro x d;obtain⟨j,c,rfl⟩:=dW d;have:=h j c;rw [aK,aL c,eN]at this;rw [this];decide
def pb_1(h:((ns.length:Nat):Int)≠((a.length:Nat):Int)):pbB a ns wv=true:=aJ O
def pb_2(h:¬((ns.length:Nat):Int)≠((a.length:Nat):Int)):pbB a ns wv=ns.any (nbB wv):=aP O
theorem pb_f(h:pbB a ns wv=false):ns.length=a.length/\ns.any (nbB wv)=false:=by unfold pbB at h;grind
theorem nb_at(h:ns.any (nbB wv)=false)(hi:i<ns.length):0<=ns.getD i 0/\ns.getD i 0<wv:=by have:=iU.1 h _ (Zd (d:=0) hi);unfold nbB at this;grind
theorem Yrw{k:Nat}(h:Ztw ls=lPs a b w t ns k):ls.length=k:=by have:=aD List.length h;simpa [lPs]using this
end
section
variable {a b:List Dh} {t gap fl wv:Int} {ns:List Int}
def lPr_t(h:lkE a b (gap,fl,wv) t (pbB a ns wv)=0):lPr a b (gap,fl,wv) t ns=lPs a b (gap,fl,wv) t ns a.length:=aP h
def lPr_f(h:lkE a b (gap,fl,wv) t (pbB a ns wv)≠0):lPr a b (gap,fl,wv) t ns=[]:=aJ h
end
section
variable {a b:List Dh} {w:WvT} {t wv:Int} {bad:Bool} {ns:List Int}
end
section
variable {p q:Dh} {gap fl wv t n:Int} {r1 r2 r3:SL×SL×SL}
end
open Go in
theorem fill36{G H I M N P c d e f g h j m o s u v x y z B D F:Value}:Instr.fill (λi=>some (i*6,6)) ((List.range (3*6)).map ((Value.agg #[G,H,I,M,N,P]).cells[· % (Value.agg #[G,H,I,M,N,P]).cells.size]!)).toArray [(0,.agg #[c,d,e,f,g,h]),(1,.agg #[j,m,o,s,u,v]),(2,.agg #[x,y,z,B,D,F])]=some #[c,d,e,f,g,h,j,m,o,s,u,v,x,y,z,B,D,F]:=by
 simp [Instr.fill,Value.cells,List.range,List.range.loop]
 try rfl
end Go.Sky
namespace Go.Sky
open Go Go.MapKept
variable{o:Oper}{t et:TypeId}{w0:World}{M0:Nat->Prop}{x y:Operand}{b:Nat}{kv:Value}
variable {P:Program} {N:Nat} {sc:Nat->Prop} {env env':Px} {H H':Hp} {Q Q':Exit->Act->World->Prop} {M:Nat->Prop}
abbrev LkT:=Int×Int×Int×Int
def kv4(k:LkT):Value:= .agg #[.int .i64 k.1,.int .i64 k.2.1,.int .i64 k.2.2.1,.int .i64 k.2.2.2]
structure KeyQ (P:Program) (kt:TypeId):Prop where
 str:∃fs,P.underlying kt=some (.struct fs)
 eq:∀w k k',(Op.equal kt (kv4 k) (kv4 k')).run P w= .ok (decide (k=k')) w
 chk:∀e w k,(Instr.checkKey e 10000 kt (kv4 k)).run P w= .ok () w
def Yrh(a:Array MapEntry)(c:List (LkT×Value)):Prop:=a.toList.map (λe=>(e.key,e.val))=c.map λp=>(kv4 p.1,p.2)
def mpk(b:Nat)(d:List (LkT×Value)):Pc:=
 {own:=true,fp:=λk=>k=b,holds:=λw=>∃a n,w.heap[b]? = some (.map a n)/\Yrh a d
  lt:=λw k h g=>by subst g;obtain⟨_,_,h,_⟩:=h;exact(aT.1 h).1
  stable:=λw j h f=>by obtain⟨a,n,c,e⟩:=h;exact⟨a,n,(f.block b (aT.1 c).1 (λi=>i rfl)).trans c,e⟩ }
def mfk:List (LkT×Value)->LkT->Nat->Option (Nat×Value)
 | [],_,_=>none
 | (a,v)::r,k,i=>if k=a then some (i,v)else mfk r k (i+1)
theorem fa_4{kt:TypeId}(f:KeyQ P kt)(w:World)(k:LkT):∀(l:List MapEntry) (c:List (LkT×Value)) (i:Nat),l.map (λe=>(e.key,e.val))=c.map (λp=>(kv4 p.1,p.2))->(Instr.findAsking kt (kv4 k) l i).run P w= .ok (mfk c k i) w
 | [],[],_,_=>rfl
 | [],_::_,_,h=>O4
 | _::_,[],_,h=>O4
 | e::l,(a,v)::c,i,h=>by
  simp only [bQ,List.cons.injEq,Prod.mk.injEq]at h;obtain⟨⟨g,m⟩,j⟩:=h;simp only [Instr.findAsking,g,Sem.run_bind,f.eq,Result.andThen_ok,dI,mfk];by_cases d:k=a
  .simp_all
  .simp [d,fa_4 f w k l c _ j]
theorem fk_4{kt:TypeId}(d:KeyQ P kt)(w:World)(k:LkT)(l:List MapEntry)(a:List (LkT×Value))(h:l.map (λe=>(e.key,e.val))=a.map (λp=>(kv4 p.1,p.2))):(Instr.findKey kt (kv4 k) l).run P w= .ok (mfk a k 0) w:=by
 obtain⟨c,f⟩:=d.str;unfold Instr.findKey;simp only [Sem.run_bind,run_underlying f,Result.andThen_ok];cases l with
 | nil=>cases a with
  | nil=>rfl
  | cons _ _=>grind
 | cons e l=>
  have:Instr.findNow (.struct c) (kv4 k) (e::l) 0=none:=by rfl
  grind [fa_4]
theorem t_mmk   {d i:Nat}   (j:o.op= .makeMap t none) (h:o.dst=some d) (f:Nat.blt d N=true)
  (c:lk H 0=some (Xu w0 M0)) (l:∀b,w0.heap.size<=b->sc b) :
  T P N sc M o env H (G:=Nat) (λ_=>True) (λb=>(d,.map (some b))::env) (λb=>(i,mpk b [])::H):=λa w hs K Q e=>by
 have k:(execOp a.eval o).run P w= .ok (.value (.map (some w.heap.size))) (w.alloc (.map #[] 0)):=by simp only [execOp,j,Sem.run_bind,Option.map_none];rfl
 unfold Oper.wp;rw [k];show K _ _;rw [h];exact e _ _ _ aA ((hs.new c l i (mpk _ []) _ ⟨#[],0,heap_alloc_new w _,rfl⟩ (λb g=>g)).put d _ f) (Chg.alloc _ _ _)
theorem t_muk (i:Nat)(k:LkT)  {kt:TypeId} {z:Operand}   {v:Value} {d:List (LkT×Value)}   (V:o.op= .mapUpdate t x y z) (I:o.dst=none)
  (Z:ev env x=some (.map (some b))) (hy:ev env y=some kv) (j:kv=kv4 k) (hz:ev env z=some v) (m:lk H i=some (mpk b d)) (s:mfk d k 0=none) (S:P.underlying t=some (.map kt et)) (e:KeyQ P kt)
  (u:lk H 0=some (Xu w0 M0)) (Y:∀b,w0.heap.size<=b->sc b) (D:M b) (h:i≠0:=by decide) :
  T P N sc M o env H (G:=Unit) (λ_=>True) (λ_=>env) (λ_=>(i,mpk b (d ++ [(k,v)]))::H):=λa w hs K Q B=>by
 subst j;obtain⟨c,n,g,R⟩:∃c n,w.heap[b]? = some _/\Yrh c d:=hs.hold i _ m;have l:=(aT.1 g).1;have r:=fk_4 e w k _ _ R;rw [s]at r;have W:(execOp a.eval o).run P w= .ok .skip { w with heap:=w.heap.setIfInBounds b (.map (c.push ⟨kv4 k,v,n⟩) (n+1)) }:=by simp [execOp,V,hs.ev Z,hs.ev hy,hs.ev hz,Instr.mapUpdate,run_underlying S,Go.MapKept.run_getObj_map g,e.chk,r,Go.MapKept.run_setObj_map _ g]
 unfold Oper.wp;rw [W];show K _ _;rw [I];have p:∀f,f b->Chg f w { w with heap:=w.heap.setIfInBounds b (.map (c.push ⟨kv4 k,v,n⟩) (n+1)) }:=λf F=>
  ⟨rfl,rfl,rfl,O5,λk e s=>by grind⟩
 exact B () _ _ aA ((hs.upd m rfl h (q:=mpk b (d ++ [(k,v)])) (p _ rfl) ⟨_,_,by simp only [gL,l,jF];rfl,by unfold Yrh at *;grind⟩ (λk e=> .inl e) u Y).put_none _) (p _ D)
def mlv(a:List (LkT×Value))(k:LkT)(z:Value):Value:=match mfk a k 0 with
 | some (_,v)=> .tuple #[v,.bool true]
 | none=> .tuple #[z,.bool false]
theorem d_mlk (i:Nat)(k:LkT)  {kt:TypeId}    {z:Value} {e:List (LkT×Value)} (l:o.op= .lookup t x y true)
  (m:ev env x=some (.map (some b))) (q:ev env y=some kv) (g:kv=kv4 k) (r:lk H i=some (mpk b e)) (j:P.underlying t=some (.map kt et)) (f:KeyQ P kt) (u:∀w,(zeroValue et).run P w= .ok z w)
  : Mr P N sc o env H (mlv e k z):=λa w hs=>by
 subst g;obtain⟨d,n,h,s⟩:∃d n,w.heap[b]? = some _/\Yrh d e:=hs.hold i _ r;have c:=fk_4 f w k _ _ s;unfold mlv;cases hf:mfk e k 0 with
 | none=>
  rw [hf]at c;simp [execOp,l,hs.ev m,hs.ev q,Instr.lookup,run_underlying j,Go.MapKept.run_getObj_map h,f.chk,c,u]
 | some p=>
  rw [hf]at c;simp [execOp,l,hs.ev m,hs.ev q,Instr.lookup,run_underlying j,Go.MapKept.run_getObj_map h,f.chk,c]
end Go.Sky
namespace Go.Sky
variable{p q:List Zv}{i a:Nat}{es:List (LkT×Value)}
abbrev PPT:=SL×List PT
abbrev Ou:PPT:=((none,0,0),[])
abbrev Zbn (x:PPT):Value:=Xd x.1
abbrev qPP (x:PPT):Pc:=Xv 1 Zdi qP (Xd x.1) x.2
abbrev ZnT:=Int×Int×Int×Int
def opt(b:List PPT)(a i:Nat):List Zv:=((b.getD a Ou).2.getD i PT0).2
def apA(z:ZnT)(p q:List Zv):Bool×Int:=if apZ z.1 1 1 p q=true then(apZ z.2.1 z.2.2.1 z.2.2.2 p q,0)else(false,Bi p q)
abbrev ApF:=Nat->Nat->Nat->Nat->Bool×Int
def Ae(c:List PPT)(z:ZnT):ApF:=λa i b k=>apA z (opt c a i) (opt c b k)
theorem ap_g0{D n d:Int}(h:apZ D n d p q=true):Bi p q=0:=by unfold apZ at h;grind
theorem apA_t{z:ZnT}(h:apZ z.1 1 1 p q=true):apA z p q=(apZ z.2.1 z.2.2.1 z.2.2.2 p q,Bi p q):=by unfold apA;rw [aP h,ap_g0 h]
theorem Yok{z:ZnT}(h:apZ z.1 1 1 p q=false):apA z p q=(false,Bi p q):=by unfold apA;grind
def Gu(ap:ApF)(n i:Nat):List Nat->Nat->Bool×Int
 | [],_=>(true,0)
 | k::r,a=>if(ap a k n i).1=true then Gu ap n i r (a+1)else(false,(ap a k n i).2)
abbrev RnT:=List Nat×Int×Int
def rnF(ap:ApF)(d:List Nat):Nat->List Nat->Nat->Nat->RnT
 | 0,_,_,_=>([],0,0)
 | f+1,b,e,c=>
  if b.length<d.length then
   if e<d.getD b.length 0 then
    match c with
    | 0=>([],0,0)
    | c+1=>
     let r:=Gu ap b.length e b 0
     if r.1=true then rnF ap d f (b ++ [e]) 0 c else if r.2=0 then rnF ap d f b (e+1) c else([],0,r.2)
   else if b.length=0 then([],2,0)else rnF ap d f b.dropLast (b.getLastD 0+1) c
  else(b,1,0)
def rnA(ap:ApF)(c:List Nat)(b:Nat):RnT:=rnF ap c (2*b+1) [] 0 b
section
variable {ap:ApF} {ns ch:List Nat} {f nx bd:Nat}
theorem fit_e{n i:Nat} : ∀(l:List Nat) (a:Nat),(Gu ap n i l a).1=true->(Gu ap n i l a).2=0
 | [],_,_=>rfl
 | k::r,a,h=>by
  unfold Gu at h ⊢;split
  .rename_i b;rw [aP b]at h;exact fit_e r _ h
  .rename_i b;rw [aJ b]at h;cases h
theorem Yma{n:Nat}(l:List Nat)(j:Nat)(b:j<l.length):Gu ap n i (l.drop j) j=if(ap j (l.getD j 0) n i).1=true then Gu ap n i (l.drop (j+1)) (j+1)else(false,(ap j (l.getD j 0) n i).2):=by
 have e:l.drop j=l.getD j 0::l.drop (j+1):=by simp_all
 rw [e];rfl
theorem Ysc{n:Nat}(l:List Nat){j:Nat}(b:l.length<=j):Gu ap n i (l.drop j) j=(true,0):=by rw [kO b];rfl
theorem Zkm(h:¬ch.length<ns.length):rnF ap ns (f+1) ch nx bd=(ch,1,0):=by unfold rnF;grind
theorem Zx7(h:ch.length<ns.length)(b:nx<ns.getD ch.length 0):rnF ap ns (f+1) ch nx 0=([],0,0):=by unfold rnF;grind
theorem Zki(h:ch.length<ns.length)(b:nx<ns.getD ch.length 0)(c:(Gu ap ch.length nx ch 0).1=true):rnF ap ns (f+1) ch nx (bd+1)=rnF ap ns f (ch ++ [nx]) 0 bd:=by show(if ch.length<ns.length then if nx<ns.getD _ 0 then _ else _ else _)=_;grind
theorem Zkk(h:ch.length<ns.length)(b:nx<ns.getD ch.length 0)(c:(Gu ap ch.length nx ch 0).1=false)(d:(Gu ap ch.length nx ch 0).2=0):rnF ap ns (f+1) ch nx (bd+1)=rnF ap ns f ch (nx+1) bd:=by show(if ch.length<ns.length then if nx<ns.getD _ 0 then _ else _ else _)=_;grind
theorem Zqw(h:ch.length<ns.length)(b:nx<ns.getD ch.length 0)(d:(Gu ap ch.length nx ch 0).2≠0):rnF ap ns (f+1) ch nx (bd+1)=([],0,(Gu ap ch.length nx ch 0).2):=by
 have c:(Gu ap ch.length nx ch 0).1=false:=by grind [fit_e]
 show(if ch.length<ns.length then if nx<ns.getD _ 0 then _ else _ else _)=_;grind
theorem Zkj(h:0<ns.length)(b:¬nx<ns.getD 0 0):rnF ap ns (f+1) [] nx bd=([],2,0):=by show(if([]).length<ns.length then if nx<ns.getD _ 0 then _ else _ else _)=_;grind
theorem Zqv{l:Nat}(h:(ch ++ [l]).length<ns.length)(b:¬nx<ns.getD (ch ++ [l]).length 0):rnF ap ns (f+1) (ch ++ [l]) nx bd=rnF ap ns f ch (l+1) bd:=by show(if(ch ++ [l]).length<ns.length then if nx<ns.getD _ 0 then _ else _ else _)=_;grind
end
def nI(l:List Nat):List Int:=l.map λn:Nat=>(n:Int)
def Fs(l:List Nat):(nI l).length=l.length:=aW _
def Yre(l:List Nat)(n:Nat):nI (l ++ [n])=nI l ++ [(n:Int)]:=cI
theorem Yrg(l:List Nat):nI l.dropLast=(nI l).take (l.length-1):=by unfold nI;rw [List.map_dropLast,kZ,aW]
theorem Zjw{l:List Nat} : l.getD (l.length-1) 0=l.getLastD 0:=by grind
theorem Yrf(l:List Nat)(h:0<l.length):(nI l).getD (l.length-1) 0=((l.getLastD 0:Nat):Int):=by rw [<-Zjw];exact Zce l _
def Bd(b:List PPT):List Nat:=b.map λx=>x.2.length
theorem Bh(b:List PPT):(Bd b).length=b.length:=aW _
theorem Zmr{b:List PPT}{k:Nat} : (Bd b).getD k 0=(b.getD k Ou).2.length:=by unfold Bd;grind
section
variable {ap:ApF} {ls:List PPT} {ch:List Nat} {f nx bd:Nat} {R:RnT}
theorem Zfw{f m:Nat}(h:m+1<=f):∃k,f=k+1/\f-1=k:=⟨f-1,O,rfl⟩
theorem Yi1(d:rnF ap (Bd ls) f ch nx bd=R)(h:2*bd+ch.length+1<=f)(e:0<bd)(g:ch.length<ls.length)(b:nx<(Bd ls).getD ch.length 0)(c:(Gu ap ch.length nx ch 0).1=true):rnF ap (Bd ls) (f-1) (ch ++ [nx]) 0 (bd-1)=R:=by grind [Zfw,Zki,Bh]
theorem Yi3(e:rnF ap (Bd ls) f ch nx bd=R)(j:2*bd+ch.length+1<=f)(g:0<bd)(h:ch.length<ls.length)(b:nx<(Bd ls).getD ch.length 0)(c:(Gu ap ch.length nx ch 0).1=false)(d:(Gu ap ch.length nx ch 0).2=0):rnF ap (Bd ls) (f-1) ch (nx+1) (bd-1)=R:=by grind [Zfw,Zkk,Bh]
theorem Yqg(c:rnF ap (Bd ls) f ch nx bd=R)(g:2*bd+ch.length+1<=f)(d:bd=0)(e:ch.length<ls.length)(b:nx<(Bd ls).getD ch.length 0):R=([],0,0):=by grind [Zfw,Zx7,Bh]
theorem Yqi(d:rnF ap (Bd ls) f ch nx bd=R)(h:2*bd+ch.length+1<=f)(e:0<bd)(g:ch.length<ls.length)(b:nx<(Bd ls).getD ch.length 0)(c:(Gu ap ch.length nx ch 0).2≠0):R=([],0,(Gu ap ch.length nx ch 0).2):=by grind [Zfw,Zqw,Bh]
theorem Yi2(c:rnF ap (Bd ls) f ch nx bd=R)(e:2*bd+ch.length+1<=f)(d:ch.length<ls.length)(b:¬nx<(Bd ls).getD ch.length 0)(h:ch=[]):R=([],2,0):=by grind [Zfw,Zkj,Bh]
theorem Yqh(g:rnF ap (Bd ls) f ch nx bd=R)(m:2*bd+ch.length+1<=f)(j:ch.length<ls.length)(d:¬nx<(Bd ls).getD ch.length 0)(h:0<ch.length):rnF ap (Bd ls) (f-1) ch.dropLast (ch.getLastD 0+1) bd=R:=by
 obtain⟨k,rfl,e⟩:=Zfw m;have b:ch≠[]:=O4;have c:ch=ch.dropLast ++ [ch.getLastD 0]:=by
  conv=>lhs;rw [<-List.dropLast_concat_getLast b]
  rw [List.getLastD_eq_getLast?,List.getLast?_eq_some_getLast b];rfl
 rw [<-g];generalize ch.dropLast=n at *;generalize ch.getLastD 0=l at *;subst c;exact(Zqv (by rw [Bh];exact j) d).symm
theorem Yi4(b:rnF ap (Bd ls) f ch nx bd=R)(d:2*bd+ch.length+1<=f)(c:¬ch.length<ls.length):R=(ch,1,0):=by grind [Zfw,Zkm,Bh]
end
def Yhp{b:Nat}(h:0<b):(b:Int)-1=((b-1:Nat):Int):=O
structure OkL (ls:List PPT) (z:ZnT):Prop where
 g:∀x∈ls,∀y∈x.2,(∀g∈y.2,Gin g)/\Qg y.2=true/\y.2.length<=5
 d:dsB z.1=true
 z:znB z.2.1 z.2.2.1 z.2.2.2=true
 k64:∀x∈ls,x.2.length<=64
def OkL.at{ls:List PPT}{z:ZnT}(h:OkL ls z)(b:a<ls.length)(hi:i<(ls.getD a Ou).2.length):(∀g∈opt ls a i,Gin g)/\Qg (opt ls a i)=true/\(opt ls a i).length<=5:=
 h.g _ (Zd b) _ (Zd hi)
def OkL.k{ls:List PPT}{z:ZnT}(h:OkL ls z)(b:a<ls.length):(ls.getD a Ou).2.length<=64:=h.k64 _ (Zd b)
def ChO(ls:List PPT)(ch:List Nat):Prop:=∀j,j<ch.length->ch.getD j 0<(ls.getD j Ou).2.length
theorem chO_s{ls:List PPT}{ch:List Nat}{n:Nat}(h:ChO ls ch)(d:n<(ls.getD ch.length Ou).2.length):ChO ls (ch ++ [n]):=λj c=>by
 rw [aO]at c;rcases aN.1 c with b|b
 .rw [aK,eD b];exact h j b
 grind
theorem chO_d{ls:List PPT}{ch:List Nat}(h:ChO ls ch):ChO ls ch.dropLast:=λj b=>by rw [iB]at b;rw [kZ,aK,kD b];exact h j O
def CkI(ls:List PPT)(z:ZnT)(es:List (LkT×Value)):Prop:=
 ∀p∈es,∃a i c k:Nat,p.1=((a:Int),(i:Int),(c:Int),(k:Int))/\p.2= .agg #[.bool (Ae ls z a i c k).1,.int .i64 (Ae ls z a i c k).2]
def ck_nil{ls:List PPT}{z:ZnT}:CkI ls z []:=λp h=>O4
theorem Ynt{ls:List PPT}{z:ZnT}{c k:Nat}{v:Value}(h:CkI ls z es)(e:v= .agg #[.bool (Ae ls z a i c k).1,.int .i64 (Ae ls z a i c k).2]):CkI ls z (es ++ [(((a:Int),(i:Int),(c:Int),(k:Int)),v)]):=λp d=>by
 rcases cW.1 d with b|b
 .exact h p b
 grind
theorem Yby{k:LkT} : ∀{es:List (LkT×Value)} {b j:Nat} {v:Value},mfk es k b=some (j,v)->(k,v)∈es
 | [],_,_,_,h=>by cases h
 | (a,w)::r,b,j,v,h=>by
  unfold mfk at h;split at h
  .rename_i e;subst e;cases h;exact cC ..
  .exact bT _ (Yby h)
theorem Yk7{ls:List PPT}{z:ZnT}(h:CkI ls z es)(a i c k:Nat) :
  (mfk es ((a:Int),(i:Int),(c:Int),(k:Int)) 0=none/\mlv es ((a:Int),(i:Int),(c:Int),(k:Int)) (.agg #[.bool false,.int .i64 0])= .tuple #[.agg #[.bool false,.int .i64 0],.bool false])\/
  mlv es ((a:Int),(i:Int),(c:Int),(k:Int)) (.agg #[.bool false,.int .i64 0])= .tuple #[.agg #[.bool (Ae ls z a i c k).1,.int .i64 (Ae ls z a i c k).2],.bool true]:=by
 cases hf:mfk es _ 0 with
 | none=>exact .inl ⟨rfl,by unfold mlv;grind⟩
 | some p=>
  obtain⟨b,j,d,l,e,g⟩:=h _ (Yby hf);exact .inr (by unfold mlv;grind)
def okZ(z:ZnT)(bd:Int):Bool:=dsB z.1 && (znB z.2.1 z.2.2.1 z.2.2.2 && decide (0<=bd/\bd<=100000))
def chR(ls:List PPT)(z:ZnT)(bd:Int):RnT:=
 if(ls.all λx=>Fc x.2)=false\/okZ z bd=false then([],0,2)
 else if(ls.any λx=>decide (64<x.2.length))=true\/64<ls.length then([],0,7)
 else rnA (Ae ls z) (Bd ls) bd.toNat
section
variable {ls:List PPT} {z:ZnT} {bd:Int}
theorem okZ_t(h:okZ z bd=true):dsB z.1=true/\znB z.2.1 z.2.2.1 z.2.2.2=true/\0<=bd/\bd<=100000:=by unfold okZ at h;grind
def Ykm(h:okZ z bd=true):0<=bd/\bd<=100000:=(okZ_t h).2.2
def chR_2(h:(ls.all λx=>Fc x.2)=false):chR ls z bd=([],0,2):=aP (.inl h)
def chR_2z(h:okZ z bd=false):chR ls z bd=([],0,2):=aP (.inr h)
theorem chR_7(c:(ls.all λx=>Fc x.2)=true)(h:okZ z bd=true)(b:(ls.any λx=>decide (64<x.2.length))=true\/64<ls.length):chR ls z bd=([],0,7):=by unfold chR;grind
theorem chR_r(d:(ls.all λx=>Fc x.2)=true)(h:okZ z bd=true)(b:(ls.any λx=>decide (64<x.2.length))=false)(c:ls.length<=64):chR ls z bd=rnA (Ae ls z) (Bd ls) bd.toNat:=by unfold chR;grind
theorem Zs2(h:∀j,j<ls.length->Fc (ls.getD j Ou).2=true):(ls.all λx=>Fc x.2)=true:=by rw [bK];intro x c;obtain⟨j,b,rfl⟩:=dW c;have:=h j b;rwa [aK,aL b]at this
def chv_no(hi:i<ls.length)(h:Fc (ls.getD i Ou).2=false):(ls.all λx=>Fc x.2)=false:=
 kA.2 λb=>O4
theorem lg_s{bl b:Bool}(h:bl=(ls.take i).any λx=>decide (64<x.2.length))(hi:i<ls.length)(d:(bl=true/\b=true)\/(bl=false/\b=decide (64<(ls.getD i Ou).2.length))):b=(ls.take (i+1)).any λx=>decide (64<x.2.length):=by
 rw [Qz Ou _ _ hi,List.any_append,<-h];rcases d with⟨c,rfl⟩|⟨c,rfl⟩
 .rw [c];rfl
 .rw [c];simp
theorem ok_L(k:∀x∈ls,∀y∈x.2,∀g∈y.2,Gin g)(j:∀x∈ls,∀y∈x.2,y.2.length<=5)(l:(ls.all λx=>Fc x.2)=true)(h:okZ z bd=true)(m:(ls.any λx=>decide (64<x.2.length))=false):OkL ls z:=by
 obtain⟨d,e,n⟩:=okZ_t h;refine⟨λx b y c=>⟨k x b y c,?_,j x b y c⟩,d,e,λx b=>?_⟩
 .exact bK.1 (bK.1 l x b) y c
 grind
end
end Go.Sky
namespace Go.Sky
open Go Go.MapKept Go.Proofs
def pPt:Enc Tryz.prog 61 3 Zbm:=Enc.agg O3 Tryz.sizeOf61 Tryz.isAgg61 (λx=>⟨[.int .i64 x.1,.int .i64 x.2.1,.int .i64 x.2.2],rfl,rfl,O11⟩)
@[reducible,instance] def encPtI:EncT Tryz.prog 61 3 Zbm:=⟨pPt⟩
def pPq:Enc Tryz.prog 36 1 Zdi:=Enc.flat Tryz.sizeOf36 Tryz.isAgg36 (λ_=>rfl)
@[reducible,instance] def encPqI:EncT Tryz.prog 36 1 Zdi:=⟨pPq⟩
def pPPq:Enc Tryz.prog 27 1 Zbn:=Enc.flat Tryz.sizeOf27 Tryz.isAgg27 (λ_=>rfl)
@[reducible,instance] def encPPqI:EncT Tryz.prog 27 1 Zbn:=⟨pPPq⟩
def shLk:Tryz.prog.stoodInHeld 291=false:=O6
def inLk(m:Nat)(w:World)(k e:LkT):(Op.equalIn (m+2) 291 (kv4 k) (kv4 e)).run Tryz.prog w= .ok (decide (k=e)) w:=by
 have p:Tryz.prog.underlying 291=some (.struct (Tryz.prog.fieldsOf 291)):=by unfold Program.fieldsOf;rw [Tryz.underlying291]
 obtain⟨a,b,c,d⟩:=k;obtain⟨f,g,h,i⟩:=e;unfold kv4;rw [run_equalIn_agg w (m+1) 291 _ _ p shLk];unfold Program.fieldsOf;rw [Tryz.underlying291];simp [Op.eqFields,part,Tryz.isAgg3,run_equalIn_int _ _ _ _ _ _ _ Tryz.underlying3];by_cases j:a=f<;>by_cases l:b=g<;>by_cases n:c=h<;>by_cases o:d=i<;>simp [j,l,n,o]
def chLk(e:Bool)(m:Nat)(w:World)(k:LkT):(Instr.checkKey e (m+2) 291 (kv4 k)).run Tryz.prog w= .ok () w:=by obtain⟨a,b,c,d⟩:=k;unfold kv4;have hi:∀(x:Int) (n:Nat),(Instr.checkKey e (n+1) 3 (.int .i64 x)).run Tryz.prog w= .ok () w:=λx n=>run_checkKey Tryz.underlying3 (show IsKey (.int .i64) (.int .i64 x)from rfl) e n;simp [Instr.checkKey,run_underlying Tryz.underlying291,part,Tryz.isAgg3,run_underlying Tryz.underlying3]
def k4L:KeyQ Tryz.prog 291:=⟨⟨_,Tryz.underlying291⟩,λw k a=>inLk 9998 w k a,λe w k=>chLk e 9998 w k⟩
def zvSn(w:World):(zeroValue 372).run Tryz.prog w= .ok (.agg #[.bool false,.int .i64 0]) w:=Tryz.zeroValue372 w
def fill93{u0 u1 u2 u3 u4 u5 u6 u7 u8 u9 a b c d e f g h j k l m n o p q r s t u v w x y z B D F G H I M N P Q R S V W Y Z c6 c7 c8:Value}:Instr.fill (λi=>some (i*9,9)) #[u0,u1,u2,u3,u4,u5,u6,u7,u8,u9,a,b,c,d,e,f,g,h,j,k,l,m,n,o,p,q,r] [(0,.agg #[s,t,u,v,w,x,y,z,B]),(1,.agg #[D,F,G,H,I,M,N,P,Q]),(2,.agg #[R,S,V,W,Y,Z,c6,c7,c8])]=some #[s,t,u,v,w,x,y,z,B,D,F,G,H,I,M,N,P,Q,R,S,V,W,Y,Z,c6,c7,c8]:=by simp [Instr.fill,Value.cells]
def ti_l3:Tryz.prog.info? 197=some Tryz.t197:=O6
def ti_l1:Tryz.prog.info? 196=some Tryz.t196:=O6
def Yoe{a b c d e f g h i j k l m n o p q r s t u v w x y z B:Value} : Tryz.prog.built 197 [(0,.agg #[a,b,c,d,e,f,g,h,i]),(1,.agg #[j,k,l,m,n,o,p,q,r]),(2,.agg #[s,t,u,v,w,x,y,z,B])]=some #[a,b,c,d,e,f,g,h,i,j,k,l,m,n,o,p,q,r,s,t,u,v,w,x,y,z,B]:=by refine Cd ti_l3 Tryz.underlying197 rfl ti_l1 ?_;rw [show Tryz.t196.size=9 from rfl];exact fill93
def Zw0 {P:Program} {N:Nat} {sc:Nat->Prop} {env:Px} {H:Hp} {o:Oper} {x y:Operand} {t e:TypeId} {i n:Nat} {p:IntKind} {m:Int} {d:Array Value} (h:o.op= .index t x y) (k:ev env x=some (.agg d)) (l:ev env y=some (.int p m))
  (j:P.underlying t=some (.array n e)) (g:∀w,(sizeOf e).run P w= .ok 9 w) (f:∀w,(isAgg e).run P w= .ok true w) (b:m=(i:Int)) (c:i<n):Mr P N sc o env H (.agg (d.extract (i*9) (i*9+9))):=λa w hs=>by
 subst b;simp [execOp,h,hs.ev k,hs.ev l,Instr.index,asIntOf,run_underlying j,g,f,asAgg,part,c]
end Go.Sky
namespace Go.Sky
open Go.Proofs
variable{v va vb u:Value}{xs x:List Int}{pa pb:List Zv}
theorem dw_neg(a:Cvd xs):Cal Tryz.prog 178 #[v] [Yl 2 wv v xs] false (G:=Unit) (λ_=>True) (λ_=> .bool (Hu xs)) (λ_=>[]):=by
 unfold Hu;cases hn:ngb (Pr xs) (Aa xs) (0,1) (1,1)with
 | true=>exact Zzb v xs a hn
 | false=>exact Yf8 v xs a hn
open Go.Proofs.Tryz
set_option synthInstance.maxHeartbeats 0
set_option synthInstance.maxSize 100000
set_option maxRecDepth 20000
set_option linter.unusedSimpArgs false
theorem Ysq{y D B:Int}(l:∀g∈pa,Gin g)(m:∀g∈pb,Gin g)(h:Qg pa=true)(i:Qg pb=true)(R:pa.length<=5)(S:pb.length<=5)(t:znB y D B=true):Cal prog 177 #[va,vb,.agg #[.int .i64 y,.int .i64 D,.int .i64 B]] [Xv 6 Qv qG va pa,Xv 6 Qv qG vb pb] true (G:=Value×List GpT) (λg=>g.2.map unP=Ie y D B pa pb) (λg=> .tuple #[g.1,.int .i64 (Bi pa pb)]) (λg=>[Xv 3 Ih qGp g.1 g.2]):=by
 refine Zg func177 ntmps177 λw0 sc V r=>go 2 ?_;refine Yj (Yg 3) λbx _=>go 8 ?_;refine cl 3 [] Zwl λ_ _=>?_;refine dt (dF (Qn J J) (aD (λb=>Value.bool (!b)) t))<|go 9 ?_;refine cl 4 [1,2] (Zo7 l m h i R S) λc e=>go 16<|Ze J (λf=>?_) (λf=>?_)
 .have N:=f;refine go 8<|Zn (Kv 72 3 Ih qGp) ?_;exact Nd r (.slice none 0 0,[]) results177 (by rw [Zr8 N]) (Zr6 O).symm (Pb 72 Za)
 .have N:=f;refine go 16<|Zf (Qp 74 3 178 Ih)<|Zf (Yh qGp 76) ?_;have P:=Zhv l m h i;have Z:c.1.2.length=(Lr pa pb pa).length:=by rw [<-e.1,aW]
  have a0:c.2.2.length=(Lr pa pb pb).length:=by rw [<-e.2,aW]
  refine lp (G:=Nat×Value×List GpT) [5,8,9,10,26] [0,1,2,3,4,5] (λq=>[(27,.int .i64 (q.1:Int)),(11,q.2.1)]) (λq=>[(74,Oe 3 178 Ih q.2.1 q.2.2),(76,Nw qGp q.2.2)]) (λq=>(q.1<=c.1.2.length)/\(q.2.2.map unP=(Ie y D B pa pb).take q.1)/\(q.2.2.length=q.1)) (λq=>c.1.2.length-q.1) (0,.slice none 0 0,[]) ⟨O1,(by rw [dZ];rfl),rfl⟩ K2 K2 ?_;rintro⟨k,vq,W⟩ ⟨Y,n,s⟩;dsimp only at Y n s;dsimp only;refine go 6<|Ze J (λM=>?_) (λM=>?_)
  .refine go 10 ?_;obtain⟨H,o⟩:=Bk l h e.1 _ (Zd (d:=G0) (show k<c.1.2.length by omega));obtain⟨I,p⟩:=Bk m i e.2 _ (Zd (d:=G0) (show k<c.2.2.length by omega));refine Zf (Qr (c.1.2.getD k G0) ((c.1.2.getD k G0).2.1) 4 51 J J (Zd O) O5)<|Zf (Qr (c.1.2.getD k G0) ((c.1.2.getD k G0).2.2.1) 4 52 J J (Zd O) O5)<|Zf (Qr (c.1.2.getD k G0) ((c.1.2.getD k G0).2.2.2) 4 53 J J (Zd O) O5)<|Zf (Qr (c.2.2.getD k G0) ((c.2.2.getD k G0).2.1) 5 54 J J (Zd O) O5)<|Zf (Qr (c.2.2.getD k G0) ((c.2.2.getD k G0).2.2.1) 5 55 J J (Zd O) O5)<|Zf (Qr (c.2.2.getD k G0) ((c.2.2.getD k G0).2.2.2) 5 56 J J (Zd O) O5)<|Qw [3,4,5] [24]<|Zi 0 [(0,0),(1,0),(2,0),(3,0),(4,0),(5,0),(6,0),(7,0),(8,0),(9,0),(10,0),(11,0),(12,0),(13,0),(14,0),(15,0),(16,0),(17,0),(18,0),(19,0),(20,1),(21,0),(22,1),(23,1),(24,3)]<|go 3 ?_;refine Yz J J (Ko (Zs 4 k J J J J Zc Ny Ow J) K3)<|Yz J J (Ko (Ip 4 J J J Zc Hf J Lm J) K3)<|Yz J J (Ko (Im 4 G0 J J J Zc iA3 J) K3)<|go 2 ?_;refine Yz J J (Ko (Zs 4 k J J J J Zc Ny Ow J) K3)<|Yz J J (Ko (Ip 4 J J J Zc Hf J Lm J) K3)<|Yz J J (Ko (Im 4 G0 J J J Zc iA3 J) K3)<|go 2 ?_;refine Yz J J (Ko (Zs 4 k J J J J Zc Ny Ow J) K3)<|Yz J J (Ko (Yr 4 G0 J J J Zc pG) K3)<|go 2 ?_;refine Yz J J (Ko (Zs 5 k J J J J Zc Ny Ow J) K3)<|Yz J J (Ko (Yr 5 G0 J J J Zc pG) K3)<|go 1 ?_;refine Yq (Zo 84 [51,52,53,54,55,56] (Ysp (Nz H o) (Nz I p) (Gx o) (Gx p) t)) λF Q=>?_;refine Yz J J (Ko (Qe [(0,_),(1,_),(2,_)] J K6 (λa w hs=>Zh5 ((Zk J) a w hs) ((Zk J) a w hs) ((Zk J) a w hs))) K3)<|Kd J (Xc [(0,_)] 6 (enc:=Ih) [(gpY (c.1.2.getD k G0) F)] J J K2 Zez ti178 J J Zp0 J J pGp.cells J J V.h) (λv _=>?_);refine Kd J (Be 74 J J J K3 (λj=>(Fl 74 6 40 J J J J J J O3 J (Yb pGp) Zez ti178 J pGp J J J O8 O3 J V.h j))) λa1 _=>go 2 ?_;refine Zu<|go 6 ⟨O,?_⟩;exact Zn (Zm (q:=qGp) (z:=(gpY (c.1.2.getD k G0) F)) 76 84 76 J J J J J)<|Ye (k+1,_,W ++ [(gpY (c.1.2.getD k G0) F)]) ⟨O1,Zky e.1 e.2 n O O Q,by rw [aO,s];rfl⟩ O1 K2 K2
  .obtain rfl:k=c.1.2.length:=O;refine go 14<|Zn (Xa 74 J J pGp)<|Zn (Xe 74 76 78 J J J J) ?_;exact Nd r (vq,W) results177 (by rw [Zr7 N]) (Zr4 e.1 P.1 n) (Pb 78 Za)
theorem Ymt{n p o:Int}(f:∀g∈pa,Gin g)(h:∀g∈pb,Gin g)(c:Qg pa=true)(d:Qg pb=true)(t:pa.length<=5)(w:pb.length<=5)(m:znB n p o=true):Cal prog 109 #[va,vb,.agg #[.int .i64 n,.int .i64 p,.int .i64 o]] [Xv 6 Qv qG va pa,Xv 6 Qv qG vb pb] false (G:=SL) (λz=>True) (λz=> .tuple #[.agg #[.int .i64 (Zch (Ie n p o pa pb)).1,.int .i64 (Zch (Ie n p o pa pb)).2.1,Xd z],.bool (Zch (Ie n p o pa pb)).2.2,.int .i64 (Bi pa pb)]) (λz=>[]):=by
 refine Zg func109 ntmps109 λP N M l=>go 2 ?_;refine Yj (Yg 3) λH _=>Yj (Yd 4) λB _=>go 9 ?_;refine cl 5 [1,2] (Ysq f h c d t w m) λj a=>go 16 ?_;have F:=Ysa f h c d a;refine lp (G:=Nat) [6,19,20] [0,1,2,3,4,5] (λk=>[(21,.int .i64 (k:Int)),(8,.int .i64 (Bi pa pb))]) (λk=>[]) (λk=>(k<=j.2.length)/\(∀i,i<k->Hu (j.2.getD i Gp0).2.2=false)) (λk=>j.2.length-k) 0 ⟨O1,λi hi=>absurd hi (aR i)⟩ K2 aA ?_;rintro k ⟨I,y⟩;refine go 6<|Ze J (λr=>?_) (λr=>?_)
 .refine go 5<|Zf (Po 5 55 (j.2.getD k Gp0) J J (Zd O) J) ?_;have s:=Ynb f h c d m a (k:=k) O;refine go 2 ⟨O2,?_⟩;refine dt (Yr 5 Gp0 J J J Zc pGp O2)<|Yj (Yd 6) λD _=>go 7 ?_;refine cl 6 [55] (dw_neg s) λ_ _=>go 2<|Pe J (λb=>?_) (λb=>?_)
  .have e:=b;exact go 15<|xe3 l (j.2.getD k Gp0).2.1 results109 (by rw [fst_at a O y e]) aA Za
  .have e:=b;refine go 7 ⟨O,?_⟩;exact Ye (k+1) ⟨O1,λi hi=>by rcases aN.1 hi with q|q;exact y i q;subst q;exact e⟩ O1 K2 aA
 .obtain rfl:k=j.2.length:=O;exact go 15<|xe3 l (none,0,0) results109 (by rw [Yl8 a y]) aA Za
theorem Ymu(pa pb:List Zv)(k m l:Int)(h:∀g∈pa,Gin g)(i:∀g∈pb,Gin g)(c:Qg pa=true)(d:Qg pb=true)(e:pa.length<=5)(f:pb.length<=5)(j:znB k m l=true):Xp prog 45 #[va,vb,.agg #[.int .i64 k,.int .i64 m,.int .i64 l]] [Xv 6 Qv qG va pa,Xv 6 Qv qG vb pb] (.tuple #[.bool (apZ k m l pa pb),.int .i64 (Bi pa pb)]):=by
 refine Zg func45 ntmps45 λs r q a=>go 2 ?_;refine Yj (Yg 3) λo _=>go 9 ?_;refine cl 3 [1,2] (Ymt h i c d e f j) λp _=>go 4<|Yj (Yd 4) λn _=>go 10<|Zy 21 J (λb=>?_) (λb=>?_)
 .refine go 9 ?_;exact Nd a () results45 (by first|rw [ap_t ‹_›]|rw [Ygn ‹_›]) aA Za
 .refine go 9 ?_;exact Nd a () results45 (by first|rw [ap_t ‹_›]|rw [Ygn ‹_›]) aA Za
theorem Zio(a b k:Int)(n:-4194304<=a/\a<=4194304)(o:-4194304<=b/\b<=4194304):Cal prog 122 #[.int .i64 a,.int .i64 b,.int .i64 k] [] true (G:=SL) (λr=>True) (λr=>Xd r) (λr=>[Yl 1 Zz (Xd r) (tmL a b k)]):=by
 refine Zg func122 ntmps122 λq p f e=>?_;refine go 19 ⟨O,?_⟩;refine Zy 13 J (λi=>?_) (λi=>?_)
 .refine go 9 ?_;refine tt (Xc [(0,_)] 1 (enc:=Zz) ([a]:List Int) J J K2 Qi ti3 J J J J J pZ.cells J J f.h) J λv _=>go 5 ?_;refine Zn (Xa 1 J J pZ)<|Zfd (Xj 1 J Zl) (λd c=>?_);subst c;exact Yp e d results122 J aA (Pb 1 Za (aD (Yl 1 Zz (Xd d)) (tmL_0 a b k O).symm))
 .refine go 5<|Ze J (λg=>?_) (λg=>?_)
  .refine go 3 ?_;refine tt (Xc [(0,_)] 2 (enc:=Zz) ([a]:List Int) J J K2 Qi ti3 J J J J J pZ.cells J J f.h) J λj _=>go 5 ?_;refine Zn (Xa 2 J J pZ)<|Zfd (Xj 2 J Zl) (λd c=>?_);subst c;exact Yp e d results122 J aA (Pb 2 Za (aD (Yl 1 Zz (Xd d)) (tmL_0 a b k O).symm))
  .refine go 9<|Ze J (λh=>?_) (λh=>?_)
   .refine go 4 ?_;refine tt (Xc [(0,_),(1,_)] 3 (enc:=Zz) ([a,b-a]:List Int) J J K4 Qi ti3 J J J J J pZ.cells J J f.h) J λl _=>go 5 ?_;refine Zn (Xa 3 J J pZ)<|Zfd (Xj 3 J Zl) (λd c=>?_);subst c;exact Yp e d results122 J aA (Pb 3 Za (aD (Yl 1 Zz (Xd d)) (tmL_1 (a:=a) (b:=b) (k:=k) O O).symm))
   .refine go 11 ⟨O,O,O,?_⟩;refine tt (Xc [(0,_),(1,_),(2,_),(3,_),(4,_),(5,_)] 4 (enc:=Zz) ([a,0,0,10*(b-a),-15*(b-a),6*(b-a)]:List Int) J J K12 Qi ti3 J J J J J pZ.cells J J f.h) J λm _=>go 4 ?_;refine Zn (Xa 4 J J pZ)<|Zfd (Xj 4 J Zl) (λd c=>?_);subst c;exact Yp e d results122 J aA (Pb 4 Za (aD (Yl 1 Zz (Xd d)) (tmL_2 (a:=a) (b:=b) (k:=k) O O).symm))
theorem Zkr(c d e f b g fr y k:Int)(l:-4194304<=c/\c<=4194304)(m:-4194304<=d/\d<=4194304)(n:-4194304<=e/\e<=4194304)(o:-4194304<=f/\f<=4194304)(h:-4194304<=b/\b<=4194304)(p:-4194304<=g/\g<=4194304):Cal prog 58 #[.agg #[.int .i64 c,.int .i64 d,.int .i64 e],.agg #[.int .i64 f,.int .i64 b,.int .i64 g],.int .i64 fr,.int .i64 y,.int .i64 k] [] true (G:=SL×SL×SL) (λr=>True) (λr=> .agg #[.int .i64 fr,.int .i64 y,.int .i64 1,Xd r.1,Xd r.2.1,Xd r.2.2]) (λr=>[Yl 1 Zz (Xd r.1) (tmL c f k),Yl 1 Zz (Xd r.2.1) (tmL d b k),Yl 1 Zz (Xd r.2.2) (tmL e g k)]):=by refine Zg func58 ntmps58 λF D B q=>go 2 ?_;refine Yj (Yg 1) λbq _=>Yj (Yg 2) λs _=>Yj (Yd 3) λt _=>go 3<|Qa (λ_=>False) [(0,0),(1,0),(2,0),(3,0),(4,0),(5,0),(6,0),(8,0),(9,0),(10,0),(11,0),(12,0),(14,0),(15,0),(16,0),(17,0),(18,0),(7,1),(13,1),(19,1),(20,0),(21,3)]<|go 17<|Yq (Zo 4 [] (Zio c f k l o)) λz _=>Yq (Zo 5 [] (Zio d b k m h)) λi _=>Yq (Zo 6 [] (Zio e g k n p)) λj _=>?_;refine Yz J J (Xn (Qe [(0,_),(1,_),(2,_),(3,_),(4,_),(5,_)] J K12 (λa w hs=>Zdx ((Zk J) a w hs) ((Zk J) a w hs) ((Zk J) a w hs) ((Pj 4 J Zl) a w hs) ((Pj 5 J Zl) a w hs) ((Pj 6 J Zl) a w hs))))<|go 4 ?_;exact Yp q (z,i,j) results58 J aA (Pb 4 (Pb 5 (Pb 6 Za)))
theorem Zb8(x y:List Int):Xp prog 128 #[v,u] [Yl 1 Zz v x,Yl 1 Zz u y] (.bool (decide (x=y))):=by
 refine Zg func128 ntmps128 λp o n d=>?_;refine Xz (Oa (i:=1) J Zl) (λj=>?_);refine Xz (Oa (i:=2) J Zl) λl=>go 15 ?_;refine Ze J (λc=>?_) (λc=>?_)
 .have b:=c;refine go 7 ?_;exact Yp d () results128 (by rw [aE (λe=>b (by rw [e]))]) aA Za
 .have g:x.length=y.length:=O;refine go 9 ?_;refine lp (G:=Nat) [0,1] [0,1,2] (λk=>[(5,.int .i64 (k:Int))]) (λk=>[]) (λk=>(k<=x.length)/\(x.take k=y.take k)) (λk=>x.length-k) 0 ⟨O1,rfl⟩ K1 aA ?_;rintro k ⟨m,h⟩;refine go 9<|Ze J (λf=>?_) (λf=>?_)
  .refine go 5<|Qa (λ_=>False) [(0,0),(1,0),(2,0),(3,0),(4,0),(5,0),(6,0),(7,0),(8,0)]<|go 2 ?_;refine Yz J J (Xn (Zs 1 k J J J J Zl Qi Lm J))<|go 3 ⟨O,?_⟩;refine Yz J J (Xn (Zs 2 k J J J J Zl Qi Lm J))<|go 4 ⟨O,?_⟩;refine Ze J (λa=>?_) (λa=>?_)
   .have b:=a;refine go 11 ?_;exact Yp d () results128 (by rw [aE (λe=>b (by rw [e]))]) aA Za
   .have b:=a;refine go 8 ⟨O,?_⟩;exact Ye (k+1) ⟨O1,tk_s O O h (dN.1 b)⟩ O1 K1 aA
  .obtain rfl:k=x.length:=O;refine go 11 ?_;exact Yp d () results128 (by rw [aH (tk_e g h)]) aA Za
theorem Zb6(y:List Int):Xp prog 21 #[v,u] [Yl 1 Zz v x,Yl 1 Zz u y] (.bool (decide (x=y))):=by
 refine Zg func21 ntmps21 λp o n d=>?_;refine Xz (Oa (i:=1) J Zl) (λj=>?_);refine Xz (Oa (i:=2) J Zl) λl=>go 15 ?_;refine Ze J (λc=>?_) (λc=>?_)
 .have b:=c;refine go 7 ?_;exact Yp d () results21 (by rw [aE (λe=>b (by rw [e]))]) aA Za
 .have g:x.length=y.length:=O;refine go 9 ?_;refine lp (G:=Nat) [0,1] [0,1,2] (λk=>[(5,.int .i64 (k:Int))]) (λk=>[]) (λk=>(k<=x.length)/\(x.take k=y.take k)) (λk=>x.length-k) 0 ⟨O1,rfl⟩ K1 aA ?_;rintro k ⟨m,h⟩;refine go 9<|Ze J (λf=>?_) (λf=>?_)
  .refine go 5<|Qa (λ_=>False) [(0,0),(1,0),(2,0),(3,0),(4,0),(5,0),(6,0),(7,0),(8,0)]<|go 2 ?_;refine Yz J J (Xn (Zs 1 k J J J J Zl Qi Lm J))<|go 3 ⟨O,?_⟩;refine Yz J J (Xn (Zs 2 k J J J J Zl Qi Lm J))<|go 4 ⟨O,?_⟩;refine Ze J (λa=>?_) (λa=>?_)
   .have b:=a;refine go 11 ?_;exact Yp d () results21 (by rw [aE (λe=>b (by rw [e]))]) aA Za
   .have b:=a;refine go 8 ⟨O,?_⟩;exact Ye (k+1) ⟨O1,tk_s O O h (dN.1 b)⟩ O1 K1 aA
  .obtain rfl:k=x.length:=O;refine go 11 ?_;exact Yp d () results21 (by rw [aH (tk_e g h)]) aA Za
theorem Zu4{fr r q f i g:Int}{s t w j k l:Value}{y z m n o:List Int}:Xp prog 66 #[.agg #[.int .i64 fr,.int .i64 r,.int .i64 q,s,t,w],.agg #[.int .i64 f,.int .i64 i,.int .i64 g,j,k,l]] [Yl 1 Zz s x,Yl 1 Zz t y,Yl 1 Zz w z,Yl 1 Zz j m,Yl 1 Zz k n,Yl 1 Zz l o] (.bool (sgE ((fr,r,q),x,y,z) ((f,i,g),m,n,o))):=by
 refine Zg func66 ntmps66 λG F D a=>go 2 ?_;refine Yj (Yg 7) λB _=>Yj (Yg 8) λp _=>go 11<|Zy 10 J (λh=>?_) (λh=>?_)
 .refine go 7<|Zy 17 J (λb=>?_) (λb=>?_)
  .refine go 7<|Zy 24 J (λc=>?_) (λc=>?_)
   .refine go 4 ?_;refine Gi 8 [1,4] (Zb8 x m) λ_ _=>go 2<|Ly 31 J (λd=>?_) (λd=>?_)
    .refine go 4 ?_;refine Gi 8 [2,5] (Zb8 y n) λ_ _=>go 2<|Ly 38 J (λe=>?_) (λe=>?_)
     .refine go 4 ?_;refine Gi 8 [3,6] (Zb8 z o) λ_ _=>go 5 ?_;exact Yp a () results66 (by unfold sgE;simp_all) aA Za
     .refine go 10 ?_;exact Yp a () results66 (by unfold sgE;simp_all) aA Za
    .refine go 17 ?_;exact Yp a () results66 (by unfold sgE;simp_all) aA Za
   .refine go 24 ?_;exact Yp a () results66 (by unfold sgE;simp_all) aA Za
  .refine go 31 ?_;exact Yp a () results66 (by unfold sgE;simp_all) aA Za
 .refine go 38 ?_;exact Yp a () results66 (by unfold sgE;simp_all) aA Za
theorem Yjy{xs ys:List Zv}:Xp prog 16 #[v,u] [Xv 6 Qv qG v xs,Xv 6 Qv qG u ys] (.bool (decide (xs.map Ia=ys.map Ia))):=by
 refine Zg func16 ntmps16 λq p o d=>?_;refine Xz (Oa (i:=1) J Zc) (λl=>?_);refine Xz (Oa (i:=2) J Zc) λm=>go 15 ?_;refine Ze J (λc=>?_) (λc=>?_)
 .have b:=c;refine go 7 ?_;exact Yp d () results16 (by rw [aE (λe=>b (by rw [<-aW (f:=Ia),e,aW]))]) aA Za
 .have h:xs.length=ys.length:=O;refine go 9 ?_;refine lp (G:=Nat) [0,1] [0,1,2] (λk=>[(5,.int .i64 (k:Int))]) (λk=>[]) (λk=>(k<=xs.length)/\((xs.map Ia).take k=(ys.map Ia).take k)) (λk=>xs.length-k) 0 ⟨O1,rfl⟩ K1 aA ?_;rintro k ⟨n,j⟩;refine go 9<|Ze J (λg=>?_) (λg=>?_)
  .refine go 5<|Zf (Qr (xs.getD k G0) ((xs.getD k G0).2.1) 1 51 J J (Zd O) O5)<|Zf (Qr (xs.getD k G0) ((xs.getD k G0).2.2.1) 1 52 J J (Zd O) O5)<|Zf (Qr (xs.getD k G0) ((xs.getD k G0).2.2.2) 1 53 J J (Zd O) O5)<|Zf (Qr (ys.getD k G0) ((ys.getD k G0).2.1) 2 54 J J (Zd O) O5)<|Zf (Qr (ys.getD k G0) ((ys.getD k G0).2.2.1) 2 55 J J (Zd O) O5)<|Zf (Qr (ys.getD k G0) ((ys.getD k G0).2.2.2) 2 56 J J (Zd O) O5)<|Qa (λ_=>False) [(0,0),(1,0),(2,0),(3,0),(4,0),(5,0),(6,0),(7,0),(8,1),(9,0)]<|go 2 ?_;refine Yz J J (Xn (Zs 1 k J J J J Zc Ny Ow J))<|Yz J J (Xn (Yr 1 G0 J J J Zc pG))<|go 2 ?_;refine Yz J J (Xn (Zs 2 k J J J J Zc Ny Ow J))<|Yz J J (Xn (Yr 2 G0 J J J Zc pG))<|Yq (Zo 2 [51,52,53,54,55,56] Zu4) λ_ _=>go 3 ?_;refine Pe J (λa=>?_) (λa=>?_)
   .have b:=a;refine go 11 ?_;exact Yp d () results16 (by rw [aE (λe=>absurd ((Fa b).symm.trans (tku_n (k:=k) O O e)) O3)]) aA Za
   .have b:=a;refine go 8 ⟨O,?_⟩;exact Ye (k+1) ⟨O1,tku_s O O j (sgE_t (Ks b))⟩ O1 K1 aA
  .obtain rfl:k=xs.length:=O;refine go 11 ?_;exact Yp d () results16 (by rw [aH (tku_e h j)]) aA Za
theorem Cy(f fl wv:Int):Xp prog 14 #[.agg #[.int .i64 f,.int .i64 fl,.int .i64 wv]] [] (.bool (wvB (f,fl,wv))):=by
 refine Zg func14 ntmps14 λk j i a=>go 2 ?_;refine Yj (Yg 1) λh _=>go 9<|Zy 6 J (λg=>?_) (λg=>?_)
 .refine go 5<|Zy 11 J (λb=>?_) (λb=>?_)
  .refine go 5<|Zy 16 J (λc=>?_) (λc=>?_)
   .refine go 5<|Zy 21 J (λd=>?_) (λd=>?_)
    .refine go 5<|Zy 26 J (λe=>?_) (λe=>?_)
     .refine go 8 ?_;exact Yp a () results14 (by unfold wvB;first|(simp_all;done)|(simp_all;omega)) aA Za
     .refine go 8 ?_;exact Yp a () results14 (by unfold wvB;first|(simp_all;done)|(simp_all;omega)) aA Za
    .refine go 13 ?_;exact Yp a () results14 (by unfold wvB;first|(simp_all;done)|(simp_all;omega)) aA Za
   .refine go 18 ?_;exact Yp a () results14 (by unfold wvB;first|(simp_all;done)|(simp_all;omega)) aA Za
  .refine go 23 ?_;exact Yp a () results14 (by unfold wvB;first|(simp_all;done)|(simp_all;omega)) aA Za
 .refine go 28 ?_;exact Yp a () results14 (by unfold wvB;first|(simp_all;done)|(simp_all;omega)) aA Za
theorem Yfs(a:Dh):Xp prog 124 #[Zbm a] [] (.bool (!ptT a)):=by refine Zg func124 ntmps124 λe d c b=>go 2 ?_;refine Yj (Yg 1) λbq _=>go 6 ?_;refine cl 1 [] (Yg1 a.1 a.2.1 a.2.2) λ_ _=>go 5 ?_;exact Yp b () results124 J aA Za
theorem ix_pts(l:List Dh):Cal prog 168 #[v,.func (.func 124) #[] #[]] [Yl 3 Zbm v l] false (G:=Int) (λr=>decide (r>=0)=!l.all ptT) (λr=> .int .i64 r) (λr=>[]):=by
 refine Zg func168 ntmps168 λo n m d=>?_;refine Xz (Oa (i:=1) J Zl) λf=>go 14 ?_;refine lp (G:=Nat) [0,1,7] [0,1] (λi=>[(8,.int .i64 (i:Int))]) (λi=>[]) (λi=>(i<=l.length)/\(∀j,j<i->ptT (l.getD j Pt0)=true)) (λi=>l.length-i) 0 ⟨O1,λj h=>absurd h (aR j)⟩ K1 aA ?_;rintro i ⟨hi,g⟩;refine go 6<|Ze J (λc=>?_) (λc=>?_)
 .refine go 15 ?_;refine dt (Zs 1 i J J J J Zl Yg4 zT61 J)<|dt (Yr 1 Pt0 J J J Zl pPt)<|tt (Zae 1 [] [_] [] (Yfs (l.getD i Pt0)) J J J J K1 call124 Zq J m.h) J λ_ _=>go 2 ?_;refine Pe J (λa=>?_) (λa=>?_)
  .have b:=a;refine go 12 ?_;exact Yp d (i:Int) results168 J (by rw [al_f O (Fa b)];exact aH (gE i)) Za
  .have b:=a;refine go 7 ⟨O,?_⟩;exact Ye (i+1) ⟨O1,λj k=>by rcases aN.1 k with e|e;exact g j e;subst e;exact Ks b⟩ O1 K1 aA
 .obtain rfl:i=l.length:=O;refine go 11 ?_;exact Yp d (-1) results168 J (by rw [al_t g];rfl) Za
theorem Znz(l:List Dh):Xp prog 104 #[v,.func (.func 124) #[] #[]] [Yl 3 Zbm v l] (.bool (!l.all ptT)):=by refine Zg func104 ntmps104 λf e c b=>go 9 ?_;refine cl 1 [1] (ix_pts l) λd a=>go 5 ?_;exact Yp b () results104 (by rw [a]) aA Za
theorem Zvr(v u:Value)(a b:List Dh)(e fl wv t:Int)(m:Bool):Xp prog 61 #[v,u,.agg #[.int .i64 e,.int .i64 fl,.int .i64 wv],.int .i64 t,.bool m] [Yl 3 Zbm v a,Yl 3 Zbm u b] (.int .i64 (lkE a b (e,fl,wv) t m)):=by
 refine Zg func61 ntmps61 λF D B f=>?_;refine Xz (Oa (i:=1) J Zl) (λs=>?_);refine Xz (Oa (i:=2) J Zl) λw=>go 2 ?_;refine Yj (Yg 3) λz _=>go 11 ?_;rcases Yln a b (e,fl,wv) t m with c|⟨c,d⟩|⟨c,d,g⟩|⟨c,d,g,h⟩|⟨c,d,g,h,j⟩|⟨c,d,g,h,j,k⟩|⟨c,d,g,h,j,k,l⟩|⟨c,d,g,h,j,k,l,o⟩|⟨c,d,g,h,j,k,l,o⟩
 .refine go 2<|kt c<|go 46 ?_;exact Yp f () results61 (by rw [Ze8 (Ylm c)]) aA Za
 .refine go 2<|kf c<|go 1 ?_;refine Gi 3 [] (Cy e fl wv) λ_ _=>?_;refine Di (dT (Qn J J) (aD (λb=>Value.bool (!b)) d)) J J<|go 43 ?_;exact Yp f () results61 (by rw [Ze8 (lk_f1 c d)]) aA Za
 .refine go 2<|kf c<|go 1 ?_;refine Gi 3 [] (Cy e fl wv) λ_ _=>?_;refine Di (dF (Qn J J) (aD (λb=>Value.bool (!b)) d)) J J<|go 4 ?_;refine ktg (aH g)<|go 38 ?_;exact Yp f () results61 (by rw [Ze8 (lk_f2 c d g)]) aA Za
 .refine go 2<|kf c<|go 1 ?_;refine Gi 3 [] (Cy e fl wv) λ_ _=>?_;refine Di (dF (Qn J J) (aD (λb=>Value.bool (!b)) d)) J J<|go 4 ?_;refine kfg (aE g)<|go 6<|ktg (aH h)<|go 31 ?_;exact Yp f () results61 (by rw [Ze8 (lk_f3 c d g h)]) aA Za
 .refine go 2<|kf c<|go 1 ?_;refine Gi 3 [] (Cy e fl wv) λ_ _=>?_;refine Di (dF (Qn J J) (aD (λb=>Value.bool (!b)) d)) J J<|go 4 ?_;refine kfg (aE g)<|go 6<|kfg (aE h)<|go 3<|ktg (aH j)<|go 27 ?_;exact Yp f () results61 (by rw [Ze8 (lk_f4 c d g h j)]) aA Za
 .refine go 2<|kf c<|go 1 ?_;refine Gi 3 [] (Cy e fl wv) λ_ _=>?_;refine Di (dF (Qn J J) (aD (λb=>Value.bool (!b)) d)) J J<|go 4 ?_;refine kfg (aE g)<|go 6<|kfg (aE h)<|go 3<|kfg (aE j)<|go 3<|ktg (aH k)<|go 23 ?_;exact Yp f () results61 (by rw [Ze8 (lk_f5 c d g h j k)]) aA Za
 .refine go 2<|kf c<|go 1 ?_;refine Gi 3 [] (Cy e fl wv) λ_ _=>?_;refine Di (dF (Qn J J) (aD (λb=>Value.bool (!b)) d)) J J<|go 4 ?_;refine kfg (aE g)<|go 6<|kfg (aE h)<|go 3<|kfg (aE j)<|go 3<|kfg (aE k)<|go 4 ?_;refine Gi 3 [1] (Znz a) λ_ _=>?_;refine dt (dT (Zes J J J) (aD (λb=>Value.bool (!b)) l))<|go 17 ?_;exact Yp f () results61 (by rw [Ze8 (lk_f6 c d g h j k l)]) aA Za
 .refine go 2<|kf c<|go 1 ?_;refine Gi 3 [] (Cy e fl wv) λ_ _=>?_;refine Di (dF (Qn J J) (aD (λb=>Value.bool (!b)) d)) J J<|go 4 ?_;refine kfg (aE g)<|go 6<|kfg (aE h)<|go 3<|kfg (aE j)<|go 3<|kfg (aE k)<|go 4 ?_;refine Gi 3 [1] (Znz a) λ_ _=>?_;refine dt (dF (Zes J J J) (aD (λb=>Value.bool (!b)) l))<|go 3 ?_;refine Gi 3 [2] (Znz b) λ_ _=>?_;refine dt (dT (Zes J J J) (aD (λb=>Value.bool (!b)) o))<|go 12 ?_;exact Yp f () results61 (by rw [Ze8 (lk_f7 c d g h j k l o)]) aA Za
 .refine go 2<|kf c<|go 1 ?_;refine Gi 3 [] (Cy e fl wv) λ_ _=>?_;refine Di (dF (Qn J J) (aD (λb=>Value.bool (!b)) d)) J J<|go 4 ?_;refine kfg (aE g)<|go 6<|kfg (aE h)<|go 3<|kfg (aE j)<|go 3<|kfg (aE k)<|go 4 ?_;refine Gi 3 [1] (Znz a) λ_ _=>?_;refine dt (dF (Zes J J J) (aD (λb=>Value.bool (!b)) l))<|go 3 ?_;refine Gi 3 [2] (Znz b) λ_ _=>?_;refine dt (dF (Zes J J J) (aD (λb=>Value.bool (!b)) o))<|go 12 ?_;refine Ze J (λq=>?_) (λq=>?_)
  .refine go 8 ?_;exact Yp f () results61 (by rw [lkE_7 (Yll c d g h j k l o) O]) aA Za
  .refine go 1 ?_;have p:=wv_t d;dsimp only at p;have y:=mg_b p.1 p.2.1 (n:=wv-1) O O;refine go 16 ⟨O,O,O,O,?_⟩;refine Ze J (λr=>?_) (λr=>?_)
   .refine go 8 ?_;exact Yp f () results61 (by rw [lkE_3 (Yll c d g h j k l o) O (by unfold lnd;omega)]) aA Za
   .refine go 9 ?_;exact Yp f () results61 (by rw [lkE_ok (Yll c d g h j k l o) O (by unfold lnd;omega)]) aA Za
end Go.Sky
