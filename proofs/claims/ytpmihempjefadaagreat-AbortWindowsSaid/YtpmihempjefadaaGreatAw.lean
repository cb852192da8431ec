/- The law: part 23. No conditions but those that each theorem names. -/
import Derived.Test.YtpmihempjefadaaGreatAw21
set_option linter.all false
set_option maxHeartbeats 4000000
namespace Go.Sky
def nul(g:Ze):Ze:=(g.1,((none,0,0),g.2.1.2),((none,0,0),g.2.2.1.2),((none,0,0),g.2.2.2.2))
def Zoy{ps b:List Ze}(h:ps.map Dn=b.map Dn):ps.map nul=b.map nul:=by
 have a:∀l:List Ze,l.map nul=(l.map Dn).map λu=>(u.1,((none,0,0),u.2.1),((none,0,0),u.2.2.1),((none,0,0),u.2.2.2)):=λl=>by rw [iB];rfl
 rw [a,a,h]
def Zoz{p:Ze->Bool}(a:∀g,p (nul g)=p g)(ps:List Ze):(ps.map nul).filter p=(ps.filter p).map nul:=by rw [List.filter_map];congr 1;exact aN (λq=>List.filter q ps) (funext a)
def nul_F(ps:List Ze):spF (ps.map nul)=spF ps:=by unfold spF;cases ps<;>rfl
def nul_L(ps:List Ze):spL (ps.map nul)=spL ps:=by unfold spL;rw [aW,aE,aE,eY];cases ps[ps.length-1]?<;>rfl
def Zkl(fr a:Int)(ps:List Ze):Pp fr a (ps.map nul)=Pp fr a ps:=by unfold Pp;rw [Zoz (λ_=>rfl),List.all_map];rfl
def Ye0(fr a:Int)(ps:List Ze):Cz fr a (ps.map nul)=Cz fr a ps:=by unfold Cz;rw [Zkl,Zoz (λ_=>rfl),iB];rfl
def Ylc(fr a:Int)(ps:List Ze):inn fr a (ps.map nul)=inn fr a ps:=by unfold inn;rw [Zoz (λ_=>rfl),iB];rfl
def Zx6(a b:List Ze):Ln (a.map nul) (b.map nul)=Ln a b:=by unfold Ln Zeh cmF cmL;simp only [nul_F,nul_L,Ylc]
def Zkm(ts:List Int)(ps:List Ze):∀n,Ze3 ts (ps.map nul) n=Ze3 ts ps n
 | 0=>rfl
 | n+1=>by simp only [Ze3,Zkm ts ps n,Ye0]
def Zm5(ts:List Int)(a b:List Ze):∀n,Ei ts (a.map nul) (b.map nul) n=Ei ts a b n
 | 0=>rfl
 | n+1=>by simp only [Ei,Zm5 ts a b n,Zkl]
def Zsd(a b:List Ze):Bs (a.map nul) (b.map nul)=Bs a b:=by unfold Bs Zt0 cmF cmL;rw [Zx6,Zm5];simp only [nul_F,nul_L]
def Zkk(a b:List Ze):Ec (a.map nul) (b.map nul)=Ec a b:=by unfold Ec;rw [Zsd]
def Yez(D n d:Int)(a b:List Ze):Gl D n d (a.map nul) (b.map nul)=Gl D n d a b:=by unfold Gl It;rw [Zsd,Zx6,Zkm,Zkm]
def Zx7(D n d:Int)(a b:List Ze):apZ D n d (a.map nul) (b.map nul)=apZ D n d a b:=by unfold apZ;rw [Zkk,Yez]
def apZ_un{D n d:Int}{a a' b c:List Ze}(e:a.map Dn=a'.map Dn)(f:b.map Dn=c.map Dn):apZ D n d a b=apZ D n d a' c:=by rw [<-Zx7 D n d a b,<-Zx7 D n d a' c,Zoy e,Zoy f]
def Yma{a a' b c:List Ze}(d:a.map Dn=a'.map Dn)(e:b.map Dn=c.map Dn):Ec a b=Ec a' c:=by rw [<-Zkk a b,<-Zkk a' c,Zoy d,Zoy e]
def Yf9{a b:Int}(e:-1048576<=a/\a<=1048576)(g:-1048576<=b/\b<=1048576)(k:Int):∀x∈Zaj a b (rwK k),Mr x:=by
 intro x c;unfold Zaj at c;rcases aZ.1 c with rfl|c
 .exact⟨O,O⟩
 .split at c
  .cases c
  .obtain⟨f,d,rfl⟩:=eV.1 c;have:=Zxn f d;have:=Zse f (b-a) ⟨O,O⟩ ⟨O,O⟩;exact⟨O,O⟩
def gl_gin{b c d f e g fr a k:Int}(l:ptB b c d=true)(m:ptB f e g=true)(q:0<=fr)(s:fr<a)(t:a<=3600000)(r:SL×SL×SL):Gin (glG b c d f e g fr a k r):=by obtain⟨h,i,j⟩:=Zam l;obtain⟨n,o,p⟩:=Zam m;exact⟨show Mr fr from⟨O,O⟩,show Mr a from⟨O,O⟩,show Mr (1:Int)from⟨O3,O3⟩,Yf9 h n k,Yf9 i o k,Yf9 j p k⟩
def Yl6{b c d f e h fr a k:Int}(m:ptB b c d=true)(n:ptB f e h=true)(i:0<=fr)(j:fr<a)(l:a<=3600000){r:SL×SL×SL}:∀g∈[glG b c d f e h fr a k r],Gin g:=λg o=>by rw [bZ.1 o];exact gl_gin m n i j l r
section
variable {ax ay az bx b2 bz:Int} {D s a T:Nat} (ha:ptB ax ay az=true) (hb:ptB bx b2 bz=true) (hT:1<=T/\T<=3600000)
include ha hb hT
end
end Go.Sky
namespace Go.Sky
section
variable {ax ay az fr to:Int} (ha:ptB ax ay az=true) (h0:0<=fr) (h1:fr<to) (h2:to<=3600000) (r:SL×SL×SL)
include ha h0 h1 h2
theorem hv_seB:seB (glG ax ay az ax ay az fr to 0 r)=true:=by
 obtain⟨a,b,c⟩:=Zam ha;have e:∀x,Zaj x x (rwK 0)=glC x x:=λx=>by rw [Yga];unfold Zaj;rw [aF rfl]
 unfold seB Zak Zur glG;dsimp only;rw [e,e,e,Zvq a a,Zvq b b,Zvq c c,Ygc];simp;omega
theorem Ylz:Xt [glG ax ay az ax ay az fr to 0 r]=true:=by have h:Zd3 [glG ax ay az ax ay az fr to 0 r] 0=true:=Zvd (hv_seB ha h0 h1 h2 r) rfl;unfold Xt;simp [h]
end
def lft(u:Zhs):Ze:=(u.1,((none,0,0),u.2.1),((none,0,0),u.2.2.1),((none,0,0),u.2.2.2))
theorem lft_un(a:List Zhs):(a.map lft).map Dn=a:=by rw [iB];exact nB _
abbrev sl0:SL×SL×SL:=((none,0,0),(none,0,0),(none,0,0))
def Zon(ps:List Ze)(w:Int×Int):List Ze:=(Cz w.1 w.2 ps).map lft
def Zjv(q:Yj)(w:Int×Int):List Ze:=[glG q.1 q.2.1 q.2.2 q.1 q.2.1 q.2.2 w.1 w.2 0 sl0]
abbrev Nv (ps:List Ze) (s:Zb5):Int×Int:=wnP (spF ps) (spL ps) s.1.1 s.1.2
def Zaz(ps:List Ze)(s:Zb5):Int:=if Zd5 (Nv ps s).1 (Nv ps s).2 ps=0 then(if Ec (Zon ps (Nv ps s)) (Zjv s.2 (Nv ps s))=0 then 0 else 7)else 7
def Zeu(ps:List Ze)(g:GdT)(s:Zb5):Bool:=decide (Zd5 (Nv ps s).1 (Nv ps s).2 ps=0) && apZ (g.1+g.2.1+1) 1 1 (Zon ps (Nv ps s)) (Zjv s.2 (Nv ps s))
section
variable {ps qs hs:List Ze} {g:GdT} {s:Zb5} {r:SL×SL×SL}
theorem off_c(h:Zd5 (Nv ps s).1 (Nv ps s).2 ps≠0):Zaz ps s=7/\Zeu ps g s=false:=by unfold Zaz Zeu;rw [aD h,aK h];exact⟨rfl,rfl⟩
theorem off_un(a:qs.map Dn=Cz (Nv ps s).1 (Nv ps s).2 ps)(r:SL×SL×SL) :
  Ec qs [glG s.2.1 s.2.2.1 s.2.2.2 s.2.1 s.2.2.1 s.2.2.2 (Nv ps s).1 (Nv ps s).2 0 r]=Ec (Zon ps (Nv ps s)) (Zjv s.2 (Nv ps s))/\
  apZ (g.1+g.2.1+1) 1 1 qs [glG s.2.1 s.2.2.1 s.2.2.2 s.2.1 s.2.2.1 s.2.2.2 (Nv ps s).1 (Nv ps s).2 0 r]=apZ (g.1+g.2.1+1) 1 1 (Zon ps (Nv ps s)) (Zjv s.2 (Nv ps s)):=by
 have h1:qs.map Dn=(Zon ps (Nv ps s)).map Dn:=by unfold Zon;rw [lft_un,a]
 exact⟨Yma h1 rfl,apZ_un h1 rfl⟩
theorem off_e(h:Zd5 (Nv ps s).1 (Nv ps s).2 ps=0)(h2:Ec (Zon ps (Nv ps s)) (Zjv s.2 (Nv ps s))≠0):Zaz ps s=7/\Zeu ps g s=false:=by unfold Zaz Zeu;rw [aF h,aD h2,ap_f h2,dH];exact⟨rfl,rfl⟩
theorem off_v(h:Zd5 (Nv ps s).1 (Nv ps s).2 ps=0)(h2:Ec (Zon ps (Nv ps s)) (Zjv s.2 (Nv ps s))=0):Zaz ps s=0/\Zeu ps g s=apZ (g.1+g.2.1+1) 1 1 (Zon ps (Nv ps s)) (Zjv s.2 (Nv ps s)):=by unfold Zaz Zeu;rw [aF h,aF h2,aI h,fJ];exact⟨rfl,rfl⟩
end
theorem sp_lt{ps:List Ze}(b:∀g∈ps,Gin g)(a:Xt ps=true):spF ps<spL ps:=by have h0:0<ps.length:=(Oh a).2.1;obtain⟨h1,h2⟩:=Yky b a h0;have c:ps.getD 0 G0∈ps:=Zi h0;have s:=Iz (b _ c) ((Cb b a).2.1 _ c);have:=s.t2;omega
structure OffH (ps:List Ze) (s:Zb5):Prop where
 r:spF ps<=(Nv ps s).1/\(Nv ps s).1<(Nv ps s).2/\(Nv ps s).2<=spL ps
 b:0<=(Nv ps s).1/\(Nv ps s).2<=3600000
theorem offH{ps:List Ze}{s:Zb5}(c:∀g∈ps,Gin g)(b:Xt ps=true)(f:Bv s.1.1 s.1.2=true):OffH ps s:=by obtain⟨h1,h2,h⟩:=Zz5 f;have a:=wn_ok (sp_lt c b) h2;obtain⟨d,i,j,e⟩:=Ydc c b;exact⟨a,mK d a.1,mK a.2.2 e⟩
theorem hv_glv{ps:List Ze}{s:Zb5}(a:Kk s.2=true)(h:OffH ps s):Zew s.2.1 s.2.2.1 s.2.2.2 s.2.1 s.2.2.1 s.2.2.2 (Nv ps s).1 (Nv ps s).2=true:=by rw [Znc a a h.b.1 h.r.2.1];exact aI h.b.2
theorem Yk9{ps qs:List Ze}{s:Zb5}(b:∀g∈ps,Gin g)(a:Xt ps=true)(h:OffH ps s)(h0:Zd5 (Nv ps s).1 (Nv ps s).2 ps=0)(c:qs.map Dn=Cz (Nv ps s).1 (Nv ps s).2 ps):Pat (Nv ps s).1 (Nv ps s).2 ps qs:=by
 refine lh_pat b a h.r ?_ c;unfold Zd5 at h0;split at h0
 .assumption
 .cases h0
theorem Yla{fr to:Int}{ps qs:List Ze}(a:ps.length<=5)(h:Pat fr to ps qs):qs.length<=5:=by rw [h.len];exact aB (gQ ..) a
end Go.Sky
namespace Go.Sky
open Go.Proofs.Tryz
open Go.Proofs
set_option synthInstance.maxHeartbeats 0
set_option synthInstance.maxSize 100000
set_option maxRecDepth 20000
set_option linter.unusedSimpArgs false
def Yiz{v:Value}(ps:List Ze)(g:GdT)(s:Zb5)(e:∀g∈ps,Gin g)(i:Xt ps=true)(n:ps.length<=5)(l:Zb4 g=true)(t:Bv s.1.1 s.1.2=true)(m:Kk s.2=true):Xj prog 111 #[Zcx g,v,Yg6 s] [Qi 6 Pz qG v ps] (.tuple #[.bool (Zeu ps g s),.int .i64 (Zaz ps s)]):=by
 refine Zd func111 ntmps111 λD B z h=>?_;have b:=offH (s:=s) e i t;obtain⟨w,x,y⟩:=grd_b l;refine go 2<|Zz (Zu 2) λbq _=>Zz (Zu 3) λr _=>go 9 ?_;refine cl 3 [1] (Zhr ps s.1.1 s.1.2 e i t) λ_ _=>go 14 ?_;refine cl 4 [1] (sm_Cut ps (Nv ps s).1 (Nv ps s).2 e i b.r (λg l=>Iz (e g l) ((Cb e i).2.1 g l)) (lh_M e i)) λu k=>go 14<|Zc J (λa=>?_) (λa=>?_)
 .refine go 8 ?_;exact Nn h () results111 (by rw [(off_c (g:=g) a).1,(off_c (g:=g) a).2]) aA Za
 .have d:Zd5 (Nv ps s).1 (Nv ps s).2 ps=0:=iD.1 a;have f:=Yk9 e i b d k;have o:=Yla n f;refine go 8 ?_;refine cl 5 [] (Yf7 s.2.1 s.2.2.1 s.2.2.2 (Nv ps s).1 (Nv ps s).2 (hv_glv m b)) λ⟨v,q⟩ _=>go 8 ?_;have p:=off_un (g:=g) k q;refine go 11 ⟨O,O,?_⟩;refine cl 5 [4,5] (Ydu u.2 [glG s.2.1 s.2.2.1 s.2.2.2 s.2.1 s.2.2.1 s.2.2.2 (Nv ps s).1 (Nv ps s).2 0 q] (g.1+g.2.1+1) f.gin (Yl6 m m b.b.1 b.r.2.1 b.b.2) f.pb (Ylz m b.b.1 b.r.2.1 b.b.2 _) o O8 (ds_in O O)) λ_ _=>go 14<|Zc J (λc=>?_) (λc=>?_)
  .refine go 8 ?_;exact Nn h () results111 (by have j:=off_e (g:=g) d (by rw [<-p.1];exact c);rw [j.1,j.2]) aA Za
  .refine go 10 ?_;exact Nn h () results111 (by have j:=off_v (g:=g) d (by rw [<-p.1];exact iD.1 c);rw [j.1,j.2,p.2]) aA Za
def ab_Off{v:Value}(ps:List Ze)(g:GdT)(s:Zb5)(j:∀g∈ps,Gin g)(f:Xt ps=true)(c:ps.length<=5)(i:Zb4 g=true)(h:Bv s.1.1 s.1.2=true)(k:Kk s.2=true):Xj prog 46 #[v,Zcx g,Yg6 s] [Qi 6 Pz qG v ps] (.tuple #[.bool (Zeu ps g s),.int .i64 (Zaz ps s)]):=by refine Zd func46 ntmps46 λn m l d=>go 2 ?_;refine Zz (Zu 2) λbq _=>Zz (Zu 3) λe _=>go 8 ?_;refine cl 3 [1] (Om j) λ_ _=>?_;refine dt (dF (Yz J J) (aN (λb=>Value.bool (!b)) f))<|go 2 ?_;refine Kj 3 [] (Za8 g) λ_ _=>?_;refine Fj (dF (Yz J J) (aN (λb=>Value.bool (!b)) i)) J J<|go 4 ?_;refine Kj 3 [] (Zd1 s.1.1 s.1.2) λ_ _=>?_;refine Fj (dF (Yz J J) (aN (λb=>Value.bool (!b)) h)) J J<|go 4 ?_;refine Kj 3 [] (Zht s.2.1 s.2.2.1 s.2.2.2) λ_ _=>?_;refine Fj (dF (Yz J J) (aN (λb=>Value.bool (!b)) k)) J J<|go 9 ?_;refine dt (Xp [(0,_)] J K2 (λa w hs=>Zwr))<|go 2 ?_;refine cl 3 [1] (Yiz ps g s j f c i h k) λ_ _=>go 7 ?_;exact Nn d () results46 J aA Za
def s7(g:Ze):Bool:=decide (g.2.1.2.length<=7) && decide (g.2.2.1.2.length<=7) && decide (g.2.2.2.2.length<=7)
def sf5(ps:List Ze):Bool:=(List.range ps.length).all λi=>decide (4<i) || s7 (ps.getD i G0)
def sfH(a:List Lo):Bool:=decide (a.length=0) || decide ((a.getD 0 Ia).2.length<=8)
def sfB(ps:List Ze)(b:List Yj)(a:List Lo):Bool:=sf5 ps && (decide (ps.length<=4) && (decide (b.length<=8) && (decide (a.length<=1) && sfH a)))
def s7_t{g:Ze}(a:g.2.1.2.length<=7)(b:g.2.2.1.2.length<=7)(c:g.2.2.2.2.length<=7):s7 g=true:=by unfold s7;rw [aI a,aI b,aI c];rfl
def s7_f{g:Ze}(h:¬(g.2.1.2.length<=7/\g.2.2.1.2.length<=7/\g.2.2.2.2.length<=7)):s7 g=false:=by
 cases hb:s7 g with
 | false=>rfl
 | true=>
  unfold s7 at hb;simp only [aQ,cZ]at hb;exact absurd ⟨hb.1.1,hb.1.2,hb.2⟩ h
def sf_f (ps:List Ze)(i:Nat){b:List Yj}{a:List Lo}(hi:i<ps.length)(c:i<=4)(h:s7 (ps.getD i G0)=false):sfB ps b a=false:=by have:sf5 ps=false:=eT.2 ⟨i,dA.2 hi,by rw [h,aK O];decide⟩;unfold sfB;rw [this];rfl
def sf_e{ps:List Ze}{b:List Yj}{a:List Lo}{n:Nat}(c:n=ps.length\/4<n)(h:∀k,k<n->s7 (ps.getD k G0)=true):sfB ps b a=(decide (ps.length<=4) && (decide (b.length<=8) && (decide (a.length<=1) && sfH a))):=by
 unfold sfB;rw [show sf5 ps=true from bF.2 λi hi=>by
  have hi:=dA.1 hi;rcases aX 4 i with q|q
  .rw [aI q];rfl
  .rw [h i O,oI]]
 rfl
section
variable {ps:List Ze} {po:List Yj} {ph:List Lo} {n:Nat}
theorem Yke(a:n=ps.length\/4<n)(h:∀k,k<n->s7 (ps.getD k G0)=true):sfB ps [] []=decide (ps.length<=4):=by rw [sf_e a h];cases decide (ps.length<=4)<;>rfl
end
def dcE(a:Bool)(oe:Int):Int:=if a=true then 0 else oe
def dcV(a:Bool)(oe:Int)(b w:Bool):Int:=if a=true then 3 else if oe≠0 then 0 else if b=true then 2 else if w=true then 1 else 0
theorem dc_2{oe:Int}(a w:Bool)(h:oe≠0):dcV false oe a w=0/\dcE false oe=oe:=by unfold dcV dcE;exact⟨by rw [aD bD,aF h],aD bD⟩
theorem dc_3{oe:Int}(w:Bool)(h:¬oe≠0):dcV false oe true w=2/\dcE false oe=0:=by unfold dcV dcE;exact⟨by rw [aD bD,aD h,aF rfl],by rw [aD bD];omega⟩
theorem dc_4{oe:Int}(h:¬oe≠0):dcV false oe false true=1/\dcE false oe=0:=by unfold dcV dcE;exact⟨by rw [aD bD,aD h,aD bD,aF rfl],by rw [aD bD];omega⟩
theorem dc_5{oe:Int}(h:¬oe≠0):dcV false oe false false=0/\dcE false oe=0:=by unfold dcV dcE;exact⟨by rw [aD bD,aD h,aD bD,aD bD],by rw [aD bD];omega⟩
def wiS(g:GdT)(s:Zb5):Bool:=decide (s.1.2-s.1.1>g.2.2)
def wiS_t{g:GdT}{s:Zb5}(h:s.1.2-s.1.1>g.2.2):wiS g s=true:=aI h
def wiS_f{g:GdT}{s:Zb5}(h:¬s.1.2-s.1.1>g.2.2):wiS g s=false:=aK h
abbrev dcR (ps:List Ze) (fo:SL) (po:List Yj) (ph:List Lo) (fl a:Int) (g:GdT) (s:Zb5):Value:= .tuple #[.int .i64 (dcV (ouB fo po ph fl a g.2.1 s.2) (Zaz ps s) (Zeu ps g s) (wiS g s)),.int .i64 (dcE (ouB fo po ph fl a g.2.1 s.2) (Zaz ps s))]
section
variable {ps:List Ze} {fo:SL} {po:List Yj} {ph:List Lo} {fl fu:Int} {g:GdT} {s:Zb5}
theorem Ztq(a:ouB fo po ph fl fu g.2.1 s.2=true):Value.tuple #[.int .i64 3,.int .i64 0]=dcR ps fo po ph fl fu g s:=by rw [dcR,a];rfl
theorem Ztp(b:ouB fo po ph fl fu g.2.1 s.2=false)(a:Zaz ps s≠0):Value.tuple #[.int .i64 0,.int .i64 (Zaz ps s)]=dcR ps fo po ph fl fu g s:=by rw [dcR,b,(dc_2 _ _ a).1,(dc_2 false false a).2]
theorem Zto(b:ouB fo po ph fl fu g.2.1 s.2=false)(a:¬Zaz ps s≠0)(c:Zeu ps g s=true):Value.tuple #[.int .i64 2,.int .i64 0]=dcR ps fo po ph fl fu g s:=by rw [dcR,b,c,(dc_3 _ a).1,(dc_3 false a).2]
theorem Ztn(b:ouB fo po ph fl fu g.2.1 s.2=false)(a:¬Zaz ps s≠0)(c:Zeu ps g s=false)(d:s.1.2-s.1.1>g.2.2):Value.tuple #[.int .i64 1,.int .i64 0]=dcR ps fo po ph fl fu g s:=by rw [dcR,b,c,wiS_t d,(dc_4 a).1,(dc_4 a).2]
theorem Ztm(b:ouB fo po ph fl fu g.2.1 s.2=false)(a:¬Zaz ps s≠0)(c:Zeu ps g s=false)(d:¬s.1.2-s.1.1>g.2.2):Value.tuple #[.int .i64 0,.int .i64 0]=dcR ps fo po ph fl fu g s:=by rw [dcR,b,c,wiS_f d,(dc_5 a).1,(dc_5 a).2]
end
end Go.Sky
namespace Go.Sky
open Go.Proofs.Tryz
open Go.Proofs
set_option synthInstance.maxHeartbeats 0
set_option synthInstance.maxSize 100000
set_option maxRecDepth 20000
set_option linter.unusedSimpArgs false
variable{v:Value}{sc:Nat->Prop}{i:Nat}
theorem Aw(ps:List Ze):Xj prog 38 #[v,.agg #[.slice none 0 0,.slice none 0 0,.int .i64 0,.int .i64 0]] [Qi 6 Pz qG v ps] (.bool (sfB ps [] [])):=by
 refine Zd func38 ntmps38 λq sc p a=>?_;refine Lh (Ev (i:=1) J Yf) (λm=>?_);refine Zr (Hb 90 3 23 Xa)<|Zr (Na 90 J J pPt)<|go 2<|Zz (Zu 2) λbq _=>go 10 ?_;refine lp (G:=Nat) [0,3] [0,1,90,2] (λi=>[(5,.int .i64 (i:Int))]) (λi=>[]) (λi=>(i<=ps.length/\i<=5)/\(∀k,k<i->s7 (ps.getD k G0)=true)) (λi=>ps.length-i) 0 ⟨O1,λk b=>absurd b (cK k)⟩ K1 aA ?_;rintro i ⟨hi,b⟩;refine go 8<|Zj 10 J (λh=>?_) (λh=>?_)
 .refine go 5<|Zc J (λe=>?_) (λe=>?_)
  .refine go 5<|Zr (Gm (ps.getD i G0) ((ps.getD i G0).2.1) 1 51 J J Zi O8)<|Zr (Gm (ps.getD i G0) ((ps.getD i G0).2.2.1) 1 52 J J Zi O8)<|Zr (Gm (ps.getD i G0) ((ps.getD i G0).2.2.2) 1 53 J J Zi O8)<|go 3 ?_;refine dt (Ym 1 i J J J J Yf Zfb Zbx J)<|dt (Zgh 1 J J J Yf Zfc J Zqt J)<|dt (Zgg 1 G0 J J J Yf isAgg40 J)<|go 3 ?_;refine Zj 23 J (λj=>?_) (λj=>?_)
   .refine go 31 ?_;exact Yx a () results38 (by rw [sf_f ps i O O (s7_f O)]) aA Za
   .refine go 2 ?_;refine Fj (Ym 1 i J J J J Yf Zfb Zbx J) J J<|Fj (Zgh 1 J J J Yf Zfc J Zqt J) J J<|Fj (Zgg 1 G0 J J J Yf isAgg40 J) J J<|go 4 ?_;refine Zj 32 J (λc=>?_) (λc=>?_)
    .refine go 22 ?_;exact Yx a () results38 (by rw [sf_f ps i O O (s7_f O)]) aA Za
    .refine go 2 ?_;refine Fj (Ym 1 i J J J J Yf Zfb Zbx J) J J<|Fj (Zgh 1 J J J Yf Zfc J Zqt J) J J<|Fj (Zgg 1 G0 J J J Yf isAgg40 J) J J<|go 5 ?_;refine Zc J (λf=>?_) (λf=>?_)
     .refine go 11 ?_;exact Yx a () results38 (by rw [sf_f ps i O O (s7_f O)]) aA Za
     .refine go 8 ⟨O,?_⟩;exact Yl (i+1) ⟨O1,λk o=>by rcases aC.1 o with g|g;exact b k g;subst g;exact s7_t O O O⟩ O1 K1 aA
  .refine go 11<|Zj 44 J (λl=>?_) (λl=>?_)
   .refine go 3<|ktg (aI O3)<|go 5<|ktg (aI O3)<|go 5<|ktg (aI O3)<|go 13 ?_;exact Yx a () results38 (vB ((Yke (n:=i) O b).trans (by first|exact aI O|exact aK O))) aA Za
   .refine go 29 ?_;exact Yx a () results38 (vB ((Yke (n:=i) O b).trans (by first|exact aI O|exact aK O))) aA Za
 .refine go 17<|Zj 44 J (λd=>?_) (λd=>?_)
  .refine go 3<|ktg (aI O3)<|go 5<|ktg (aI O3)<|go 5<|ktg (aI O3)<|go 13 ?_;exact Yx a () results38 (vB ((Yke (n:=i) O b).trans (by first|exact aI O|exact aK O))) aA Za
  .refine go 29 ?_;exact Yx a () results38 (vB ((Yke (n:=i) O b).trans (by first|exact aI O|exact aK O))) aA Za
theorem Zns(ps:List Ze)(fo m:SL)(l:List Yj)(k:List Lo)(fl d:Int)(g:GdT)(s:Zb5)(z:∀g∈ps,Gin g)(x:Xt ps=true)(p:ps.length<=5)(y:Cd l k fl d=true)(o:Zb4 g=true)(n:Bv s.1.1 s.1.2=true)(q:Kk s.2=true):Xj prog 53 #[v,.agg #[Xo fo,Xo m,.int .i64 fl,.int .i64 d],Zcx g,Yg6 s] [Qi 6 Pz qG v ps,Ys 3 Xa (Xo fo) l,Qi 1 (Ob (α:=List Yj)) qPg (Xo m) k] (dcR ps fo l k fl d g s):=by
 refine Zd func53 ntmps53 λH sc G c=>?_;obtain⟨B,D,F⟩:=Zz5 n;refine go 2<|Zz (Zu 4) λbq _=>Zz (Zu 5) λr _=>Zz (Zu 6) λt _=>go 8 ?_;refine cl 6 [1] (Om z) λ_ _=>?_;refine dt (dF (Yz J J) (aN (λb=>Value.bool (!b)) x))<|go 2 ?_;refine Kj 6 [2,3] (Zct fo m l k fl d) λ_ _=>?_;refine Fj (dF (Yz J J) (aN (λb=>Value.bool (!b)) y)) J J<|go 3 ?_;refine Kj 6 [] (Za8 g) λ_ _=>?_;refine Fj (dF (Yz J J) (aN (λb=>Value.bool (!b)) o)) J J<|go 4 ?_;refine Kj 6 [] (Zd1 s.1.1 s.1.2) λ_ _=>?_;refine Fj (dF (Yz J J) (aN (λb=>Value.bool (!b)) n)) J J<|go 4 ?_;refine Kj 6 [] (Zht s.2.1 s.2.2.1 s.2.2.2) λ_ _=>?_;refine Fj (dF (Yz J J) (aN (λb=>Value.bool (!b)) q)) J J<|go 9 ?_;refine dt (Xp [(0,_)] J K2 (λa w hs=>Zwr))<|Zz (Zx 7) λu _=>go 10 ?_;refine cl 7 [2,3] (Zl2 fo m l k fl d g s.2 y o q) λ_ _=>go 2<|Yp J (λe=>?_) (λe=>?_)
 .refine go 8 ?_;exact Nn c () results53 (by first|exact(Ztq ‹_›).symm|exact(Ztp ‹_› ‹_›).symm|exact(Zto ‹_› ‹_› ‹_›).symm|exact(Ztn ‹_› ‹_› ‹_› ‹_›).symm|exact(Ztm ‹_› ‹_› ‹_› ‹_›).symm) aA Za
 .refine go 7 ?_;refine cl 7 [1] (Yiz ps g s z x p o n q) λ_ _=>go 16<|Zc J (λf=>?_) (λf=>?_)
  .refine go 10 ?_;exact Nn c () results53 (by first|exact(Ztq ‹_›).symm|exact(Ztp ‹_› ‹_›).symm|exact(Zto ‹_› ‹_› ‹_›).symm|exact(Ztn ‹_› ‹_› ‹_› ‹_›).symm|exact(Ztm ‹_› ‹_› ‹_› ‹_›).symm) aA Za
  .refine go 6<|Yp J (λh=>?_) (λh=>?_)
   .refine go 9 ?_;exact Nn c () results53 (by first|exact(Ztq ‹_›).symm|exact(Ztp ‹_› ‹_›).symm|exact(Zto ‹_› ‹_› ‹_›).symm|exact(Ztn ‹_› ‹_› ‹_› ‹_›).symm|exact(Ztm ‹_› ‹_› ‹_› ‹_›).symm) aA Za
   .refine go 16 ⟨O,?_⟩;refine Zc J (λj=>?_) (λj=>?_)
    .refine go 9 ?_;exact Nn c () results53 (by first|exact(Ztq ‹_›).symm|exact(Ztp ‹_› ‹_›).symm|exact(Zto ‹_› ‹_› ‹_›).symm|exact(Ztn ‹_› ‹_› ‹_› ‹_›).symm|exact(Ztm ‹_› ‹_› ‹_› ‹_›).symm) aA Za
    .refine go 10 ?_;exact Nn c () results53 (by first|exact(Ztq ‹_›).symm|exact(Ztp ‹_› ‹_›).symm|exact(Zto ‹_› ‹_› ‹_›).symm|exact(Ztn ‹_› ‹_› ‹_› ‹_›).symm|exact(Ztm ‹_› ‹_› ‹_› ‹_›).symm) aA Za
theorem s_dnil{β:Type}{N:Nat}{env:Qj}{H:Hp}(k:Nat)(enc:β->Value)(q:β->Pc)(i:Nat):∀a w,Sat N sc env H a w->Sat N sc env ((i,Qi k enc q (Xo (none,0,0)) [])::H) a w:=λa w hs=>
 hs.add i _ ⟨Bd k enc w,λz d=>by cases d⟩ (λf g _ _ Lf b c e=>by
  rcases c with c|⟨z,d,_⟩
  .exact absurd rfl c.1
  .cases d) (λb c=>by
  rcases c with c|⟨z,d,_⟩
  .exact absurd rfl c.1
  .cases d)
abbrev Yg7 (b:Int×Int):Value:= .agg #[.int .i64 b.1,.int .i64 b.2]
abbrev exG (q:SL×SL×SL):Ze:=glG 0 0 100 1000 0 100 0 10000 1 q
def Zlg:List Yj:=[(-50,-50,0),(1050,-50,0),(1050,50,0),(-50,50,0)]
abbrev gd5:GdT:=(20,5,500)
def xB:List (Int×Int):=[(100,200),(300,300),(10000,12000)]
def xV:List Yj:=[(100,0,126),(105,0,125),(140,0,100)]
def xW:List Yj:=[(500,55,100),(500,56,100),(500,0,206)]
def lt3(h:i<3):i=0\/i=1\/i=2:=O
section
variable (q:SL×SL×SL)
theorem Ylw:∀g∈[exG q],Gin g:=λg b=>by rw [bZ.1 b];exact⟨show Mr (0:Int)from⟨O3,O3⟩,show Mr (10000:Int)from⟨O3,O3⟩,show Mr (1:Int)from⟨O3,O3⟩,show ∀a∈Zaj 0 1000 (rwK 1),Mr a from Zhe O3,show ∀a∈Zaj 0 0 (rwK 1),Mr a from Zhe O3,show ∀a∈Zaj 100 100 (rwK 1),Mr a from Zhe O3⟩
def Ylv:Xt [exG q]=true:=O6
def kx_f:Cd Zlg [] 0 200=true:=O6
def Zyp:Zb4 gd5=true:=O6
theorem kx_b(h:i<3):Bv (xB.getD i (0,0)).1 (xB.getD i (0,0)).2=true:=by rcases lt3 h with rfl|rfl|rfl<;>kernel_rfl
theorem kx_w(h:i<3):(wnP (spF [exG q]) (spL [exG q]) (xB.getD i (0,0)).1 (xB.getD i (0,0)).2).1=([100,300,9999]:List Int).getD i 0/\(wnP (spF [exG q]) (spL [exG q]) (xB.getD i (0,0)).1 (xB.getD i (0,0)).2).2=([200,301,10000]:List Int).getD i 0:=by rcases lt3 h with rfl|rfl|rfl<;>exact⟨O6,O6⟩
theorem kx_v(h:i<3):Kk (xV.getD i Yr)=true:=by rcases lt3 h with rfl|rfl|rfl<;>kernel_rfl
theorem kx_oe(h:i<3):Zaz [exG q] ((1000,1100),xV.getD i Yr)=0:=by rcases lt3 h with rfl|rfl|rfl<;>kernel_rfl
theorem kx_ov(h:i<3):Zeu [exG q] gd5 ((1000,1100),xV.getD i Yr)=decide ((i:Int)≠1):=by rcases lt3 h with rfl|rfl|rfl<;>kernel_rfl
theorem kx_u(h:i<3):Kk (xW.getD i Yr)=true:=by rcases lt3 h with rfl|rfl|rfl<;>kernel_rfl
theorem kx_ou{fo:SL}(h:i<3):ouB fo Zlg [] 0 200 5 (xW.getD i Yr)=decide ((i:Int)>0):=by rcases lt3 h with rfl|rfl|rfl<;>kernel_rfl
def kx_d1(fo:SL):dcV (ouB fo Zlg [] 0 200 5 (100,0,100)) (Zaz [exG q] ((1000,1600),(100,0,100))) (Zeu [exG q] gd5 ((1000,1600),(100,0,100))) (wiS gd5 ((1000,1600),(100,0,100)))=1/\dcE (ouB fo Zlg [] 0 200 5 (100,0,100)) (Zaz [exG q] ((1000,1600),(100,0,100)))=0:=⟨O6,O6⟩
def kx_d2(fo:SL):dcV (ouB fo Zlg [] 0 200 5 (100,0,100)) (Zaz [exG q] ((1000,1400),(100,0,100))) (Zeu [exG q] gd5 ((1000,1400),(100,0,100))) (wiS gd5 ((1000,1400),(100,0,100)))=0/\dcE (ouB fo Zlg [] 0 200 5 (100,0,100)) (Zaz [exG q] ((1000,1400),(100,0,100)))=0:=⟨O6,O6⟩
end
end Go.Sky
namespace Go.Sky
open Go.Proofs
def pBd:Enc Tryz.prog 77 2 Yg7:=Enc.agg O3 Tryz.sizeOf77 Tryz.isAgg77 (λx=>⟨[.int .i64 x.1,.int .i64 x.2],rfl,rfl,O10⟩)
@[reducible,instance] def encBdI:EncT Tryz.prog 77 2 Yg7:=⟨pBd⟩
open Go.Proofs.Tryz
set_option synthInstance.maxHeartbeats 0
set_option synthInstance.maxSize 100000
set_option maxRecDepth 20000
set_option linter.unusedSimpArgs false
def l44_ex:Cal prog 106 #[] [] true (G:=Value×SL×(SL×SL×SL)) (λr=>True) (λr=> .tuple #[r.1,.agg #[Xo r.2.1,.slice none 0 0,.int .i64 0,.int .i64 200],.agg #[.int .i64 20,.int .i64 5,.int .i64 500]]) (λr=>[Qi 6 Pz qG r.1 [exG r.2.2],Ys 3 Xa (Xo r.2.1) Zlg]):=by refine Zd func106 ntmps106 λj i f b=>go 3 ?_;refine Zz (Zx 1) λbq _=>Zz (Zx 2) λd _=>go 4 ?_;refine dt (Xp [(2,_)] J K2 (λa w hs=>b23_2 ((Zl J) a w hs)))<|dt (Xp [(0,_),(2,_)] J K4 (λa w hs=>Ze5 ((Zl J) a w hs) ((Zl J) a w hs)))<|cl 3 [] (Yl5 0 0 100 1000 0 100 0 10000 O3) λ⟨v,q⟩ _=>go 9 ?_;refine dt (Xp [(0,_),(1,_)] J K4 (λa w hs=>Zhp ((Zl J) a w hs) ((Zl J) a w hs)))<|dt (Xp [(0,_),(1,_)] J K4 (λa w hs=>Zhp ((Zl J) a w hs) ((Zl J) a w hs)))<|dt (Xp [(0,_),(1,_)] J K4 (λa w hs=>Zhp ((Zl J) a w hs) ((Zl J) a w hs)))<|dt (Xp [(0,_),(1,_)] J K4 (λa w hs=>Zhp ((Zl J) a w hs) ((Zl J) a w hs)))<|tt (Oe [(0,_),(1,_),(2,_),(3,_)] 4 (enc:=Xa) Zlg J J K8 Fq ti23 J J J J J pPt.cells J J f.h) (λh _=>?_);refine dt (Xp [(0,_),(3,_)] J K4 (λa w hs=>b81_03 ((Ok 4 J (Yo pPt)) a w hs) ((Zl J) a w hs)))<|Zz (Zx 5) λe _=>go 4 ?_;refine Ng [5] [5]<|Zw 0 [(0,0),(1,0),(2,0),(3,0),(4,1),(5,3)]<|go 2 ?_;refine Qb J J (Ft (Xp [(0,_),(1,_),(2,_)] J K6 (λa w hs=>Yns ((Zl J) a w hs) ((Zl J) a w hs) ((Zl J) a w hs))) K1)<|go 4 ?_;refine Yq<|go 2<|Xg (Na 4 J J pPt) ?_;refine Znu (Ml 4 J Zk) (λg c=>?_);subst c;exact xe3 b (_,g,q) results106 J aA (Kd 3 (Kd 4 Za))
def Zdr:Xj prog 39 #[] [] (.bool true):=by
 refine Zd func39 ntmps39 λy x d j=>go 7 ?_;refine cl 1 [] l44_ex λ⟨v,c,q⟩ _=>?_;refine Nk (s_dnil 1 (Ob (α:=List Yj)) qPg 75)<|go 4<|Zz (Zx 3) λbq _=>Zz (Zx 4) λk _=>go 8 ?_;refine dt (Xp [(0,_),(1,_)] J K4 (λa w hs=>Zho ((Zl J) a w hs) ((Zl J) a w hs)))<|dt (Xp [(0,_),(1,_)] J K4 (λa w hs=>Zho ((Zl J) a w hs) ((Zl J) a w hs)))<|dt (Xp [(0,_),(1,_)] J K4 (λa w hs=>Zho ((Zl J) a w hs) ((Zl J) a w hs)))<|tt (Oe [(0,_),(1,_),(2,_)] 5 (enc:=Yg7) xB J J K6 underlying191 ti77 J J Ygo J J pBd.cells J J d.h) λp _=>go 5 ?_;refine lp (G:=Nat) [1,2,3,29,30] [0,1,2,75,3,4,5] (λi=>[(31,.int .i64 (i:Int))]) (λi=>[]) (λi=>i<=3) (λi=>3-i) 0 O1 K1 aA ?_;rintro i hi;refine go 6<|Zc J (λe=>?_) (λe=>?_)
 .have b:i<3:=by have o:((xB.length:Nat):Int)=3:=rfl;omega
  refine go 7 ?_;refine dt (Ym 5 i J J J J (Yo pBd) underlying191 sizeOf77 J b)<|dt (Of 5 (0,0) J J J (Yo pBd) pBd b)<|Zz (Zx 6) λl _=>go 8 ?_;refine cl 6 [1] (Zhr [exG q] (xB.getD i (0,0)).1 (xB.getD i (0,0)).2 (Ylw _) (Ylv _) (kx_b b)) λ_ _=>go 12<|kf (aK (λh=>h J))<|go 2 ?_;refine gtt (Oe [(0,_),(1,_),(2,_)] 7 (enc:=Xf) ([100,300,9999]:List Int) J J K6 Le ti3 J J J J J pZ.cells J J d.h) J J J J λr _=>go 1 ?_;refine Fj (Ym 7 i J J J J (Yo pZ) Le Dx J b) J J<|go 1 ⟨b,?_⟩;refine kfg (aK (λh=>h (kx_w q b).1))<|go 3 ?_;refine gtt (Oe [(0,_),(1,_),(2,_)] 8 (enc:=Xf) ([200,301,10000]:List Int) J J K6 Le ti3 J J J J J pZ.cells J J d.h) J J J J λs _=>go 1 ?_;refine Fj (Ym 8 i J J J J (Yo pZ) Le Dx J b) J J<|go 1 ⟨b,?_⟩;refine kfg (aK (λh=>h (kx_w q b).2))<|go 11 ⟨O,?_⟩;exact Yl (i+1) O1 O1 K1 aA
 .refine go 8 ?_;refine dt (Xp [(0,_),(2,_)] J K4 (λa w hs=>Ze5 ((Zl J) a w hs) ((Zl J) a w hs)))<|dt (Xp [(0,_),(2,_)] J K4 (λa w hs=>Ze5 ((Zl J) a w hs) ((Zl J) a w hs)))<|dt (Xp [(0,_),(2,_)] J K4 (λa w hs=>Ze5 ((Zl J) a w hs) ((Zl J) a w hs)))<|tt (Oe [(0,_),(1,_),(2,_)] 9 (enc:=Xa) xV J J K6 Fq ti23 J J J J J pPt.cells J J d.h) λt _=>go 5 ?_;refine lp (G:=Nat) [1,2,3,65,66] [0,1,2,75,3,4,5,9] (λi=>[(67,.int .i64 (i:Int))]) (λi=>[]) (λi=>i<=3) (λi=>3-i) 0 O1 K1 aA ?_;rintro i hi;refine go 6<|Zc J (λf=>?_) (λf=>?_)
  .have b:i<3:=by have o:((xV.length:Nat):Int)=3:=rfl;omega
   refine go 7 ?_;refine dt (Ym 9 i J J J J (Yo pPt) Fq Aa J b)<|dt (Of 9 Yr J J J (Yo pPt) pPt b)<|Zz (Zx 10) λm _=>go 8 ?_;refine dt (Xp [(0,_),(1,_)] J K4 (λa w hs=>Zho ((Zl J) a w hs) ((Zl J) a w hs)))<|go 1 ?_;refine dt (Xp [(0,_),(1,_)] J K4 (λa w hs=>Zwq))<|cl 10 [1] (ab_Off [exG q] gd5 ((1000,1100),xV.getD i Yr) (Ylw _) (Ylv _) O8 Zyp (show Bv 1000 1100=true by decide) (kx_v b)) λ_ _=>go 10 ?_;refine kf (aK (λh=>h (kx_oe q b)))<|go 4<|kfg (by rw [kx_ov q b];exact jB _)<|go 11 ⟨O,?_⟩;exact Yl (i+1) O1 O1 K1 aA
  .refine go 8 ?_;refine dt (Xp [(0,_),(1,_),(2,_)] J K6 (λa w hs=>Zz6 ((Zl J) a w hs) ((Zl J) a w hs) ((Zl J) a w hs)))<|dt (Xp [(0,_),(1,_),(2,_)] J K6 (λa w hs=>Zz6 ((Zl J) a w hs) ((Zl J) a w hs) ((Zl J) a w hs)))<|dt (Xp [(0,_),(2,_)] J K4 (λa w hs=>Ze5 ((Zl J) a w hs) ((Zl J) a w hs)))<|tt (Oe [(0,_),(1,_),(2,_)] 11 (enc:=Xa) xW J J K6 Fq ti23 J J J J J pPt.cells J J d.h) λu _=>go 5 ?_;refine lp (G:=Nat) [1,2,3,93,94] [0,1,2,75,3,4,5,9,11] (λi=>[(95,.int .i64 (i:Int))]) (λi=>[]) (λi=>i<=3) (λi=>3-i) 0 O1 K1 aA ?_;rintro i hi;refine go 6<|Zc J (λg=>?_) (λg=>?_)
   .have b:i<3:=by have o:((xW.length:Nat):Int)=3:=rfl;omega
    refine go 7 ?_;refine dt (Ym 11 i J J J J (Yo pPt) Fq Aa J b)<|dt (Of 11 Yr J J J (Yo pPt) pPt b)<|Zz (Zx 12) λn _=>go 9 ?_;refine cl 12 [2,75] (Zwz c (none,0,0) Zlg [] 0 200 gd5 (xW.getD i Yr) kx_f Zyp (kx_u b)) λ_ _=>go 10<|kf (aK (λh=>h J))<|go 4<|kfg (by rw [kx_ou b];exact jB _)<|go 11 ⟨O,?_⟩;exact Yl (i+1) O1 O1 K1 aA
   .refine go 10 ?_;refine dt (Xp [(0,_),(1,_)] J K4 (λa w hs=>Zho ((Zl J) a w hs) ((Zl J) a w hs)))<|dt (Xp [(0,_),(2,_)] J K4 (λa w hs=>Ze5 ((Zl J) a w hs) ((Zl J) a w hs)))<|dt (Xp [(0,_),(1,_)] J K4 (λa w hs=>Zwq))<|cl 12 [1,2,75] (Zns [exG q] c (none,0,0) Zlg [] 0 200 gd5 ((1000,1600),(100,0,100)) (Ylw _) (Ylv _) O8 kx_f Zyp O3 O3) λ_ _=>go 12 ?_;refine dt (Xp [(0,_),(1,_)] J K4 (λa w hs=>Zho ((Zl J) a w hs) ((Zl J) a w hs)))<|dt (Xp [(0,_),(2,_)] J K4 (λa w hs=>Ze5 ((Zl J) a w hs) ((Zl J) a w hs)))<|dt (Xp [(0,_),(1,_)] J K4 (λa w hs=>Zwq))<|cl 12 [1,2,75] (Zns [exG q] c (none,0,0) Zlg [] 0 200 gd5 ((1000,1400),(100,0,100)) (Ylw _) (Ylv _) O8 kx_f Zyp O3 O3) λ_ _=>go 10 ?_;refine kt (aI (kx_d1 q c).2)<|go 2<|ktg (aI (kx_d2 q c).2)<|go 3<|ktg (aI (kx_d1 q c).1)<|go 3<|ktg (aI (kx_d2 q c).1)<|go 5 ?_;exact Yx j () results39 J aA Za
def Zvj(v:Value)(ps:List Ze)(g:GdT)(lo hi:Int)(e:∀g∈ps,Gin g)(hs:sfB ps [] []=false):Xj prog 8 #[v,Zcx g,.agg #[.int .i64 lo,.int .i64 hi]] [Qi 6 Pz qG v ps] (.bool true):=by refine Zd func8 ntmps8 λi h f c=>go 2 ?_;refine Zz (Zu 2) λbq _=>Zz (Zu 3) λd _=>go 7 ?_;refine dt (Xp [] J aA (λa w hs=>Ynr))<|cl 3 [1] (Aw ps) λ_ _=>?_;refine dt (dT (Yz J J) (aN (λb=>Value.bool (!b)) hs))<|go 5 ?_;refine cl 3 [] Zdr λ_ _=>go 5 ?_;exact Yx c () results8 J aA Za
def Yfn(v:Value)(ps:List Ze)(g:GdT)(lo hi:Int)(f:∀g∈ps,Gin g)(hs:sfB ps [] []=true)(e:Xt ps=false):Xj prog 8 #[v,Zcx g,.agg #[.int .i64 lo,.int .i64 hi]] [Qi 6 Pz qG v ps] (.bool true):=by refine Zd func8 ntmps8 λj i h c=>go 2 ?_;refine Zz (Zu 2) λbq _=>Zz (Zu 3) λd _=>go 7 ?_;refine dt (Xp [] J aA (λa w hs=>Ynr))<|cl 3 [1] (Aw ps) λ_ _=>?_;refine dt (dF (Yz J J) (aN (λb=>Value.bool (!b)) hs))<|go 9 ?_;refine cl 3 [1] (Zuj ps lo hi f e) λ_ _=>go 11<|Pd (λ_=>False) [(0,0),(2,0),(1,1),(3,1),(4,0)]<|go 2<|Qk (Zv 3 [] (Za8 g)) λ_ _=>Qk (Zv 3 [] (Zhd g)) λ_ _=>?_;refine Qb J J (Pq (dF (Zzh J J J underlying4) (vB (jB _))))<|go 9 ?_;refine cl 3 [1] (Om f) λ_ _=>?_;refine dt (dT (Yz J J) (aN (λb=>Value.bool (!b)) e))<|go 11 ?_;refine kt (aI J)<|go 2<|ktg (aI J)<|go 3<|ktg (aI J)<|go 2 ?_;refine Kj 3 [] Zdr λ_ _=>go 6 ?_;exact Yx c () results8 J aA Za
def Yfo(v:Value)(ps:List Ze)(g:GdT)(lo hi:Int)(h:∀g∈ps,Gin g)(hs:sfB ps [] []=true)(e:Xt ps=true)(f:Bv lo hi=false):Xj prog 8 #[v,Zcx g,.agg #[.int .i64 lo,.int .i64 hi]] [Qi 6 Pz qG v ps] (.bool true):=by refine Zd func8 ntmps8 λk j i c=>go 2 ?_;refine Zz (Zu 2) λbq _=>Zz (Zu 3) λd _=>go 7 ?_;refine dt (Xp [] J aA (λa w hs=>Ynr))<|cl 3 [1] (Aw ps) λ_ _=>?_;refine dt (dF (Yz J J) (aN (λb=>Value.bool (!b)) hs))<|go 9 ?_;refine cl 3 [1] (Zuk ps lo hi h e f) λ_ _=>go 11<|Pd (λ_=>False) [(0,0),(2,0),(1,1),(3,1),(4,0)]<|go 2<|Qk (Zv 3 [] (Za8 g)) λ_ _=>Qk (Zv 3 [] (Zhd g)) λ_ _=>?_;refine Qb J J (Pq (dF (Zzh J J J underlying4) (vB (jB _))))<|go 9 ?_;refine cl 3 [1] (Om h) λ_ _=>?_;refine dt (dF (Yz J J) (aN (λb=>Value.bool (!b)) e))<|go 2 ?_;refine Kj 3 [] (Zk3 lo hi) λ_ _=>?_;refine Fj (dT (Yz J J) (aN (λb=>Value.bool (!b)) f)) J J<|go 7 ?_;refine kt (aI J)<|go 2<|ktg (aI J)<|go 3<|ktg (aI J)<|go 2 ?_;refine Kj 3 [] Zdr λ_ _=>go 6 ?_;exact Yx c () results8 J aA Za
def Ybg(v:Value)(ps:List Ze)(g:GdT)(lo hi:Int)(d:∀g∈ps,Gin g)(hs:sfB ps [] []=true)(c:Xt ps=true)(e:Bv lo hi=true):Xj prog 8 #[v,Zcx g,.agg #[.int .i64 lo,.int .i64 hi]] [Qi 6 Pz qG v ps] (.bool true):=by refine Zd func8 ntmps8 λo n m f=>?_;obtain⟨i,j,k,l⟩:=Ydc d c;refine go 2<|Zz (Zu 2) λbq _=>Zz (Zu 3) λh _=>go 7 ?_;refine dt (Xp [] J aA (λa w hs=>Ynr))<|cl 3 [1] (Aw ps) λ_ _=>?_;refine dt (dF (Yz J J) (aN (λb=>Value.bool (!b)) hs))<|go 9 ?_;refine cl 3 [1] (Zhr ps lo hi d c e) λ_ _=>go 11<|Pd (λ_=>False) [(0,0),(2,0),(1,1),(3,1),(4,0)]<|go 2<|Qk (Zv 3 [] (Za8 g)) λ_ _=>Qk (Zv 3 [] (Zhd g)) λ_ _=>?_;refine Qb J J (Pq (dF (Zzh J J J underlying4) (vB (jB _))))<|go 9 ?_;refine cl 3 [1] (Om d) λ_ _=>?_;refine dt (dF (Yz J J) (aN (λb=>Value.bool (!b)) c))<|go 2 ?_;refine Kj 3 [] (Zk3 lo hi) λ_ _=>?_;refine Fj (dF (Yz J J) (aN (λb=>Value.bool (!b)) e)) J J<|go 9 ?_;refine cl 3 [1] (Zip ps d c) λ_ _=>go 14 ?_;refine cl 3 [] (Zvk (spF ps) (spL ps) lo hi ⟨O,O⟩ ⟨O,O⟩ e) λ_ _=>go 11<|kt (aI J)<|go 3<|ktg (aI J)<|go 3<|ktg (aI J)<|go 2 ?_;refine Kj 3 [] Zdr λ_ _=>go 5 ?_;exact Yx f () results8 J aA Za
def law_aw(v:Value)(ps:List Ze)(a b c lo hi:Int)(d:∀g∈ps,Gin g) :
  Cal prog 8 #[v,.agg #[.int .i64 a,.int .i64 b,.int .i64 c],.agg #[.int .i64 lo,.int .i64 hi]] [Qi 6 Pz qG v ps] false (G:=Unit) (λ_=>True) (λ_=> .bool true) (λ_=>[]):=by
 cases hs:sfB ps [] []with
 | false=>exact Zvj v ps (a,b,c) lo hi d hs
 | true=>
  cases hb:Xt ps with
  | false=>exact Yfn v ps (a,b,c) lo hi d hs hb
  | true=>
   cases hd:Bv lo hi with
   | false=>exact Yfo v ps (a,b,c) lo hi d hs hb hd
   | true=>exact Ybg v ps (a,b,c) lo hi d hs hb hd
end Go.Sky
namespace Go.Proofs.YtpmihempjefadaaGreat
open Go.ChangeShapes Go.WideShapes Go.ChangeAt Go.RowKit Go.Joins Go.Deep Go.Sky
def own:ownKnob Tryz.prog.godebug=none:=O6
def Zpf:laidOutB Tryz.prog=true:=O6
set_option maxRecDepth 100000 in
def lifted(V:Os)(d:V.Started)(H:Type)(enc:TypeId×Value->H) :
  ReturnsInHanded {} Tryz.checked V 8 .any (Rows.abortWindowsSpec.pre6 enc Tryz.prog Tryz.f8 Rows.abortWindowsRow.domain false) (Rows.abortWindowsSpec.post enc Tryz.prog Tryz.f8 false true false false):=by
 refine returnsInHanded_of_change (C:=Tryz.checked) own d O6 Tryz.func8
  (ChangeSpec.witness6 (enc:=enc) (C:=Tryz.checked) false ⟨#[],#[.slice none 0 0,.agg #[.int .i64 0,.int .i64 0,.int .i64 0],.agg #[.int .i64 0,.int .i64 0]],[]⟩ 8 O6 O6 O6 O6) ?_
 intro W base a ds gs k c R S _;have b:∀(j:Nat) t v,Tryz.f8.params[j]? = some t->a[j]? = some v->Value.okWide Tryz.prog W .any base t v:=c;have s:=R;obtain⟨p,q,g,hV,rfl,a3,a4⟩:=R;have Q:DataW.TrodAll enc Tryz.prog W 0 (λ_=>true) true Tryz.f8.params.toList a.toList ds p:=g;rw [Tryz.params8]at Q b;obtain⟨I,a5,d0,a0,p0,q0,u,rfl,rfl,n,r0⟩:=trodAll_cons Q;obtain⟨Y,a6,d1,a1,p1,q1,rfl,rfl,rfl,o,r1⟩:=trodAll_cons r0;obtain⟨Z,a7,d2,a2,p2,q2,rfl,rfl,rfl,r,r2⟩:=trodAll_cons r1;obtain⟨rfl,rfl,rfl⟩:=trodAll_nil r2;obtain rfl:a=#[I,Y,Z]:=by cases a;simp_all
 obtain⟨rfl,rfl⟩:=trodVars_none hV;have B:∀x∈p0,x.block<W.heap.size:=by obtain⟨m,i⟩:=n;exact DataW.trod_lt m _ _ _ i
 obtain⟨l0,w,y⟩:=Ya2 Tryz.underlying31 Tryz.underlying137 rfl rfl rfl rfl rfl rfl rfl rfl rfl rfl rfl rfl Tryz.underlying3 Tryz.underlying40 Tryz.underlying3 O6 O6 O6 O6 (b 0 31 I rfl rfl) n;have D:∀x∈p1,x.block<W.heap.size:=by obtain⟨m,i⟩:=o;exact DataW.trod_lt m _ _ _ i
 obtain⟨M,N,P,rfl,-,-,-⟩:=Zvc Tryz.underlying75 O6 rfl rfl rfl rfl rfl rfl Tryz.underlying3 O6 (b 1 (75) Y rfl rfl) o;have F:∀x∈p2,x.block<W.heap.size:=by obtain⟨m,i⟩:=r;exact DataW.trod_lt m _ _ _ i
 obtain⟨G,l,rfl,-,-⟩:=Yes Tryz.underlying77 O6 rfl rfl Tryz.underlying3 Tryz.underlying3 O6 O6 (b 2 (77) Z rfl rfl) r;clear g c;refine(law_aw I l0 M N P G l y W (λp z=>by cases z with|head=>exact w|tail _ z=>cases z)).mono λe W' ⟨_,he,_,f,_⟩=>?_;subst he;exact⟨_,rfl,_,_,_,[],_,[],s,trodAll_mk1 (shut_bool Tryz.underlying4 _),(trodAll_cons_mk (Below.trod Zpf O6 (cD O6) n f B) (trodAll_cons_mk (Below.trod Zpf O6 (cD O6) o f D) (trodAll_cons_mk (Below.trod Zpf O6 (cD O6) r f F) trodAll_mk0))),rfl,f.frame _,λh=>by cases h⟩
theorem x_holds : Rows.AbortWindowsSaid :=
 OpenClaim.holds_of_wide 8 Tryz.f8 rfl rfl rfl rfl rfl rfl rfl ⟨rfl,rfl,rfl,rfl,rfl⟩ rfl rfl rfl rfl rfl O6 Tryz.func8 closed
  (cD O6) (by unfold Func.isWrapper;first|(rw [aF O7];kernel_rfl)|(rw [aD O7];exact⟨rfl,rfl⟩))
  (λos started H enc _=>lifted os started H enc)
#print axioms x_holds
end Go.Proofs.YtpmihempjefadaaGreat

