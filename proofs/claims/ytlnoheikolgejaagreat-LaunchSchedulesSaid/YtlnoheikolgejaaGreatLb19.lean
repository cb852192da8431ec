/- Rules, arithmetic and contracts: part 20. No conditions but those that each theorem names. -/
import Derived.Test.YtlnoheikolgejaaGreatLb18
set_option linter.all false
set_option maxHeartbeats 4000000
namespace Go.Sky
open Go.Proofs.Tryz
open Go.Proofs
set_option synthInstance.maxHeartbeats 0
set_option synthInstance.maxSize 100000
set_option maxRecDepth 20000
set_option linter.unusedSimpArgs false
variable{v:Value}{r:SL×SL×SL}{x:Int}
theorem Ylx(b t:Nat)(y:SL)(d:List PPT)(z:ZnT)(u:List (LkT×Value))(n:OkL d z)(m:CkI d z u)(a i c k:Nat)(o:a<d.length)(hi:i<(d.getD a Hy).2.length)(p:c<d.length)(q:k<(d.getD c Hy).2.length):Zx8 prog 207 #[.pointer (some ⟨b,0,none⟩),.agg #[.int .i64 (a:Int),.int .i64 (i:Int),.int .i64 (c:Int),.int .i64 (k:Int)]] [Qb 1 Zag qPP (Xi y) d] (pj (box b 130 #[Xi y,.int .i64 z.1,.int .i64 z.2.1,.int .i64 z.2.2.1,.int .i64 z.2.2.2,.map (some t)]) (mpk t u)) (G:=List (LkT×Value)) (λg=>CkI d z g) (λg=> .tuple #[.bool (Fj d z a i c k).1,.int .i64 (Fj d z a i c k).2]) (λg=>pj (box b 130 #[Xi y,.int .i64 z.1,.int .i64 z.2.1,.int .i64 z.2.2.1,.int .i64 z.2.2.2,.map (some t)]) (mpk t g)):=by
 refine Ze3 func207 J ntmps207 J K1 ?_;intro Q P s h;have s:=Hw.mk s;simp only [Po,Xh];refine Zf (Zbm 1 62 J J J)<|Zf (env':=[(0,_),(1,_)]) (H':=[(1,_),(62,_),(0,_),(2,_)]) (λa w hs=>hs.weaken ⟨J,J,aA⟩ ⟨J,J,J,J,aA⟩)<|go 2<|Yk (Yf 3) λM _=>go 6 ?_;rcases Ylm m a i c k with⟨H,B⟩|B
 .refine Qn [1,3,62] [11]<|Zk 0 [(0,0),(1,0),(2,0),(3,0),(4,0),(5,0),(6,0),(7,0),(8,0),(9,1),(10,1),(11,3)]<|go 5 ?_;refine Xb J J (Ll (Xk ( .tuple #[.agg #[.bool false,.int .i64 0],.bool false]) (d_mlk 62 ((a:Int),(i:Int),(c:Int),(k:Int)) J J J J J underlying128 k4L zvSn) B) K3)<|go 3 ?_;refine Ys (Qo 4) λD N=>go 3<|Zu<|go 10<|Zf (Oj 2 41 (d.getD a Hy) J J (Zd o) J)<|Zf (Oj 2 42 (d.getD c Hy) J J (Zd p) J)<|Zf (Oj 41 51 ((d.getD a Hy).2.getD i PT0) J J (Zd hi) J)<|Zf (Oj 42 52 ((d.getD c Hy).2.getD k PT0) J J (Zd q) J) ?_;have j:=n.at o hi;have l:=n.at p q;refine Qe (λ_=>False) [(0,0),(1,0),(2,0),(3,0),(4,0),(5,0),(6,0),(7,0),(8,0),(9,0),(10,0),(11,0),(12,0),(13,0),(14,0),(15,0),(16,0),(17,0),(18,0),(19,0),(20,0),(21,0),(22,0),(23,0),(24,0),(25,3)]<|go 6 ?_;refine Xb J J (Qa (Zv 2 a J J J J Ze Zkd sizeOf27 J o))<|Xb J J (Qa (Xd 2 Hy J J J Ze pPPq o))<|go 2 ?_;refine Xb J J (Qa (Zv 41 i J J J J Ze Ze4 sizeOf36 J hi))<|Xb J J (Qa (Xd 41 PT0 J J J Ze pPq hi))<|go 6 ?_;refine Xb J J (Qa (Zv 2 c J J J J Ze Zkd sizeOf27 J p))<|Xb J J (Qa (Xd 2 Hy J J J Ze pPPq p))<|go 2 ?_;refine Xb J J (Qa (Zv 42 k J J J J Ze Ze4 sizeOf36 J q))<|Xb J J (Qa (Xd 42 PT0 J J J Ze pPq q))<|go 12 ?_;refine cl 4 [51,52] (Yjb (opt d a i) (opt d c k) z.1 j.1 l.1 j.2.1 l.2.1 j.2.2 l.2.2 n.d) λ_ _=>go 13<|Pw J (λe=>?_) (λe=>?_)
  .have e:=e;refine go 7 ?_;refine cl 4 [51,52] (Ym8 (opt d a i) (opt d c k) z.2.1 z.2.2.1 z.2.2.2 j.1 l.1 j.2.1 l.2.1 j.2.2 l.2.2 n.z) λ_ _=>go 8<|Qe (λ_=>False) [(0,0),(1,0),(2,0),(3,0),(4,0),(5,0),(6,0),(7,0),(8,3)]<|go 7 ?_;refine Xb J J (Qa (Qf [(0,_),(1,_)] J K4 (λa w hs=>Ye2 ((Zl J) a w hs) ((Zl J) a w hs))))<|r3' J (t_muk 62 ((a:Int),(i:Int),(c:Int),(k:Int)) J J J J J J J H underlying128 k4L J s.h aA) λ_ _=>go 11 ?_;have f:Fj d z a i c k=_:=apA_t e;exact Zn (Ks 1 62 J J J J J J J)<|Zn (env':=[(0,_),(1,_),(3,_),(4,_),(5,_),(13,_),(14,_),(15,_),(16,_),(17,_),(18,_),(12,_),(19,_),(20,_),(6,_),(7,_),(21,_),(26,_),(27,_),(28,_),(29,_),(30,_),(31,_),(32,_),(33,_),(34,_),(35,_),(36,_),(37,_),(38,_),(39,_),(40,_),(41,_),(42,_),(43,_),(44,_),(45,_),(46,_),(47,_),(48,_),(49,_),(8,_),(9,_),(51,_),(52,_),(53,_),(54,_),(55,_),(56,_),(57,_),(50,_),(58,_),(59,_),(10,_),(11,_),(60,_),(62,_),(63,_),(64,_),(65,_),(66,_),(67,_),(68,_),(61,_),(69,_),(70,_),(71,_),(72,_),(73,_),(74,_),(75,_),(76,_),(77,_),(78,_),(79,_),(80,_)]) (H':=[(1,_),(0,_),(2,_),(3,_),(4,_),(41,_),(42,_),(51,_),(52,_)]) (λa w hs=>hs.weaken ⟨J,J,J,J,J,J,J,J,J,J,J,J,J,J,J,J,J,J,J,J,J,J,J,J,J,J,J,J,J,J,J,J,J,J,J,J,J,J,J,J,J,J,J,J,J,J,J,J,J,J,J,J,J,J,J,J,J,J,J,J,J,J,J,J,J,J,J,J,J,J,J,J,J,J,J,J,aA⟩ ⟨J,J,J,J,J,J,J,J,J,aA⟩)<|Dr (.inl J) h _ (λa w hs=>Ziz hs results207 J J) (by rw [f]) (Yn4 m (by rw [f])) 1 J J J J (Zs 2 J J J Zr)
  .have e:=e;refine go 3<|Qe (λ_=>False) [(0,0),(1,0),(2,0),(3,0),(4,0),(5,0),(6,0),(7,0),(8,3)]<|go 7 ?_;refine Xb J J (Qa (Qf [(0,_),(1,_)] J K4 (λa w hs=>Ye2 ((Zl J) a w hs) ((Zl J) a w hs))))<|r3' J (t_muk 62 ((a:Int),(i:Int),(c:Int),(k:Int)) J J J J J J J H underlying128 k4L J s.h aA) λ_ _=>go 11 ?_;have f:Fj d z a i c k=_:=Yo0 e;exact Zn (Ks 1 62 J J J J J J J)<|Zn (env':=[(0,_),(1,_),(3,_),(4,_),(5,_),(13,_),(14,_),(15,_),(16,_),(17,_),(18,_),(12,_),(19,_),(20,_),(6,_),(7,_),(21,_),(26,_),(27,_),(28,_),(29,_),(30,_),(31,_),(32,_),(33,_),(34,_),(35,_),(36,_),(37,_),(38,_),(39,_),(40,_),(41,_),(42,_),(43,_),(44,_),(45,_),(46,_),(47,_),(48,_),(49,_),(8,_),(9,_),(51,_),(52,_),(53,_),(54,_),(55,_),(56,_),(57,_),(50,_),(58,_),(59,_),(10,_),(11,_),(60,_),(71,_),(72,_),(73,_),(74,_),(75,_),(76,_),(77,_),(78,_),(79,_),(80,_)]) (H':=[(1,_),(0,_),(2,_),(3,_),(4,_),(41,_),(42,_),(51,_),(52,_)]) (λa w hs=>hs.weaken ⟨J,J,J,J,J,J,J,J,J,J,J,J,J,J,J,J,J,J,J,J,J,J,J,J,J,J,J,J,J,J,J,J,J,J,J,J,J,J,J,J,J,J,J,J,J,J,J,J,J,J,J,J,J,J,J,J,J,J,J,J,J,J,J,J,J,J,aA⟩ ⟨J,J,J,J,J,J,J,J,J,aA⟩)<|Dr (.inl J) h _ (λa w hs=>Ziz hs results207 J J) (by rw [f,e]) (Yn4 m (by rw [f,e])) 1 J J J J (Zs 2 J J J Zr)
 .refine Qn [1,3,62] [11]<|Zk 0 [(0,0),(1,0),(2,0),(3,0),(4,0),(5,0),(6,0),(7,0),(8,0),(9,1),(10,1),(11,3)]<|go 5 ?_;refine Xb J J (Ll (Xk ( .tuple #[.agg #[.bool (Fj d z a i c k).1,.int .i64 (Fj d z a i c k).2],.bool true]) (d_mlk 62 ((a:Int),(i:Int),(c:Int),(k:Int)) J J J J J underlying128 k4L zvSn) B) K3)<|go 3 ?_;refine Ys (Qo 5) λF I=>go 3<|Zu<|go 8<|Qe (λ_=>False) [(0,0),(1,0),(2,0),(3,0),(4,0),(5,3)]<|go 10<|Zn (Ks 1 62 J J J J J J J)<|Zn (env':=[(0,_),(1,_),(3,_),(4,_),(5,_),(13,_),(14,_),(15,_),(16,_),(17,_),(18,_),(12,_),(19,_),(20,_),(6,_),(7,_),(21,_),(22,_),(23,_),(24,_),(25,_)]) (H':=[(1,_),(0,_),(2,_),(3,_),(5,_)]) (λa w hs=>hs.weaken ⟨J,J,J,J,J,J,J,J,J,J,J,J,J,J,J,J,J,J,J,J,J,aA⟩ ⟨J,J,J,J,J,aA⟩) ?_;exact Dr (.inl J) h u (λa w hs=>Ziz hs results207 J J) J m 1 J J J J (Zs 2 J J J Zr)
theorem Yrv(b l:Nat)(p:SL)(e:List PPT)(z:ZnT)(k:List (LkT×Value))(I:OkL e z)(H:CkI e z k)(F:e.length<=64)(c:List Nat)(i:Nat)(N:c.length<e.length)(u:ChO e c)(hi:i<(e.getD c.length Hy).2.length):Zx8 prog 136 #[.pointer (some ⟨b,0,none⟩),v,.int .i64 (i:Int)] [Qb 1 Zag qPP (Xi p) e,Ym 1 Yd v (nI c)] (pj (box b 130 #[Xi p,.int .i64 z.1,.int .i64 z.2.1,.int .i64 z.2.2.1,.int .i64 z.2.2.2,.map (some l)]) (mpk l k)) (G:=List (LkT×Value)) (λg=>CkI e z g) (λg=> .tuple #[.bool (Gs (Fj e z) c.length i c 0).1,.int .i64 (Gs (Fj e z) c.length i c 0).2]) (λg=>pj (box b 130 #[Xi p,.int .i64 z.1,.int .i64 z.2.1,.int .i64 z.2.2.1,.int .i64 z.2.2.2,.map (some l)]) (mpk l g)):=by
 refine Ze3 func136 J ntmps136 J K2 ?_;intro Q P B o;have B:=Hw.mk B;simp only [Po,Xh];have y:=Iv c;refine Zf (Zbm 1 62 J J J)<|Zf (env':=[(0,_),(1,_),(2,_)]) (H':=[(1,_),(62,_),(0,_),(2,_),(3,_)]) (λa w hs=>hs.weaken ⟨J,J,J,aA⟩ ⟨J,J,J,J,J,aA⟩)<|go 15 ?_;refine lp (G:=Nat×List (LkT×Value)) [0,1,2,12,13] [0,1,2,3] (λq=>[(14,.int .i64 (q.1:Int))]) (λq=>[(62,mpk l q.2)]) (λq=>(q.1<=c.length)/\(Gs (Fj e z) c.length i (c.drop q.1) q.1=(Gs (Fj e z) c.length i c 0))/\(CkI e z q.2)) (λq=>c.length-q.1) (0,k) ⟨O1,rfl,H⟩ K1 K1 ?_;rintro⟨j,D⟩ ⟨M,s,f⟩;dsimp only at M s f;dsimp only;refine go 6<|Zc J (λt=>?_) (λt=>?_)
 .have h:j<c.length:=O;refine go 7 ?_;refine dt (Zv 3 j J J J J Zm Ql Mv J)<|dt (Xk ( .int .i64 (c.getD j 0:Nat)) (Xd 3 0 J J J Zm pZ) (aD (Value.int .i64) (Zr9 c j)))<|go 10 ?_;refine dt (Xk ( .int .i64 (c.length:Int)) (Ynk J J (i:=3) J Zm Ql) (aD (λn:Nat=>Value.int .i64 (n:Int)) y))<|go 1 ?_;refine dt (Qf [(0,_),(1,_),(2,_),(3,_)] J ⟨J,J,J,J,J,J,J,J,aA⟩ (λa w hs=>Yhc ((Zl J) a w hs) ((Zl J) a w hs) ((Zl J) a w hs) ((Zl J) a w hs)))<|Ye (Ks 1 62 J J J J J J J)<|Ye (env':=[(0,_),(1,_),(2,_),(12,_),(13,_),(14,_),(15,_),(16,_),(17,_),(18,_),(8,_),(9,_),(20,_),(21,_),(22,_),(23,_),(24,_),(25,_),(26,_)]) (H':=[(1,_),(0,_),(2,_),(3,_)]) (λa w hs=>hs.weaken ⟨J,J,J,J,J,J,J,J,J,J,J,J,J,J,J,J,J,J,J,aA⟩ ⟨J,J,J,J,aA⟩)<|tt (Zca 1 [] [_,_] [] (Ylx b l p e z D I f j (c.getD j 0) c.length i O (u j h) N hi) J J J J ⟨J,J,aA⟩ call207 J J O3 (Zs 2 J J J Zr) J B.h (λ_ _=>trivial)) (λk m=>?_);refine Ye (Zbm 1 62 J J J)<|Ye (env':=[(0,_),(1,_),(2,_),(12,_),(13,_),(14,_),(15,_),(16,_),(17,_),(18,_),(8,_),(9,_),(20,_),(21,_),(22,_),(23,_),(24,_),(25,_),(26,_),(27,_)]) (H':=[(1,_),(62,_),(0,_),(2,_),(3,_)]) (λa w hs=>hs.weaken ⟨J,J,J,J,J,J,J,J,J,J,J,J,J,J,J,J,J,J,J,J,aA⟩ ⟨J,J,J,J,J,aA⟩)<|go 13<|Pw J (λd=>?_) (λd=>?_)
  .have d:=Ce d;refine go 13<|Zn (Ks 1 62 J J J J J J J)<|Zn (env':=[(0,_),(1,_),(2,_),(12,_),(13,_),(14,_),(15,_),(16,_),(17,_),(18,_),(8,_),(9,_),(20,_),(21,_),(22,_),(23,_),(24,_),(25,_),(26,_),(27,_),(19,_),(28,_),(29,_),(10,_),(11,_),(30,_),(31,_),(32,_),(6,_),(7,_)]) (H':=[(1,_),(0,_),(2,_),(3,_)]) (λa w hs=>hs.weaken ⟨J,J,J,J,J,J,J,J,J,J,J,J,J,J,J,J,J,J,J,J,J,J,J,J,J,J,J,J,J,J,aA⟩ ⟨J,J,J,J,aA⟩) ?_;exact Dr (.inl J) o k (λa w hs=>Ziz hs results136 J J) (by rw [<-s,Zss c j h,aJ (by rw [d];decide)]) m 1 J J J J (Zs 2 J J J (Zs 3 J J J Zr))
  .have d:=Dg d;refine go 7 ⟨O,?_⟩;exact Yi (j+1,k) ⟨O1,(aM d).symm.trans ((Zss c j h).symm.trans s),m⟩ O1 K1 K1
 .obtain rfl:j=c.length:=O;refine go 12<|Zn (Ks 1 62 J J J J J J J)<|Zn (env':=[(0,_),(1,_),(2,_),(12,_),(13,_),(14,_),(15,_),(6,_),(7,_)]) (H':=[(1,_),(0,_),(2,_),(3,_)]) (λa w hs=>hs.weaken ⟨J,J,J,J,J,J,J,J,J,aA⟩ ⟨J,J,J,J,aA⟩) ?_;exact Dr (.inl J) o D (λa w hs=>Ziz hs results136 J J) (by rw [<-s,Ydk c _ (aH _)]) f 1 J J J J (Zs 2 J J J (Zs 3 J J J Zr))
theorem ls_run{b N:Nat}(W:SL)(c:List PPT)(z:ZnT)(F:List (LkT×Value))(hO:OkL c z)(hC:CkI c z F)(Q:c.length<=64)(t:Nat)(a3:t<=100000):Zx8 prog 74 #[.pointer (some ⟨b,0,none⟩),.int .i64 (t:Int)] [Qb 1 Zag qPP (Xi W) c] (pj (box b 130 #[Xi W,.int .i64 z.1,.int .i64 z.2.1,.int .i64 z.2.2.1,.int .i64 z.2.2.2,.map (some N)]) (mpk N F)) (G:=Value×List (LkT×Value)) (λg=>CkI c z g.2) (λg=> .tuple #[g.1,.int .i64 (rnA (Fj c z) (Bl c) t).2.1,.int .i64 (rnA (Fj c z) (Bl c) t).2.2]) (λg=>pj (pj (box b 130 #[Xi W,.int .i64 z.1,.int .i64 z.2.1,.int .i64 z.2.2.1,.int .i64 z.2.2.2,.map (some N)]) (mpk N g.2)) (Oc 1 3 Yd g.1 (nI (rnA (Fj c z) (Bl c) t).1))):=by
 refine Ze3 func74 J ntmps74 J K1 ?_;intro w0 sc P B;have P:=Hw.mk P;simp only [Po,Xh];refine Xr (Ps (i:=2) J Ze) (λa9=>?_);refine Zf (Zbm 1 62 J J J)<|Zf (env':=[(0,_),(1,_)]) (H':=[(1,_),(62,_),(0,_),(2,_)]) (λa w hs=>hs.weaken ⟨J,J,aA⟩ ⟨J,J,J,J,aA⟩)<|go 7 ?_;refine Ysp<|go 2 ?_;refine tt (Yh5 70 (enc:=Yd) J J J Ql pZ J P.h) λv _=>go 9 ?_;refine Ysq<|go 3 ?_;refine lp (G:=Value×List Nat×Nat×Nat×Nat×List (LkT×Value)) [0] [0,1,2] (λq=>[(7,q.1),(8,.int .i64 (q.2.2.1:Int)),(1,.int .i64 (q.2.2.2.1:Int))]) (λq=>[(70,Oc 1 3 Yd q.1 (nI q.2.1)),(62,mpk N q.2.2.2.2.2)]) (λq=>(rnF (Fj c z) (Bl c) q.2.2.2.2.1 q.2.1 q.2.2.1 q.2.2.2.1=(rnA (Fj c z) (Bl c) t))/\(2*q.2.2.2.1+q.2.1.length+1<=q.2.2.2.2.1)/\(ChO c q.2.1)/\(q.2.2.2.1<=100000)/\(q.2.1.length<=c.length)/\(q.2.2.1<=100000)/\(CkI c z q.2.2.2.2.2)) (λq=>2*q.2.2.2.1+q.2.1.length) (_,[],0,t,2*t+1,F) ⟨J,O5,λj h=>absurd h (bG j),a3,aV _,aV _,hC⟩ ⟨J,J,J,aA⟩ ⟨J,J,aA⟩ ?_;rintro⟨vc,k,nx,b1,f,e1⟩ ⟨hR,hf,y,a1,a4,a6,I⟩;dsimp only at hR hf y a1 a4 a6 I;dsimp only;have b0:=Iv k;refine go 13<|Zc J (λY=>?_) (λY=>?_)
 .have e:k.length<c.length:=O;refine go 5 ?_;refine lp (G:=Nat×Nat×Nat×List (LkT×Value)) [0] [0,70,1,2] (λq=>[(7,vc),(8,.int .i64 (q.1:Int)),(1,.int .i64 (q.2.1:Int))]) (λq=>[(62,mpk N q.2.2.2)]) (λq=>(rnF (Fj c z) (Bl c) q.2.2.1 k q.1 q.2.1=(rnA (Fj c z) (Bl c) t))/\(2*q.2.1+k.length+1<=q.2.2.1)/\(q.2.1<=b1)/\(q.1<=200000-q.2.1)/\(CkI c z q.2.2.2)) (λq=>q.2.1) (nx,b1,f,e1) ⟨hR,hf,aH _,O1,I⟩ K3 K1 ?_;rintro⟨s,S,f2,V⟩ ⟨o,p,a2,R,u⟩;dsimp only at o p a2 R u;dsimp only;refine go 2<|Zf (Oj 2 41 (c.getD k.length Hy) J J (Zd e) J)<|go 8 ?_;refine dt (Zv 2 k.length J J J J Ze Zkd sizeOf27 (by rw [Iv]) e)<|dt (Xd 2 Hy J J J Ze pPPq e)<|go 4 ?_;refine Zc J (λZ=>?_) (λZ=>?_)
  .have d:s<(Bl c).getD k.length 0:=by rw [Zhh];omega
   refine go 17 ⟨O,?_⟩;refine Zc J (λa0=>?_) (λa0=>?_)
   .refine go 17 ?_;refine Yas ?_;have l:rnA (Fj c z) (Bl c) t=_:=(Ybp o p O e d);exact Zn (Qi 71 1 3 Yd)<|Zn (Ks 1 62 J J J J J J J)<|Zn (env':=[(0,_),(7,_),(8,_),(1,_),(21,_),(22,_),(23,_),(24,_),(25,_),(26,_),(27,_),(28,_),(29,_),(30,_),(31,_),(32,_),(33,_),(34,_),(35,_),(4,_),(5,_),(6,_)]) (H':=[(1,_),(0,_),(2,_),(41,_),(71,_)]) (λa w hs=>hs.weaken ⟨J,J,J,J,J,J,J,J,J,J,J,J,J,J,J,J,J,J,J,J,J,J,aA⟩ ⟨J,J,J,J,J,aA⟩)<|Zn (Ks 1 71 J J J J J J J)<|Dr (.inl J) B (_,V) (λa w hs=>Yjr hs results74 J J J) (by rw [l]) u 1 (by rw [l];rfl) J J J (Zs 2 J J J Zr)
   .have D:0<S:=O;refine go 7<|Ye (Ks 1 62 J J J J J J J)<|Ye (env':=[(0,_),(7,_),(8,_),(1,_),(21,_),(22,_),(23,_),(24,_),(25,_),(26,_),(27,_),(28,_),(29,_),(30,_),(31,_),(32,_),(33,_),(34,_),(35,_),(37,_),(38,_),(39,_)]) (H':=[(1,_),(0,_),(70,_),(2,_),(41,_)]) (λa w hs=>hs.weaken ⟨J,J,J,J,J,J,J,J,J,J,J,J,J,J,J,J,J,J,J,J,J,J,aA⟩ ⟨J,J,J,J,J,aA⟩) ?_;refine tt (Zca 1 [] [_,_,_] [] (Yrv b N W c z V hO u Q k s e y (by rw [<-Zhh];exact d)) J J J J K3 call136 J J O3 (Zs 2 J J J (Zvo 70 J J pZ Zr)) J P.h (λ_ _=>trivial)) (λF M=>?_);refine Ye (Zbm 1 62 J J J)<|Ye (env':=[(0,_),(7,_),(8,_),(1,_),(21,_),(22,_),(23,_),(24,_),(25,_),(26,_),(27,_),(28,_),(29,_),(30,_),(31,_),(32,_),(33,_),(34,_),(35,_),(37,_),(38,_),(39,_),(40,_)]) (H':=[(1,_),(62,_),(0,_),(70,_),(2,_),(41,_)]) (λa w hs=>hs.weaken ⟨J,J,J,J,J,J,J,J,J,J,J,J,J,J,J,J,J,J,J,J,J,J,J,aA⟩ ⟨J,J,J,J,J,J,aA⟩)<|go 14<|Zc J (λm=>?_) (λm=>?_)
    .have m:=m;refine go 18 ?_;refine Yas ?_;have l:rnA (Fj c z) (Bl c) t=_:=(Ybs o p O e d m);exact Zn (Qi 71 1 3 Yd)<|Zn (Ks 1 62 J J J J J J J)<|Zn (env':=[(0,_),(7,_),(8,_),(1,_),(21,_),(22,_),(23,_),(24,_),(25,_),(26,_),(27,_),(28,_),(29,_),(30,_),(31,_),(32,_),(33,_),(34,_),(35,_),(37,_),(38,_),(39,_),(40,_),(36,_),(41,_),(42,_),(9,_),(10,_),(43,_),(44,_),(45,_),(4,_),(5,_),(6,_)]) (H':=[(1,_),(0,_),(2,_),(41,_),(71,_)]) (λa w hs=>hs.weaken ⟨J,J,J,J,J,J,J,J,J,J,J,J,J,J,J,J,J,J,J,J,J,J,J,J,J,J,J,J,J,J,J,J,J,J,aA⟩ ⟨J,J,J,J,J,aA⟩)<|Zn (Ks 1 71 J J J J J J J)<|Dr (.inl J) B (_,F) (λa w hs=>Yjr hs results74 J J J) (by rw [l]) M 1 (by rw [l];rfl) J J J (Zs 2 J J J Zr)
    .have m:=dM.1 m;refine go 8<|Pw J (λn=>?_) (λn=>?_)
     .have n:=n;refine go 4 ?_;refine tt (Yx [(0,_)] 3 (enc:=Yd) [(s:Int)] J J K2 Ql ti3 J J J J J pZ.cells J J P.h) (λb3 _=>?_);refine tt (Qr 70 3 8 J J J J J J O3 J (Zo pZ) Ql ti3 J pZ J J J (by rw [Iv];simp only [bI,bQ];omega) O3 J P.h) λb4 _=>go 11 ?_;exact Yi (_,k ++ [s],0,S-1,f2-1,F) ⟨(Zmh o p O e d n),(by rw [aP];simp only [bI,bQ];omega),(Yn8 y (by rw [<-Zhh];exact d)),O1,(by rw [aP];simp only [bI,bQ];omega),aV _,M⟩ (by rw [aP];simp only [bI,bQ];omega) ⟨J,J,aD (λx=>some (Value.int .i64 x)) (Yig D),aA⟩ ⟨aD (λx=>some (Oc 1 3 Yd _ x)) (Zr7 k s).symm,J,aA⟩
     .have n:=n;refine go 8 ⟨O,?_⟩;exact Yi (s+1,S-1,f2-1,F) ⟨(Zmi o p O e d n m),O1,O1,O1,M⟩ O1 ⟨J,J,aD (λx=>some (Value.int .i64 x)) (Yig D),aA⟩ K1
  .have d:¬s<(Bl c).getD k.length 0:=by rw [Zhh];omega
   refine go 13<|Zc J (λH=>?_) (λH=>?_)
   .have H:k=[]:=aC O;refine go 13 ?_;refine Yas ?_;have l:rnA (Fj c z) (Bl c) t=_:=(Zu5 o p e d H);exact Zn (Qi 71 1 3 Yd)<|Zn (Ks 1 62 J J J J J J J)<|Zn (env':=[(0,_),(7,_),(8,_),(1,_),(21,_),(22,_),(23,_),(24,_),(25,_),(26,_),(27,_),(28,_),(29,_),(30,_),(31,_),(53,_),(54,_),(55,_),(4,_),(5,_),(6,_)]) (H':=[(1,_),(0,_),(2,_),(41,_),(71,_)]) (λa w hs=>hs.weaken ⟨J,J,J,J,J,J,J,J,J,J,J,J,J,J,J,J,J,J,J,J,J,aA⟩ ⟨J,J,J,J,J,aA⟩)<|Zn (Ks 1 71 J J J J J J J)<|Dr (.inl J) B (_,V) (λa w hs=>Yjr hs results74 J J J) (by rw [l]) u 1 (by rw [l];rfl) J J J (Zs 2 J J J Zr)
   .refine go 10 ⟨O,?_⟩;have a8:0<k.length:=O;have a5:=y (k.length-1) O;rw [Zdq]at a5;have a7:=hO.k (a:=k.length-1) O;refine Qe (λ_=>False) [(0,0),(1,0),(2,0),(3,0),(4,0),(5,0),(6,0),(7,0),(8,0),(9,3)]<|go 2 ?_;refine Xb J J (Qa (Zqf 70 (k.length-1) J J J J (Zo pZ) Ql Mv O (by rw [Iv];omega)))<|go 2 ?_;refine Xb J J (Qa (Zv 70 (k.length-1) J J J J (Zo pZ) Ql Mv O (by rw [Iv];omega)))<|Xb J J (Qa (Xk ( .int .i64 ((k.getLastD 0:Nat):Int)) (Xd 70 0 J J J (Zo pZ) pZ (by rw [Iv];omega)) (aD (Value.int .i64) (Ycs k O))))<|go 5 ⟨O,?_⟩;exact Zn (Zyl 70 (k.length-1) J J pZ (by rw [Iv];omega))<|Yi (_,k.dropLast,k.getLastD 0+1,S,f2-1,V) ⟨(Ybq o p e d O),(by dsimp only;rw [eR];omega),chO_d y,O1,(by dsimp only;rw [eR];omega),O8,u⟩ (by dsimp only;rw [eR];omega) K3 ⟨aD (λx=>some (Oc 1 3 Yd _ x)) (Yct k).symm,J,aA⟩
 .have e:¬k.length<c.length:=O;refine go 14 ?_;refine Yas ?_;have l:rnA (Fj c z) (Bl c) t=_:=(Zu6 hR hf e);exact Zn (Ks 1 62 J J J J J J J)<|Zn (env':=[(0,_),(7,_),(8,_),(1,_),(13,_),(14,_),(15,_),(16,_),(17,_),(18,_),(19,_),(20,_),(67,_),(4,_),(5,_),(6,_)]) (H':=[(1,_),(0,_),(70,_),(2,_)]) (λa w hs=>hs.weaken ⟨J,J,J,J,J,J,J,J,J,J,J,J,J,J,J,J,aA⟩ ⟨J,J,J,J,aA⟩)<|Zn (Ks 1 70 J J J J J J J)<|Dr (.inl J) B (_,e1) (λa w hs=>Yjr hs results74 J J J) (by rw [l]) I 1 (by rw [l];rfl) J J J (Zs 2 J J J Zr)
theorem Zzf(ps:List Zt)(b:∀g∈ps,Gin g):Xq prog 71 #[v] [Qb 6 Qt qG v ps] (.bool (!Xl ps)):=by refine Zg func71 ntmps71 λe d c a=>go 8 ?_;refine cl 1 [1] (Ek b) λ_ _=>go 5 ?_;exact Yq a () results71 J aA Za
theorem Yr9(l:List PT)(n:∀x∈l,∀g∈x.2,Gin g):Cal prog 133 #[v,.func (.func 71) #[] #[]] [Qb 1 Zbu qP v l] false (G:=Int) (λr=>decide (r>=0)=!Bo l) (λr=> .int .i64 r) (λr=>[]):=by
 refine Zg func133 ntmps133 λs q p d=>?_;refine Xr (Ps (i:=1) J Ze) λf=>go 14 ?_;refine lp (G:=Nat) [0,1,7] [0,1] (λi=>[(8,.int .i64 (i:Int))]) (λi=>[]) (λi=>(i<=l.length)/\(∀j,j<i->Xl (pth l j)=true)) (λi=>l.length-i) 0 ⟨O1,λj h=>absurd h (bG j)⟩ K1 aA ?_;rintro i ⟨hi,m⟩;refine go 6<|Zc J (λc=>?_) (λc=>?_)
 .refine go 11<|Zf (Oj 1 51 (l.getD i PT0) J J (Zd O) J)<|go 4 ?_;refine dt (Zv 1 i J J J J Ze Ze4 sizeOf36 J)<|dt (Xd 1 PT0 J J J Ze pPq)<|tt (Zan 1 [] [_] [] (Zzf (l.getD i PT0).2 (n _ (Zd O))) J J J J K1 call71 (Zs 51 J J J Zr) J p.h) λ_ _=>go 2 ?_;refine Pw J (λa=>?_) (λa=>?_)
  .have b:=a;refine go 12 ?_;exact Yq d (i:Int) results133 J (by rw [Yps (Zd O) (Ce b)];exact aF (gL i)) Za
  .have b:=a;refine go 7 ⟨O,?_⟩;exact Yi (i+1) ⟨O1,λj o=>by rcases bA.1 o with e|e;exact m j e;subst e;exact Dg b⟩ O1 K1 aA
 .obtain rfl:i=l.length:=O;refine go 11 ?_;exact Yq d (-1) results133 J (by rw [Yhu (aH _) (λk h _=>m k h)];rfl) Za
theorem Ytv(l:List PT)(c:∀x∈l,∀g∈x.2,Gin g):Xq prog 70 #[v,.func (.func 71) #[] #[]] [Qb 1 Zbu qP v l] (.bool (!Bo l)):=by refine Zg func70 ntmps70 λh f d b=>go 9 ?_;refine cl 1 [1] (Yr9 l c) λe a=>go 5 ?_;exact Yq b () results70 (by rw [a]) aA Za
theorem Zwb(h g j i f:Int):Xq prog 73 #[.int .i64 h,.agg #[.int .i64 g,.int .i64 j,.int .i64 i],.int .i64 f] [] (.bool (okZ (h,g,j,i) f)):=by
 refine Zg func73 ntmps73 λn m l a=>go 2 ?_;refine Yk (Yf 1) λk _=>go 8<|Yc 9 J (λe=>?_) (λe=>?_)
 .refine go 4<|Yc 13 J (λb=>?_) (λb=>?_)
  .refine go 1 ?_;refine Hx 1 [] Zw4 λ_ _=>go 2<|Mb 17 J (λc=>?_) (λc=>?_)
   .refine go 4<|Yc 21 J (λd=>?_) (λd=>?_)
    .refine go 7 ?_;exact Yq a () results73 (by unfold okZ dsB;first|(simp_all;done)|(simp_all;omega)) aA Za
    .refine go 7 ?_;exact Yq a () results73 (by unfold okZ dsB;first|(simp_all;done)|(simp_all;omega)) aA Za
   .refine go 11 ?_;exact Yq a () results73 (by unfold okZ dsB;first|(simp_all;done)|(simp_all;omega)) aA Za
  .refine go 15 ?_;exact Yq a () results73 (by unfold okZ dsB;first|(simp_all;done)|(simp_all;omega)) aA Za
 .refine go 19 ?_;exact Yq a () results73 (by unfold okZ dsB;first|(simp_all;done)|(simp_all;omega)) aA Za
theorem Zp5(d:List PPT)(l k o m p:Int)(W:∀x∈d,∀y∈x.2,∀g∈y.2,Gin g)(hL:∀x∈d,∀y∈x.2,y.2.length<=5):Cal prog 20 #[v,.int .i64 l,.agg #[.int .i64 k,.int .i64 o,.int .i64 m],.int .i64 p] [Qb 1 Zag qPP v d] true (G:=Value) (λr=>True) (λr=> .tuple #[r,.int .i64 (chR d (l,k,o,m) p).2.1,.int .i64 (chR d (l,k,o,m) p).2.2]) (λr=>[Ym 1 Yd r (nI (chR d (l,k,o,m) p).1)]):=by
 refine Zg func20 ntmps20 λw0 sc Z t=>?_;refine Xr (Ps (i:=1) J Ze) (λY=>?_);refine Zdt (Xe 1 J Ze) (λfo Q=>?_);subst Q;refine go 2<|Yk (Yf 2) λbz _=>go 19 ?_;refine lp (G:=Nat×Bool) [0,1,3,6,15,16] [0,1,2] (λq=>[(17,.int .i64 (q.1:Int)),(11,.bool q.2)]) (λq=>[]) (λq=>(q.1<=d.length)/\(∀j,j<q.1->Bo (d.getD j Hy).2=true)/\(q.2=(d.take q.1).any λx=>decide (64<x.2.length))) (λq=>d.length-q.1) (0,false) ⟨O1,λj h=>absurd h (bG j),rfl⟩ K2 aA ?_;rintro⟨i,bl⟩ ⟨hi,N,f⟩;dsimp only at hi N f;dsimp only;refine go 6<|Zc J (λP=>?_) (λP=>?_)
 .refine go 5<|Zf (Oj 1 41 (d.getD i Hy) J J (Zd O) J)<|go 1 ?_;refine dt (Zv 1 i J J J J Ze Zkd sizeOf27 J)<|dt (Xd 1 Hy J J J Ze pPPq)<|go 7 ?_;refine cl 2 [41] (Ytv (d.getD i Hy).2 (W _ (Zd O))) λ_ _=>go 2<|Pw J (λe=>?_) (λe=>?_)
  .have e:=e;refine go 14 ?_;have c:chR d (l,k,o,m) p=_:=(chR_2 (chv_no O (Ce e)));exact xe3 t (.slice none 0 0) results20 (by rw [c]) aA (Pi (by rw [c];rfl) Za)
  .have e:=e;refine go 5<|Mb 24 J (λI=>?_) (λI=>?_)
   .have H:=I;refine go 12 ⟨O,?_⟩;exact Yi (i+1,true) ⟨O1,λj R=>by rcases bA.1 R with F|F;exact N j F;subst F;exact Dg e,(lg_s f O (.inl ⟨H,rfl⟩))⟩ O1 K2 aA
   .have H:=I;refine go 12 ⟨O,?_⟩;exact Yi (i+1,decide ((64:Int)<(((d.getD i Hy).2.length:Nat):Int))) ⟨O1,λj R=>by rcases bA.1 R with F|F;exact N j F;subst F;exact Dg e,(lg_s f O (.inr ⟨H,bM.2 O⟩))⟩ O1 K2 aA
 .obtain rfl:i=d.length:=O;rw [bS]at f;have D:=Ytp N;refine go 12 ?_;refine cl 2 [] (Zwb l k o m p) λ_ _=>go 4<|Pw J (λb=>?_) (λb=>?_)
  .have b:=Ce b;refine go 10 ?_;have c:chR d (l,k,o,m) p=_:=(chR_2z b);exact xe3 t (.slice none 0 0) results20 (by rw [c]) aA (Pi (by rw [c];rfl) Za)
  .have b:=Dg b;refine go 4<|Mb 38 J (λu=>?_) (λu=>?_)
   .have B:=u;refine go 18 ?_;have c:chR d (l,k,o,m) p=_:=(chR_7 D b (by left;rw [<-f];exact B));exact xe3 t (.slice none 0 0) results20 (by rw [c]) aA (Pi (by rw [c];rfl) Za)
   .have B:=u;refine go 7<|Zc J (λs=>?_) (λs=>?_)
    .have M:=s;refine go 10 ?_;have c:chR d (l,k,o,m) p=_:=(chR_7 D b (by right;omega));exact xe3 t (.slice none 0 0) results20 (by rw [c]) aA (Pi (by rw [c];rfl) Za)
    .have M:=s;have hO:=ok_L (z:=(l,k,o,m)) W hL D b (by rw [<-f];exact B);obtain⟨S,rfl⟩:∃n:Nat,p=(n:Int):=⟨p.toNat,by have:=okZ_b b;omega⟩;have a0:=okZ_b b;refine go 8 ?_;refine tt (t_mmk (i:=62) J J J J Z.h) (λmb _=>?_);refine dt (Qf [(0,_),(1,_),(2,_),(3,_)] J K8 (λa w hs=>Yhf ((Pg 1 J Ze) a w hs) ((Zl J) a w hs) ((Zl J) a w hs)))<|Yk (Yf 3) λV _=>go 7 ?_;refine Ye (Ks 3 62 J J J J J J J)<|Ye (env':=[(0,_),(1,_),(3,_),(6,_),(15,_),(16,_),(17,_),(11,_),(18,_),(31,_),(32,_),(33,_),(34,_),(35,_),(30,_),(37,_),(38,_),(39,_),(40,_),(41,_),(42,_),(36,_),(43,_),(44,_),(45,_),(46,_),(47,_),(48,_),(14,_),(49,_),(50,_)]) (H':=[(3,_),(0,_),(1,_),(2,_)]) (λa w hs=>hs.weaken ⟨J,J,J,J,J,J,J,J,J,J,J,J,J,J,J,J,J,J,J,J,J,J,J,J,J,J,J,J,J,J,J,aA⟩ ⟨J,J,J,J,aA⟩)<|tt (Zca 3 [] [_,_] [] (ls_run fo d (l,k,o,m) [] hO ck_nil O S O) J J J J ⟨J,J,aA⟩ call74 J J O3 (Zs 1 J J J Zr) J Z.h (λ_ _=>trivial)) (λ⟨rv,es⟩ a1=>?_);refine Ye (Zbm 3 70 J J J)<|Ye (env':=[(0,_),(1,_),(3,_),(6,_),(15,_),(16,_),(17,_),(11,_),(18,_),(31,_),(32,_),(33,_),(34,_),(35,_),(30,_),(37,_),(38,_),(39,_),(40,_),(41,_),(42,_),(36,_),(43,_),(44,_),(45,_),(46,_),(47,_),(48,_),(14,_),(49,_),(50,_),(51,_)]) (H':=[(3,_),(70,_),(0,_),(1,_),(2,_)]) (λa w hs=>hs.weaken ⟨J,J,J,J,J,J,J,J,J,J,J,J,J,J,J,J,J,J,J,J,J,J,J,J,J,J,J,J,J,J,J,J,aA⟩ ⟨J,J,J,J,J,aA⟩)<|go 9 ?_;have c:chR d (l,k,o,m) (S:Int)=_:=chR_r D b (by rw [<-f];exact B) O;exact Zn (Yz 70 J J pZ)<|xe3 t _ results20 (by rw [c];rfl) aA (Qy 70 Za (by first|(rw [c];done)|(rw [c];rfl)))
abbrev stX (x:Int) (r:SL×SL×SL):Zt:=Di (x,0,0) (x,0,0) 0 1000 2 r
theorem lg_in{p q:Hj}{fr c:Int}{k:Int}(j:ptT p=true)(h:Mw fr)(m:Mw c)(l:p=q):Gin (Di p q fr c k r):=by
 subst l;obtain⟨d,f,g⟩:=Zrm j;have e:∀x:Int,tmL x x k=[x]:=λx=>by unfold tmL;rw [aM (.inl O)]
 have i:∀x:Int,-1048576<=x/\x<=1048576->∀a∈tmL x x k,Mw a:=λx n a b=>by rw [e]at b;rw [cI.1 b];exact⟨O,O⟩
 exact⟨h,m,show Mw (1:Int)from⟨O3,O3⟩,i _ d,i _ f,i _ g⟩
theorem pt_x(h:-1048576<=x/\x<=1048576):ptT (x,0,0)=true:=by show ptB x 0 0=true;rw [Zrn];simp;omega
theorem Yih(h:-1048576<=x/\x<=1048576):∀g∈[stX x r],Gin g:=λg a=>by rw [cI.1 a];exact lg_in (pt_x h) ⟨O3,O3⟩ ⟨O3,O3⟩ rfl
def kxL(d e f a b c:SL)(r1 r2 r3:SL×SL×SL):List PPT:=
 [(d,[(a,[stX 0 r1]),(c,[stX 1000 r3])]),(e,[(b,[stX 100 r2]),(a,[stX 0 r1])]),(f,[(b,[stX 100 r2]),(c,[stX 1000 r3])])]
section
variable (s1 s2 s3 va vb vc:SL) (r1 r2 r3:SL×SL×SL)
theorem ky_g:∀x∈kxL s1 s2 s3 va vb vc r1 r2 r3,∀y∈x.2,∀g∈y.2,Gin g:=by have a:∀g∈[stX 0 r1],Gin g:=Yih O3;have b:∀g∈[stX 100 r2],Gin g:=Yih O3;have c:∀g∈[stX 1000 r3],Gin g:=Yih O3;intro x d y e;unfold kxL at d;simp only [bD,cM,fA]at d;rcases d with rfl|rfl|rfl<;>simp only [bD,cM,fA]at e<;>rcases e with rfl|rfl<;>assumption
theorem ky_l:∀x∈kxL s1 s2 s3 va vb vc r1 r2 r3,∀y∈x.2,y.2.length<=5:=by intro x a y b;unfold kxL at a;simp only [bD,cM,fA]at a;rcases a with rfl|rfl|rfl<;>simp only [bD,cM,fA]at b<;>rcases b with rfl|rfl<;>exact(by decide:1<=5)
def ky_f:chR (kxL s1 s2 s3 va vb vc r1 r2 r3) (50,50,1,1) 100=([0,0,1],1,0):=O6
def ky_n:chR (kxL s1 s2 s3 va vb vc r1 r2 r3) (150,50,1,1) 100=([],2,0):=O6
def ky_u:chR (kxL s1 s2 s3 va vb vc r1 r2 r3) (50,50,1,1) 3=([],0,0):=O6
end
abbrev wyP:List Hj:=[(0,0,0)]
abbrev wyQ:List Hj:=[(0,0,100)]
def wy_e:lkE wyP wyQ (500,1000,3) 0 (pbB wyP [1] 3)=0:=O7
section
variable {ls:List PT} (h:Zgo ls=lPr wyP wyQ (500,1000,3) 0 [1])
include h
theorem Yph:ls.length=1:=by have:=aD List.length h;rw [show lPr wyP wyQ (500,1000,3) 0 [1]=lPs wyP wyQ (500,1000,3) 0 [1] 1 from aM wy_e]at this;simpa [Zgo,lPs]using this
theorem wy_s(r1 r2 r3:SL×SL×SL):(ls.getD 0 PT0).2.map Nw=[Di (0,0,0) (0,0,0) 0 500 2 r1,Di (0,0,0) (0,0,100) 500 1500 0 r2,Di (0,0,100) (0,0,100) 1500 2000 2 r3].map Nw:=by
 have e:=aD (λl=>l.head?) h;rw [show lPr wyP wyQ (500,1000,3) 0 [1]=lPs wyP wyQ (500,1000,3) 0 [1] 1 from aM wy_e]at e;cases ls with
 | nil=>cases e
 | cons x t=>
  simp only [Zgo,bH,List.head?_cons]at e;have a:=Option.some.inj e;exact a.trans O6
end
def wy_p:lkE wyP wyQ (500,1000,3) 0 (pbB wyP [1] 3)≠0->False:=λh=>h wy_e
end Go.Sky
namespace Go.Sky
open Go.Proofs.Tryz
open Go.Proofs
set_option synthInstance.maxHeartbeats 0
set_option synthInstance.maxSize 100000
set_option maxRecDepth 20000
set_option linter.unusedSimpArgs false
def Cl(x y z:Int):Xq prog 57 #[.int .i64 x,.int .i64 y,.int .i64 z] [] (.agg #[.int .i64 x,.int .i64 y,.int .i64 z]):=by refine Zg func57 ntmps57 λf e d b=>go 2 ?_;refine Yk (Yh 1) λc _=>go 7 ?_;refine dt (Qf [(0,_),(1,_),(2,_)] J K6 (λa w hs=>Yt9 ((Zl J) a w hs) ((Zl J) a w hs) ((Zl J) a w hs)))<|go 4 ?_;exact Yq b () results57 J aA Za
def Znm(x:Int)(f:-4194304<=x/\x<=4194304):Cal prog 121 #[.int .i64 x] [] true (G:=SL×(SL×SL×SL)) (λr=>True) (λr=>Xi r.1) (λr=>[Qb 6 Qt qG (Xi r.1) [stX x r.2]]):=by refine Zg func121 ntmps121 λj i g d=>go 8 ?_;refine cl 0 [] (Cl _ _ _) λ_ _=>go 1 ?_;refine cl 0 [] (Cl _ _ _) λ_ _=>cl 1 [] (Ac x 0 0 x 0 0 0 1000 2 f ⟨O3,O3⟩ ⟨O3,O3⟩ f ⟨O3,O3⟩ ⟨O3,O3⟩) λ⟨c,a,b⟩ _=>?_;refine tt (Yx [(0,_)] 4 (enc:=Qt) [stX x (c,a,b)] J J K2 Mm ti116 J J Zbd J J pG.cells J J g.h) λv _=>go 4 ?_;refine Zb4 (Xe 4 J (Zo pG)) (λh e=>?_);subst e;exact Zn (Yz 4 J J pG)<|Zn (Ya qC 74)<|Zn (Zh (q:=qC) (z:=(stX x (c,a,b)).2.1) 74 1 74 J J J J J)<|Zn (Zh (q:=qC) (z:=(stX x (c,a,b)).2.2.1) 74 2 74 J J J J J)<|Zn (Zh (q:=qC) (z:=(stX x (c,a,b)).2.2.2) 74 3 74 J J J J J)<|Zn (Ya qG 71)<|Zn (Zh (q:=qG) (z:=stX x (c,a,b)) 71 74 71 J J J J J)<|Zn (Yy 4 71 72 J J J J)<|Yq d (h,c,a,b) results121 J aA (Qy 72 Za)
def Zzi(v:Value)(j i u:Int)(e:List Int)(l:∀f g h r s t r1 r2 r3,(chR (kxL f g h r s t r1 r2 r3) (j,50,1,1) i).2.2=0/\(chR (kxL f g h r s t r1 r2 r3) (j,50,1,1) i).2.1=u/\nI (chR (kxL f g h r s t r1 r2 r3) (j,50,1,1) i).1=e):Xq prog 56 #[.int .i64 j,.int .i64 i,v,.int .i64 u] [Ym 1 Yd v e] (.bool true):=by refine Zg func56 ntmps56 λG F k p=>go 7 ?_;refine cl 2 [] (Znm 0 ⟨O3,O3⟩) λd _=>cl 3 [] (Znm 100 ⟨O3,O3⟩) λb _=>cl 4 [] (Znm 1000 ⟨O3,O3⟩) λc _=>go 9 ?_;refine tt (Yx [(0,_),(1,_)] 5 (enc:=Zbu) [(d.1,[stX 0 d.2]),(c.1,[stX 1000 c.2])] J J K4 Ze4 ti36 J J J J J pPq.cells J J k.h) (λv _=>?_);refine Znl (Xe 5 J (Zo pPq)) (λf m=>?_);subst m;refine Ye (Yz 5 J J pPq)<|Ye (Ya qP 81)<|Ye (Zh (q:=qP) (z:=(d.1,[stX 0 d.2])) 81 2 81 J J J J J)<|Ye (Zh (q:=qP) (z:=(c.1,[stX 1000 c.2])) 81 4 81 J J J J J)<|Ye (Yy 5 81 91 J J J J)<|go 2 ?_;refine tt (Yx [(0,_),(1,_)] 6 (enc:=Zbu) [(b.1,[stX 100 b.2]),(d.1,[stX 0 d.2])] J J K4 Ze4 ti36 J J J J J pPq.cells J J k.h) (λx _=>?_);refine Znl (Xe 6 J (Zo pPq)) (λg n=>?_);subst n;refine Ye (Yz 6 J J pPq)<|Ye (Ya qP 81)<|Ye (Zh (q:=qP) (z:=(b.1,[stX 100 b.2])) 81 3 81 J J J J J)<|Ye (Zh (q:=qP) (z:=(d.1,[stX 0 d.2])) 81 2 81 J J J J J)<|Ye (Yy 6 81 92 J J J J)<|go 2 ?_;refine tt (Yx [(0,_),(1,_)] 7 (enc:=Zbu) [(b.1,[stX 100 b.2]),(c.1,[stX 1000 c.2])] J J K4 Ze4 ti36 J J J J J pPq.cells J J k.h) (λy _=>?_);refine Znl (Xe 7 J (Zo pPq)) (λh o=>?_);subst o;refine Ye (Yz 7 J J pPq)<|Ye (Ya qP 81)<|Ye (Zh (q:=qP) (z:=(b.1,[stX 100 b.2])) 81 3 81 J J J J J)<|Ye (Zh (q:=qP) (z:=(c.1,[stX 1000 c.2])) 81 4 81 J J J J J)<|Ye (Yy 7 81 93 J J J J)<|tt (Yx [(0,_),(1,_),(2,_)] 8 (enc:=Zag) [(f,[(d.1,[stX 0 d.2]),(c.1,[stX 1000 c.2])]),(g,[(b.1,[stX 100 b.2]),(d.1,[stX 0 d.2])]),(h,[(b.1,[stX 100 b.2]),(c.1,[stX 1000 c.2])])] J J K6 Zkd ti27 J J J J J pPPq.cells J J k.h) (λB _=>?_);refine Ye (Yz 8 J J pPPq)<|Ye (Ya qPP 82)<|Ye (Zh (q:=qPP) (z:=(f,[(d.1,[stX 0 d.2]),(c.1,[stX 1000 c.2])])) 82 91 82 J J J J J)<|Ye (Zh (q:=qPP) (z:=(g,[(b.1,[stX 100 b.2]),(d.1,[stX 0 d.2])])) 82 92 82 J J J J J)<|Ye (Zh (q:=qPP) (z:=(h,[(b.1,[stX 100 b.2]),(c.1,[stX 1000 c.2])])) 82 93 82 J J J J J)<|Ye (Yy 8 82 94 J J J J)<|go 1 ?_;refine dt (Qf [(0,_),(1,_),(2,_)] J K6 (λa w hs=>Yua ((Zl J) a w hs) ((Zl J) a w hs) ((Zl J) a w hs)))<|go 1 ?_;refine cl 9 [94] (Zp5 (kxL f g h d.1 b.1 c.1 d.2 b.2 c.2) j 50 1 1 i (ky_g _ _ _ _ _ _ _ _ _) (ky_l _ _ _ _ _ _ _ _ _)) λD _=>go 12<|kt (aF (l f g h d.1 b.1 c.1 d.2 b.2 c.2).1)<|go 3<|ktg (aF (l f g h d.1 b.1 c.1 d.2 b.2 c.2).2.1)<|go 4 ?_;refine Hx 9 [9,1] (Aa e) λ_ _=>go 5 ?_;exact Yq p () results56 (vB (aF (l f g h d.1 b.1 c.1 d.2 b.2 c.2).2.2).symm) aA Za
def Zbs:Xq prog 11 #[] [] (.bool true):=by refine Zg func11 ntmps11 λx u l n=>?_;refine Zf (Qi 98 1 3 Yd)<|Zf (Yz 98 J J pZ)<|go 8 ?_;refine tt (Yx [(0,_),(1,_),(2,_)] 1 (enc:=Yd) ([0,0,1]:List Int) J J K6 Ql ti3 J J J J J pZ.cells J J l.h) λv _=>cl 1 [1] (Zzi _ 50 100 1 [0,0,1] (λ_ _ _ _ _ _ _ _ _=>by rw [ky_f];exact⟨rfl,rfl,rfl⟩)) λ_ _=>go 2 ?_;refine Hx 1 [98] (Zzi _ 150 100 2 [] (λ_ _ _ _ _ _ _ _ _=>by rw [ky_n];exact⟨rfl,rfl,rfl⟩)) λ_ _=>go 3 ?_;refine Hx 1 [98] (Zzi _ 50 3 0 [] (λ_ _ _ _ _ _ _ _ _=>by rw [ky_u];exact⟨rfl,rfl,rfl⟩)) λ_ _=>go 9 ?_;refine cl 1 [] (Cl 0 0 0) λ_ _=>?_;refine tt (Yx [(0,_)] 2 (enc:=Ic) wyP J J K2 Zlw ti61 J J Zqb J J pPt.cells J J l.h) (λp _=>?_);refine Ye (Yz 2 J J pPt)<|cl 2 [] (Cl 0 0 100) λ_ _=>?_;refine tt (Yx [(0,_)] 3 (enc:=Ic) wyQ J J K2 Zlw ti61 J J Zqb J J pPt.cells J J l.h) (λr _=>?_);refine Ye (Yz 3 J J pPt)<|dt (Qf [(0,_),(1,_),(2,_)] J K6 (λa w hs=>Yuc ((Zl J) a w hs) ((Zl J) a w hs) ((Zl J) a w hs)))<|tt (Yx [(0,_)] 4 (enc:=Yd) ([1]:List Int) J J K2 Ql ti3 J J J J J pZ.cells J J l.h) (λs _=>?_);refine Ye (Yz 4 J J pZ)<|cl 5 [2,3,4] (Yly wyP wyQ [1] 500 1000 3 0) λo k=>go 11<|kf (aE wy_p)<|go 3<|kfg (aE (λh=>h (by rw [Yph k];rfl)))<|go 7<|Zf (Oj 5 55 (o.2.getD 0 PT0) J J (Zd (by rw [Yph k];decide)) J)<|Lv (λ_=>False) [14] ?_;refine Zk 2 [(0,0),(1,0),(2,0),(3,1),(4,1),(5,1),(6,1),(7,1),(8,1),(9,1),(10,1),(11,1),(12,1)]<|go 2 ⟨by rw [Yph k];decide,?_⟩;refine Xb J J (Qa (Xd 5 PT0 J J J Ze pPq (by rw [Yph k];decide)))<|Ys (Zp 5 [] (Cl 0 0 0)) λ_ _=>Ys (Zp 5 [] (Cl 0 0 0)) λ_ _=>Ys (Zp 6 [] (Ac 0 0 0 0 0 0 0 500 2 ⟨O3,O3⟩ ⟨O3,O3⟩ ⟨O3,O3⟩ ⟨O3,O3⟩ ⟨O3,O3⟩ ⟨O3,O3⟩)) λ⟨m,b,c⟩ _=>Ys (Zp 8 [] (Cl 0 0 0)) λ_ _=>Ys (Zp 8 [] (Cl 0 0 100)) λ_ _=>Ys (Zp 9 [] (Ac 0 0 0 0 0 100 500 1500 0 ⟨O3,O3⟩ ⟨O3,O3⟩ ⟨O3,O3⟩ ⟨O3,O3⟩ ⟨O3,O3⟩ ⟨O3,O3⟩)) λ⟨d,e,f⟩ _=>Ys (Zp 11 [] (Cl 0 0 100)) λ_ _=>Ys (Zp 11 [] (Cl 0 0 100)) λ_ _=>Ys (Zp 12 [] (Ac 0 0 100 0 0 100 1500 2000 2 ⟨O3,O3⟩ ⟨O3,O3⟩ ⟨O3,O3⟩ ⟨O3,O3⟩ ⟨O3,O3⟩ ⟨O3,O3⟩)) λ⟨g,i,j⟩ _=>?_;refine Lm J (Yx [(0,_),(1,_),(2,_)] 15 (enc:=Qt) [Di (0,0,0) (0,0,0) 0 500 2 (m,b,c),Di (0,0,0) (0,0,100) 500 1500 0 (d,e,f),Di (0,0,100) (0,0,100) 1500 2000 2 (g,i,j)] J J K6 Mm ti116 J J fill36 J J pG.cells J J l.h) λt _=>go 1 ?_;refine Oz (Yz 15 J J pG)<|Oz (Ya qG 71)<|Oz (Ya qC 74)<|Oz (Zh (q:=qC) (z:=(Di (0,0,0) (0,0,0) 0 500 2 (m,b,c)).2.1) 74 6 74 J J J J J)<|Oz (Zh (q:=qC) (z:=(Di (0,0,0) (0,0,0) 0 500 2 (m,b,c)).2.2.1) 74 7 74 J J J J J)<|Oz (Zh (q:=qC) (z:=(Di (0,0,0) (0,0,0) 0 500 2 (m,b,c)).2.2.2) 74 8 74 J J J J J)<|Oz (Zh (q:=qG) (z:=Di (0,0,0) (0,0,0) 0 500 2 (m,b,c)) 71 74 71 J J J J J)<|Oz (Ya qC 74)<|Oz (Zh (q:=qC) (z:=(Di (0,0,0) (0,0,100) 500 1500 0 (d,e,f)).2.1) 74 9 74 J J J J J)<|Oz (Zh (q:=qC) (z:=(Di (0,0,0) (0,0,100) 500 1500 0 (d,e,f)).2.2.1) 74 10 74 J J J J J)<|Oz (Zh (q:=qC) (z:=(Di (0,0,0) (0,0,100) 500 1500 0 (d,e,f)).2.2.2) 74 11 74 J J J J J)<|Oz (Zh (q:=qG) (z:=Di (0,0,0) (0,0,100) 500 1500 0 (d,e,f)) 71 74 71 J J J J J)<|Oz (Ya qC 74)<|Oz (Zh (q:=qC) (z:=(Di (0,0,100) (0,0,100) 1500 2000 2 (g,i,j)).2.1) 74 12 74 J J J J J)<|Oz (Zh (q:=qC) (z:=(Di (0,0,100) (0,0,100) 1500 2000 2 (g,i,j)).2.2.1) 74 13 74 J J J J J) ?_;refine Oz (Zh (q:=qC) (z:=(Di (0,0,100) (0,0,100) 1500 2000 2 (g,i,j)).2.2.2) 74 14 74 J J J J J)<|Oz (Zh (q:=qG) (z:=Di (0,0,100) (0,0,100) 1500 2000 2 (g,i,j)) 71 74 71 J J J J J)<|Oz (Yy 15 71 72 J J J J)<|Zk 0 [(13,1),(14,3)]<|Ys (Zp 15 [55,72] Ykc) λ_ _=>go 2 ?_;refine Zu<|go 2 ?_;exact Yq n () results11 (by rw [aF (wy_s k _ _ _)]) aA Za
section
variable {fo:SL} {po:List Hj} {ph:List PgT} {fl fu e:Int} {q:Hj}
end
end Go.Sky
namespace Go.Sky
variable{qs a' b' xs:List Zt}{us:List Cf}{w:WvT}
def nul(g:Zt):Zt:=(g.1,((none,0,0),g.2.1.2),((none,0,0),g.2.2.1.2),((none,0,0),g.2.2.2.2))
theorem Zm0{ps:List Zt}(h:ps.map Nw=qs.map Nw):ps.map nul=qs.map nul:=by
 have a:∀l:List Zt,l.map nul=(l.map Nw).map λu=>(u.1,((none,0,0),u.2.1),((none,0,0),u.2.2.1),((none,0,0),u.2.2.2)):=λl=>by rw [gG];rfl
 rw [a,a,h]
theorem Zr2{p:Zt->Bool}(a:∀g,p (nul g)=p g)(ps:List Zt):(ps.map nul).filter p=(ps.filter p).map nul:=by rw [List.filter_map];congr 1;exact aD (λq=>List.filter q ps) (funext a)
theorem nul_F(ps:List Zt):spF (ps.map nul)=spF ps:=by unfold spF;cases ps<;>rfl
theorem nul_L(ps:List Zt):spL (ps.map nul)=spL ps:=by unfold spL;rw [aT,aK,aK,eT];cases ps[ps.length-1]?<;>rfl
theorem Zm2(fr a:Int)(ps:List Zt):Px fr a (ps.map nul)=Px fr a ps:=by unfold Px;rw [Zr2 (λ_=>rfl),List.all_map];rfl
theorem Ylb(fr a:Int)(ps:List Zt):Zby fr a (ps.map nul)=Zby fr a ps:=by unfold Zby;rw [Zm2,Zr2 (λ_=>rfl),gG];rfl
theorem Yrn(fr a:Int)(ps:List Zt):inn fr a (ps.map nul)=inn fr a ps:=by unfold inn;rw [Zr2 (λ_=>rfl),gG];rfl
theorem Ycj(a b:List Zt):Mu (a.map nul) (b.map nul)=Mu a b:=by unfold Mu Zfs cmF cmL;simp only [nul_F,nul_L,Yrn]
theorem Zm3(ts:List Int)(ps:List Zt):∀n,Zdz ts (ps.map nul) n=Zdz ts ps n
 | 0=>rfl
 | n+1=>by simp only [Zdz,Zm3 ts ps n,Ylb]
theorem Zpz(ts:List Int)(a b:List Zt):∀n,Eb ts (a.map nul) (b.map nul) n=Eb ts a b n
 | 0=>rfl
 | n+1=>by simp only [Eb,Zpz ts a b n,Zm2]
theorem Zv4(a b:List Zt):Eg (a.map nul) (b.map nul)=Eg a b:=by unfold Eg Zz8 cmF cmL;rw [Ycj,Zpz];simp only [nul_F,nul_L]
theorem Zm1(a b:List Zt):Ey (a.map nul) (b.map nul)=Ey a b:=by unfold Ey;rw [Zv4]
theorem Yla(D n d:Int)(a b:List Zt):Kj D n d (a.map nul) (b.map nul)=Kj D n d a b:=by unfold Kj Lh;rw [Zv4,Ycj,Zm3,Zm3]
theorem Yck(D n d:Int)(a b:List Zt):apZ D n d (a.map nul) (b.map nul)=apZ D n d a b:=by unfold apZ;rw [Zm1,Yla]
theorem apZ_un{D n d:Int}{a b:List Zt}(c:a.map Nw=a'.map Nw)(e:b.map Nw=b'.map Nw):apZ D n d a b=apZ D n d a' b':=by rw [<-Yck D n d a b,<-Yck D n d a' b',Zm0 c,Zm0 e]
theorem Ysj{a b:List Zt}(c:a.map Nw=a'.map Nw)(d:b.map Nw=b'.map Nw):Ey a b=Ey a' b':=by rw [<-Zm1 a b,<-Zm1 a' b',Zm0 c,Zm0 d]
theorem Zv3(ps:List Zt)(i:Nat):(ps.map nul).getD i G0=nul (ps.getD i G0):=by rw [aK,eT,aK];cases ps[i]?<;>rfl
theorem Zv2(ps:List Zt):Xl (ps.map nul)=Xl ps:=by
 have e:Ee (ps.map nul)=Ee ps:=mS λi=>by unfold Ee;rw [Zv3,Zv3];rfl
 unfold Xl;grind
theorem Ykv{a:List Zt}(h:a.map Nw=a'.map Nw):Xl a=Xl a':=by rw [<-Zv2 a,<-Zv2 a',Zm0 h]
def lfU(u:Cf):Zt:=(u.1,((none,0,0),u.2.1),((none,0,0),u.2.2.1),((none,0,0),u.2.2.2))
theorem Zzh(us:List Cf):(us.map lfU).map Nw=us:=by rw [gG];exact lC _
theorem Yr1(h:xs.map Nw=us):xs.map Nw=(us.map lfU).map Nw:=by rw [Zzh,h]
theorem gs1(a:Int)(x y z:List Int):∀i,gS 1 a 1 x y z i=1
 | 0=>rfl
 | i+1=>by show((Int.gcd _ _):Int)=1;rw [gs1 a x y z i,Int.gcd_one_left];rfl
theorem sm_1{x y z a b c:List Int}(d:pl x 1 1=pl a 0 1)(e:pl y 1 1=pl b 0 1)(f:pl z 1 1=pl c 0 1):Yjd 1 1 1 x y z 1 0 1 a b c=true:=by unfold Yjd;grind [gs1]
theorem Zjz(a d:Int):pl [a] d 1=a:=by simp [pl,plS,plT]
theorem Yks{a b:Int}:pl (Ct a b Zdp) 0 1=a:=by
 show pl (glC a b) 0 1=a;by_cases h:a=b
 .grind [Zzo,Zjz]
 .rw [Zzn h];simp [pl,plS,plT]
theorem Ykr{a b:Int}:pl (Ct a b Zdp) 1 1=b:=by
 show pl (glC a b) 1 1=b;by_cases h:a=b
 .grind [Zzo,Zjz]
 .rw [Zzn h];simp [pl,plS,plT];omega
section
variable {p q:Hj} {fr to t2:Int}
theorem me_hg:meG (lfU (hvU p fr to)) (lfU (glU p q to t2))=true:=by unfold meG Znd;rw [aF (show(lfU _).1.2.1=(lfU _).1.1 from rfl)];exact sm_1 ((Zjz _ _).trans (Yks).symm) ((Zjz _ _).trans (Yks).symm) ((Zjz _ _).trans (Yks).symm)
theorem me_gh:meG (lfU (glU p q fr to)) (lfU (hvU q to t2))=true:=by unfold meG Znd;rw [aF (show(lfU _).1.2.1=(lfU _).1.1 from rfl)];exact sm_1 ((Ykr).trans (Zjz _ _).symm) ((Ykr).trans (Zjz _ _).symm) ((Ykr).trans (Zjz _ _).symm)
theorem se_gl(a:ptT p=true)(b:ptT q=true)(i:0<=fr)(j:fr<to)(k:to<=3600000):seB (lfU (glU p q fr to))=true:=by obtain⟨c,d,e⟩:=Zrm a;obtain⟨f,g,h⟩:=Zrm b;show Zak fr to 1 (glC p.1 q.1) (glC _ _) (glC _ _)=true;unfold Zak Zyd;grind [gl_axB,Ymm]
theorem Ybe(a:ptT p=true)(b:0<=fr)(c:fr<to)(d:to<=3600000):seB (lfU (hvU p fr to))=true:=by
 have h:=se_gl a a b c d;have e:lfU (glU p p fr to)=lfU (hvU p fr to):=by unfold glU hvU Ct;simp
 grind
structure GiU (u:Cf):Prop where
 f:Mw u.1.1
 t:Mw u.1.2.1
 o:Mw u.1.2.2
 x:∀a∈u.2.1,Mw a
 y:∀a∈u.2.2.1,Mw a
 z:∀a∈u.2.2.2,Mw a
def gi_of{g:Zt}(h:GiU (Nw g)):Gin g:=⟨h.f,h.t,h.o,h.x,h.y,h.z⟩
theorem gi_gl(i:ptT p=true)(j:ptT q=true)(g:Mw fr)(h:Mw to):GiU (glU p q fr to):=by obtain⟨a,b,c⟩:=Zrm i;obtain⟨d,e,f⟩:=Zrm j;exact⟨g,h,show Mw (1)from⟨O,O⟩,Ymj a d 2,Ymj b e 2,Ymj c f 2⟩
theorem Yml(c:ptT p=true)(a:Mw fr)(b:Mw to):GiU (hvU p fr to):=by
 have e:glU p p fr to=hvU p fr to:=by unfold glU hvU Ct;simp
 grind [gi_gl]
end
theorem pth1{a:Zt}(h:seB a=true):Xl [a]=true:=by
 have b:Ee [a] 0=true:=by unfold Ee;grind
 grind [Zhd]
theorem pth2{a b:Zt}(h:seB a=true)(e:seB b=true)(m:meG a b=true):Xl [a,b]=true:=by
 have c:Ee [a,b] 0=true:=by unfold Ee;grind
 have d:Ee [a,b] 1=true:=by unfold Ee;grind
 grind [Zhd]
theorem pth3{a b c:Zt}(h:seB a=true)(d:seB b=true)(g:seB c=true)(m:meG a b=true)(i:meG b c=true):Xl [a,b,c]=true:=by
 have e:Ee [a,b,c] 0=true:=by unfold Ee;grind
 have f:Ee [a,b,c] 1=true:=by unfold Ee;grind
 have d:Ee [a,b,c] 2=true:=by unfold Ee;grind
 grind [Zhd]
section
variable {p q:Hj} {gap fl wv t n:Int} (hp:ptT p=true) (hq:ptT q=true) (hw:wvB (gap,fl,wv)=true) (ht:0<=t) (hl:lnd (gap,fl,wv) t<=3600000) (hn:0<=n/\n<wv)
include hp hq hw ht hl hn
theorem Yrw:Xl ((lpP p q (gap,fl,wv) t n).map lfU)=true/\(∀u∈lpP p q (gap,fl,wv) t n,GiU u)/\(lpP p q (gap,fl,wv) t n).length<=3:=by
 have a:=Zt2 hw;have d:=hl;unfold lnd at d;dsimp only at a d;have f:=Zzc a.1 a.2.1 (n:=n) hn.1 O;have h:=Yln a.1 (show n<=wv-1 by omega);have e:t+n*gap+fl<=lnd (gap,fl,wv) t:=by unfold lnd;grind
 have k:Mw t:=⟨O,O⟩;have i:Mw (t+n*gap):=⟨O,O⟩;have j:Mw (t+n*gap+fl):=⟨O,O⟩;have l:Mw (lnd (gap,fl,wv) t):=⟨O,O⟩;have g:=gi_gl hp hq i j;have s:=se_gl hp hq (show 0<=t+n*gap by omega) (show t+n*gap<t+n*gap+fl by omega) O;unfold lpP;dsimp only;by_cases b:t<t+n*gap<;>by_cases c:t+n*gap+fl<lnd (gap,fl,wv) t
 .rw [Zfb b,Zfb c];refine⟨pth3 (Ybe hp ht b O) s (Ybe hq O c hl) me_hg me_gh,?_,aH _⟩;simp_all [dK,eE,bD,cM,fA,Yml]
 .rw [Zfb b,Zfc c];refine⟨pth2 (Ybe hp ht b O) s me_hg,?_,O5⟩;simp_all [dK,eE,bD,cM,fA,Yml]
 .rw [Zfc b,Zfb c];refine⟨pth2 s (Ybe hq O c hl) me_gh,?_,O5⟩;simp_all [dK,eE,bD,cM,fA,Yml]
 .rw [Zfc b,Zfc c];simp_all [pth1,dK,eE,bD,cM,fA]
theorem lp_ok(h:xs.map Nw=lpP p q (gap,fl,wv) t n):(∀g∈xs,Gin g)/\Xl xs=true/\xs.length<=5:=by
 obtain⟨b,a,c⟩:=Yrw hp hq hw ht hl hn;refine⟨λg d=>gi_of (a _ O4),?_,?_⟩
 .grind [Ykv,Yr1]
 grind
end
abbrev Zkc (a:List PPT):List (List (List Cf)):=a.map λx=>Zgo x.2
def apU(us:List (List (List Cf)))(z:ZnT):ApF:=λa i c k=>apA z (((us.getD a []).getD i []).map lfU) (((us.getD c []).getD k []).map lfU)
theorem apA_un{z:ZnT}{a b:List Zt}(c:a.map Nw=a'.map Nw)(d:b.map Nw=b'.map Nw):apA z a b=apA z a' b':=by unfold apA;grind [apZ_un,Ysj]
theorem Yk0(b:List PPT)(a i:Nat):(opt b a i).map Nw=((Zkc b).getD a []).getD i []:=by unfold opt Zkc;grind
theorem apO_un(b:List PPT)(z:ZnT):Fj b z=apU (Zkc b) z:=by funext a i c k;exact apA_un (by rw [Yk0,Zzh]) (by rw [Yk0,Zzh])
theorem ns_un(a:List PPT):Bl a=(Zkc a).map List.length:=by unfold Bl Zkc;simp
def scR(p q:Hj)(w:WvT)(t:Int)(k:Nat):List (List Cf):=(List.range k).map λn:Nat=>lpP p q w t (n:Int)
def scL(a b:List Hj)(w:WvT)(t:Int)(k:Nat):List (List (List Cf)):=(List.range k).map λi=>scR (a.getD i Pt0) (b.getD i Pt0) w t w.2.2.toNat
theorem scR_s{p q:Hj}{t:Int}{k:Nat} : scR p q w t (k+1)=scR p q w t k ++ [lpP p q w t (k:Int)]:=by unfold scR;rw [jF,bN];rfl
theorem scL_s{a b:List Hj}{t:Int}{k:Nat} : scL a b w t (k+1)=scL a b w t k ++ [scR (a.getD k Pt0) (b.getD k Pt0) w t w.2.2.toNat]:=by unfold scL;rw [jF,bN];rfl
def Zo5{a:List PPT}{z:PPT} : Zkc (a ++ [z])=Zkc a ++ [Zgo z.2]:=bN
theorem Zq6{p q:Hj}{t:Int}{k:Nat}{a:List PT}(h:Zgo a=scR p q w t k):a.length=k:=by have:=aD List.length h;simpa [scR]using this
theorem Zq7{a b:List Hj}{t:Int}{k:Nat}{c:List PPT}(h:Zkc c=scL a b w t k):c.length=k:=by have:=aD List.length h;simpa [scL]using this
def scV(a b:List Hj)(w:WvT)(t:Int)(z:ZnT)(c:Int):RnT:=
 if lkE a b w t (!okZ z c)=0 then rnA (apU (scL a b w t a.length) z) ((scL a b w t a.length).map List.length) c.toNat else([],0,lkE a b w t (!okZ z c))
section
variable {a b:List Hj} {gap fl wv t bd:Int} {z:ZnT} {ls:List PPT}
def scV_e(h:lkE a b (gap,fl,wv) t (!okZ z bd)≠0):scV a b (gap,fl,wv) t z bd=([],0,lkE a b (gap,fl,wv) t (!okZ z bd)):=aJ h
theorem scV_r(h:lkE a b (gap,fl,wv) t (!okZ z bd)=0)(c:Zkc ls=scL a b (gap,fl,wv) t a.length):scV a b (gap,fl,wv) t z bd=rnA (Fj ls z) (Bl ls) bd.toNat:=by rw [apO_un,ns_un,c];exact aM h
theorem sc_ok(F:lkE a b (gap,fl,wv) t (!okZ z bd)=0)(I:Zkc ls=scL a b (gap,fl,wv) t a.length):okZ z bd=true/\OkL ls z/\(ls.all λx=>Bo x.2)=true/\(ls.any λx=>decide (64<x.2.length))=false/\ls.length<=64:=by
 obtain⟨B,v,h⟩:=Yc2 F;obtain⟨m,hw,Q,D,ht,k,l⟩:=Zwc B;have o:okZ z bd=true:=O4;obtain⟨N,P,S⟩:=Zvz o;have H:=Zt2 hw;have G:=Zq7 I;have d:∀x∈ls,x.2.length<=64/\∀y∈x.2,(∀g∈y.2,Gin g)/\Xl y.2=true/\y.2.length<=5:=by intro x M;have r:Zgo x.2∈scL a b (gap,fl,wv) t a.length:=O4;obtain⟨i,hi,R⟩:=dZ.1 r;have f:=fU.1 hi;refine⟨by grind [Zq6],λy e=>?_⟩;have s:y.2.map Nw∈scR (a.getD i Pt0) (b.getD i Pt0) (gap,fl,wv) t (gap,fl,wv).2.2.toNat:=O4;obtain⟨n,hn,u⟩:=dZ.1 s;have j:=fU.1 hn;dsimp only at j;exact lp_ok (Zfg k f) (Zfg l O) hw ht.1 h (show 0<=(n:Int)/\(n)<wv by omega) u.symm
 refine⟨o,⟨λx c y e=>(d x c).2 y e,N,P,λx c=>(d x c).1⟩,?_,?_,O⟩
 .exact bZ.2 λx c=>bZ.2 λy e=>((d x c).2 y e).2.1
 grind
end
end Go.Sky
namespace Go.Sky
abbrev PrT:=(Int×Int×Int×Int)×Bool×Int
abbrev Pr0:PrT:=((0,0,0,0),false,0)
abbrev Zj6 (x:PrT):Value:= .agg #[.int .i64 x.1.1,.int .i64 x.1.2.1,.int .i64 x.1.2.2.1,.int .i64 x.1.2.2.2,.bool x.2.1,.int .i64 x.2.2]
def CkP(a:List PPT)(z:ZnT)(ps:List PrT):Prop:=
 ∀p∈ps,∃i o k m:Nat,p=(((i:Int),(o:Int),(k:Int),(m:Int)),(Fj a z k m i o).1,(Fj a z k m i o).2)
def Ytk{a:List PPT}{z:ZnT}:CkP a z []:=λp h=>by cases h
section
variable {ls:List PPT} {z:ZnT} {ps:List PrT} {i o k m n:Nat}
theorem Ytl(h:CkP ls z ps):CkP ls z (ps ++ [(((i:Int),(o:Int),(k:Int),(m:Int)),(Fj ls z k m i o).1,(Fj ls z k m i o).2)]):=λp b=>by
 rcases cP.1 b with a|a
 .exact h p a
 .rw [cI.1 a];exact⟨i,o,k,m,rfl⟩
theorem ckp_at(h:CkP ls z ps)(g:n<ps.length)(a:(ps.getD n Pr0).1.1=(i:Int))(b:(ps.getD n Pr0).1.2.1=(o:Int))(c:(ps.getD n Pr0).1.2.2.1=(k:Int))(f:(ps.getD n Pr0).1.2.2.2=(m:Int)) :
  ps.getD n Pr0=(((i:Int),(o:Int),(k:Int),(m:Int)),(Fj ls z k m i o).1,(Fj ls z k m i o).2):=by
 obtain⟨j,q,l,p,e⟩:=h _ (Zd (d:=Pr0) g);rw [e]at a b c f ⊢;simp only [Int.ofNat_inj]at a b c f;subst a;subst b;subst c;subst f;rfl
end
theorem Ykh(x:PrT)(i o k m:Nat):¬x.1.1=(i:Int)\/(x.1.1=(i:Int)/\¬x.1.2.1=(o:Int))\/(x.1.1=(i:Int)/\x.1.2.1=(o:Int)/\¬x.1.2.2.1=(k:Int))\/
  (x.1.1=(i:Int)/\x.1.2.1=(o:Int)/\x.1.2.2.1=(k:Int)/\¬x.1.2.2.2=(m:Int))\/(x.1.1=(i:Int)/\x.1.2.1=(o:Int)/\x.1.2.2.1=(k:Int)/\x.1.2.2.2=(m:Int)):=by
 by_cases a:x.1.1=(i:Int)<;>by_cases b:x.1.2.1=(o:Int)<;>by_cases c:x.1.2.2.1=(k:Int)<;>by_cases d:x.1.2.2.2=(m:Int)<;>simp [a,b,c,d]
theorem apA_e{z:ZnT}{p q:List Zt}(h:(apA z p q).2≠0):(apA z p q).1=false:=by
 unfold apA at h ⊢;split
 .rename_i a;rw [aM a]at h;exact absurd rfl h
 .rfl
section
variable {z:ZnT} {bd:Int}
theorem Ypm(h:(!dsB z.1)=true):(!okZ z bd)=true:=by unfold okZ;rw [Ce h];rfl
theorem Ypl(h:(!znB z.2.1 z.2.2.1 z.2.2.2)=true):(!okZ z bd)=true:=by unfold okZ;rw [Ce h];simp
theorem Ypk(h:bd<0):(!okZ z bd)=true:=by unfold okZ;rw [aE (show ¬(0<=bd/\bd<=100000) by omega)];simp
theorem Ypj(a:(!dsB z.1)=false)(b:(!znB z.2.1 z.2.2.1 z.2.2.2)=false)(c:¬bd<0):(!okZ z bd)=decide (bd>100000):=by
 unfold okZ;rw [Dg a,Dg b];by_cases h:bd>100000
 .rw [aF h,aE (show ¬(0<=bd/\bd<=100000) by omega)];rfl
 .rw [aE h,aF (show 0<=bd/\bd<=100000 by omega)];rfl
end
def Ya2{bd b:Nat}(h:0<b):(bd:Int)-(b:Int)+1=(bd:Int)-((b-1:Nat):Int):=O
section
variable {ap:ApF} {ch:List Nat} {n nx j:Nat} {gd:Bool} {F0:Bool×Int}
theorem Ymr(e:j<ch.length)(b:(gd=true/\Gs ap n nx (ch.drop j) j=F0)\/(gd=false/\F0=(false,0)))(d:gd=true)(c:(ap j (ch.getD j 0) n nx).2=0) :
  ((ap j (ch.getD j 0) n nx).1=true/\Gs ap n nx (ch.drop (j+1)) (j+1)=F0)\/((ap j (ch.getD j 0) n nx).1=false/\F0=(false,0)):=by
 rcases b with⟨_,a⟩|⟨a,_⟩
 .rw [Zss ch j e]at a;cases ha:(ap j (ch.getD j 0) n nx).1 with
  | true=>rw [ha,aM rfl]at a;exact .inl ⟨rfl,a⟩
  | false=>rw [ha,aJ O3,c]at a;exact .inr ⟨rfl,a.symm⟩
 .rw [d]at a;cases a
theorem fit_t(b:(gd=true/\Gs ap n nx (ch.drop j) j=F0)\/(gd=false/\F0=(false,0)))(c:gd=true)(d:ch.length<=j):F0.1=true:=by
 rcases b with⟨_,a⟩|⟨a,_⟩
 .rw [<-a,Ydk ch j d]
 .rw [c]at a;cases a
theorem fit_f(b:(gd=true/\Gs ap n nx (ch.drop j) j=F0)\/(gd=false/\F0=(false,0)))(c:gd=false):F0.1=false/\F0.2=0:=by
 rcases b with⟨a,_⟩|⟨_,a⟩
 .rw [c]at a;cases a
 .rw [a];exact⟨rfl,rfl⟩
theorem Ydj{ls:List PPT}{z:ZnT}(f:j<ch.length)(b:(gd=true/\Gs (Fj ls z) n nx (ch.drop j) j=F0)\/(gd=false/\F0=(false,0)))(e:gd=true)(d:(Fj ls z j (ch.getD j 0) n nx).2≠0):F0=(false,(Fj ls z j (ch.getD j 0) n nx).2):=by
 have c:(Fj ls z j (ch.getD j 0) n nx).1=false:=apA_e d;rcases b with⟨_,a⟩|⟨a,_⟩
 .rw [Zss ch j f,c,aJ O3]at a;exact a.symm
 .rw [e]at a;cases a
theorem Ybr{ls:List PPT}{f bd:Nat}{R:RnT}{e:Int}(c:rnF ap (Bl ls) f ch nx bd=R)(p:2*bd+ch.length+1<=f)(d:0<bd)(g:ch.length<ls.length)(b:nx<(Bl ls).getD ch.length 0)(a:Gs ap ch.length nx ch 0=(false,e))(l:e≠0):R=([],0,e):=by have h:=Ybs c p d g b (by rw [a];exact l);rw [a]at h;exact h
end
end Go.Sky
namespace Go.Sky
open Go Go.Proofs
def pPr:Enc Tryz.prog 208 6 Zj6:=Enc.agg O3 Tryz.sizeOf208 Tryz.isAgg208 (λx=>⟨[.int .i64 x.1.1,.int .i64 x.1.2.1,.int .i64 x.1.2.2.1,.int .i64 x.1.2.2.2,.bool x.2.1,.int .i64 x.2.2],rfl,rfl,O12⟩)
@[reducible,instance] def encPrI:EncT Tryz.prog 208 6 Zj6:=⟨pPr⟩
end Go.Sky
namespace Go.Sky
open Go.Proofs
variable{xs q p:List Int}{f:Nat}
def pC:Enc Tryz.prog 25 1 (Nk (α:=List Int)):=Enc.flat Tryz.sizeOf25 Tryz.isAgg25 (λ_=>rfl)
abbrev C0:SL×List Int:=((none,0,0),[])
open Go.Proofs.Tryz
set_option synthInstance.maxHeartbeats 0
set_option synthInstance.maxSize 100000
set_option maxRecDepth 20000
set_option linter.unusedSimpArgs false
theorem Zci{fr h g:Int}{a b c:SL}{x y z:List Int}:Cal prog 198 #[.agg #[.int .i64 fr,.int .i64 h,.int .i64 g,Xi a,Xi b,Xi c]] [Ym 1 Yd (Xi a) x,Ym 1 Yd (Xi b) y,Ym 1 Yd (Xi c) z] true (G:=Value) (λr=>True) (λr=>r) (λr=>[Qb 1 (Nk (α:=List Int)) qC r [(a,x),(b,y),(c,z)]]):=by refine Zg func198 ntmps198 λk j e d=>go 2 ?_;refine Yk (Yf 4) λi _=>go 11 ?_;refine tt (Yx [(0,_),(1,_),(2,_)] 5 (enc:=(Nk (α:=List Int))) ([(a,x),(b,y),(c,z)]:List (SL×List Int)) J J K6 Zc5 ti25 J J J J J pC.cells J J e.h) λv _=>go 4 ?_;exact Zn (Yz 5 J J pC)<|Zn (Ya qC 71)<|Zn (Zh (q:=qC) (z:=(a,x)) 71 1 71 J J J J J)<|Zn (Zh (q:=qC) (z:=(b,y)) 71 2 71 J J J J J)<|Zn (Zh (q:=qC) (z:=(c,z)) 71 3 71 J J J J J)<|Zn (Yy 5 71 72 J J J J)<|Yq d _ results198 J aA (Qy 72 Za)
theorem Zbn(v:Value)(l:List Int)(k:∀x∈l,Mw x)(m:l.length<=1000):Cal prog 288 #[v] [Ym 1 Yd v l] true (G:=Value×List (Int×SL)) (λr=>Zb r.2=tzl l) (λr=>r.1) (λr=>[pp r.1 r.2]):=by
 refine Zg func288 ntmps288 λF B n d=>?_;have h:=Zq0 k;refine go 17<|Zf (Qi 70 2 167 Ly)<|Zf (Ya qI 71) ?_;refine lp (G:=Nat×Value×List (Int×SL)) [0] [0,1] (λq=>[(4,.int .i64 (q.1:Int)),(3,q.2.1)]) (λq=>[(70,Oc 2 167 Ly q.2.1 q.2.2),(71,Nt qI q.2.2)]) (λq=>(q.1<=l.length)/\(Zb q.2.2=mk q.1 (cf l))/\(q.2.2.length=q.1)) (λq=>l.length-q.1) (0,.slice none 0 0,[]) ⟨O1,rfl,rfl⟩ K2 K2 ?_;rintro⟨i,D,w⟩ ⟨hi,b,a⟩;dsimp only at hi b a;dsimp only;refine go 9<|Zc J (λc=>?_) (λc=>?_)
 .refine go 8 ?_;refine dt (Zv 1 i J J J J Zm Ql Mv J)<|go 1 ⟨O,?_⟩;refine cl 2 [] (Ow _ (k _ (Zd O))) λv _=>?_;refine Znl (Xe 2 J Zm) (λj e=>?_);subst e;refine tt (Yx [(0,_)] 3 (enc:=Ly) [(l.getD i 0,j)] J J K2 Oo ti167 J J J J J pI.cells J J n.h) (λs _=>?_);refine tt (Qr 70 3 32 J J J J J J O3 J (Zo pI) Oo ti167 J pI J J J O9 O3 J n.h) (λu _=>?_);refine go 9 ⟨O,?_⟩;exact Zn (Zh (q:=qI) (z:=(l.getD i 0,j)) 71 2 71 J J J J J)<|Yi (i+1,_,w ++ [(l.getD i 0,j)]) ⟨O1,by rw [Kz,Ad,b];dsimp only;rfl,by simp [a]⟩ O1 K2 K2
 .refine go 6<|Zf (Yz 70 J J pI)<|Zf (Yy 70 71 72 J J J J)<|go 2 ?_;refine cl 4 [72] (Cj (by rw [b];exact Br λt y=>by have:=h t;omega)) λg o=>go 4 ?_;exact Yq d _ results288 J (by rw [o,b,show i=l.length by omega,Zes]) (Qy 4 Za)
theorem Yn9(c:Tr xs)(a:xs≠[])(hs:Sz 320 xs)(b:xs.length<=11):Zbe 13 xs/\Sz 335 (sqf 13 xs)/\(sqf 13 xs).length<=11:=by grind [chG]
theorem Zph(d:Vp xs)(e:xs≠[])(hs:Sz 320 xs)(t:xs.length<=11) :
  Vp (Xf xs)/\Vp (Xg (Xf xs))/\eok 13 (Xf xs) (Xg (Xf xs))/\Lj (Yg (eu 13 (Xf xs) (Xg (Xf xs))))=Nm 13 (Xf xs) (Xg (Xf xs))/\
  Vp (Nm 13 (Xf xs) (Xg (Xf xs)))/\Nm 13 (Xf xs) (Xg (Xf xs))≠[]/\pdv (Xf xs) (Nm 13 (Xf xs) (Xg (Xf xs)))/\
  Xw (Xf xs)<=320/\Xw (Nm 13 (Xf xs) (Xg (Xf xs)))<=335/\(Xf xs).length<=11/\Vp (sqf 13 xs)/\sqf 13 xs≠[]/\Xf (sqf 13 xs)=sqf 13 xs/\(Nm 13 (Xf xs) (Xg (Xf xs))).length<=11:=by
 have j:=Zqz hs;have v:=Pq d.tr;have g:Tr (Xf xs):=Nc (Yu d.tr);have o:=Gz j O;have u:=Oe (Xf xs);have a:=Np g;have x:=Qv j;have z:=aI.2 e;obtain⟨n,y,w⟩:=Yn9 d.tr e hs t;have c:=n.1.2.2.1;have b:eok 13 _ _:=
  (Ydt 5 331 O g a (j.mono O5) o O O5 (Yk9 O O O5) (aB (aO (show(Xf xs).length+1<=12 by omega) (show 325+1<=400 by simp)) O) O).1
 obtain⟨f1,f2,f3,f4,f5,f6⟩:=Ov _ d.tr e c;have r:=Zec 13 g a;have m:=Zi6 d.tr e;have s:fcs 0 13<=2^15*2^15:=O3;have k:=Fr _ 24 r f2 j m g O O s (by grind [Dy]);have i:=Zx9 d;have h:Vp _:=⟨o.mono O5,a,O⟩;have l:=Ox f2 r f3 f5;rw [<-f4]at l;have B:=aI.2 f3;exact⟨i,h,b,Ysg g a b c,Yau i h c,f5,f1,x,Qv k,O,Zlq d e n.1,f3,f6,O⟩
structure RI (xs q:List Int):Prop where
 v:Vp q
 ne:q≠[]
 s:Sz 220 q
 l:q.length<=11
 d:Dp xs (Xf q)
def RI.start(h:Cvd xs)(a:xs≠[]):RI xs xs:=⟨h.v,a,h.s.mono O5,h.l,Dp.start h.v.tr a⟩
theorem Yh9{n:Nat}{e:Int}(a:e=1\/e=-1)(h:Sz n q):Sz n (Zy q e):=λi=>by rw [Yo];have:=h i;grind
theorem RI.step(h:Cvd xs)(n:xs≠[])(b:RI xs q) :
  Tr (sqf 13 q)/\Xw (sqf 13 q)<=235/\(sqf 13 q).length<=11/\0<(sqf 13 q).length/\Yv q≠0/\Sz 220 (Zy (Yg q) 1)/\Tr (Zy (Yg q) 1)/\(Zy (Yg q) 1).length=q.length/\pdv (Zy (Yg q) 1) (sqf 13 q)/\
  Vp (Nf 13 q)/\Nf 13 q≠[]/\Sz 220 (Nf 13 q)/\(Nf 13 q).length<=11/\Yv (Nf 13 q)≠0/\Yg (Nf 13 q)=Nf 13 q/\
  Tr (sqf 13 (Nf 13 q))/\Xw (sqf 13 (Nf 13 q))<=235/\(sqf 13 (Nf 13 q)).length<=11/\0<(sqf 13 (Nf 13 q)).length/\pdv (sqf 13 q) (sqf 13 (Nf 13 q))/\Sz 600 (Lq (sqf 13 q) (sqf 13 (Nf 13 q)))/\(Lq (sqf 13 q) (sqf 13 (Nf 13 q))).length<=11/\
  pdv (Nf 13 q) (sqf 13 (Nf 13 q))/\RI xs (Zaa 13 q)/\((sqf 13 q).length≠1->(Zaa 13 q).length<q.length):=by
 have hl:=h.l;have o:=b.d;have c:=(o.ok h.v.tr n h.s O5 O (show xs.length<=13+1 by omega)).2;have m:Da 13 q:=by unfold Da at c ⊢;rwa [o.2.2.1]at c
 have d:=o.next c;have D:Om 13 (Xf q)=Om 13 q:=Zk8 o.2.2.1;have I:sqf 13 (Xf q)=sqf 13 q:=Ch o.2.2.1;rw [D]at d;have a:=(d.ok h.v.tr n h.s O5 O (show xs.length<=13+1 by omega)).2;have B:=d.next a;obtain⟨⟨e,he,r1,r2,r3,r4,r5,r6⟩,r7,r8,r9,v,M,N⟩:=Zmg b.v.tr b.ne m a;obtain⟨-,-,-,-,-,-,-,-,-,-,-,g,j,w,-,k,-,-⟩:=Zej h n o;obtain⟨-,-,-,-,-,-,-,-,-,-,-,l,x,y,-,r,R,-⟩:=Zej h n d;rw [I]at g j w k;have H:sqf 13 (Nf 13 q)=sqf 13 (Om 13 q):=Ch (by rw [r7,d.2.2.1]);obtain⟨g1,g2⟩:=Zh2 h n d;obtain⟨g3,g4⟩:=Zh2 h n B;have s:Sz 220 (Nf 13 q):=by grind [r3,Yh9]
 have z:(Nf 13 q).length<=11:=by grind [r3,Pv]
 have t:Vp (Nf 13 q):=⟨s.mono O5,r9,O⟩;have u:Sz 220 (Zaa 13 q):=by grind [Yh9]
 have V:(Zaa 13 q).length<=(Om 13 (Om 13 q)).length:=by grind [Pv]
 obtain⟨o1,P,Q,o4⟩:=Cz b.v.tr b.ne m a;have S:fcs 0 13<=2^15*2^15:=O3;have G:=Fr 13 24 Q l.tr j k g.tr O O S P;have F:=Ox Q l.tr o4 r;rw [<-P]at F;have lb:=aI.2 r;have la:=aI.2 k;have W:Zy (Yg q) 1=Yg q:=by refine(Qj _ _).ext (Yu b.v.tr) λi=>?_;rw [Yo,fZ]
 have hx:=Pj b.v.tr b.ne m;have Z:=Pj d.1 d.2.1 a;rw [H];refine⟨g.tr,Qv j,O,la,b.v.ne b.ne,by rw [W];exact Gb b.s,Qj _ _,by grind [Yj],O4,t,v,s,z,t.ne v,r4,l.tr,Qv x,y,lb,o1,G.mono O5,?_,r5,⟨⟨u.mono O5,M,O⟩,N,u,O,O4⟩,λY=>?_⟩
 .show(Bq 13 q).length<=11;omega
 omega
theorem rodd_1{F:Nat}(h:(sqf F p).length=1):Zde F f p=sqf F p:=by
 cases f with
 | zero=>rfl
 | succ f=>unfold Zde;grind
theorem rodd_s{F:Nat}(h:(sqf F p).length≠1):Zde F (f+1) p=Qz (Lq (sqf F p) (sqf F (Nf F p))) (Zde F f (Zaa F p)):=by
 conv=>lhs;unfold Zde
 grind
theorem Ykn{F n:Nat}(t:Tr p)(m:p≠[])(hs:Sz n p)(s:n<=220)(r:p.length<=11)(o:p.length<=F+1):∀(f:Nat) (q:List Int),Dp p q->q.length<=f->∃a:List Int,Tr a/\q=Qz a (Bk F f q):=by
 intro f
 induction f with
 | zero=>intro q b j;have:=aI.2 b.2.1;omega
 | succ f H=>
  intro q b j;have c:=(b.ok t m hs s r o).2;have e:=b.next c;have d:=(e.ok t m hs s r o).2;have h:=e.next d;unfold Bk;by_cases g:(sqf F q).length=1
  .rw [aM g];obtain⟨N,P,s3⟩:=Zgu b.1 b.2.1 c g;refine⟨[1],.inr (show cf [1] 0≠0 by decide),b.1.ext (Qh _ _) λi=>Nq (λx=>?_) i⟩;rw [Xa,N,Yro b.1 b.2.2.1 P,Of];simp
  .rw [aJ g];have I:2<=q.length:=by obtain⟨f1,f2,f3,f4,f5,f6⟩:=Ov F b.1 b.2.1 c;obtain⟨u,v,k,l,w⟩:=Pj b.1 b.2.1 c;grind [List.length_pos_iff]
   have M:=Zns b.1 b.2.1 c I;obtain⟨u,v,k,l,w⟩:=Pj b.1 b.2.1 c;obtain⟨Q,R,S,y,V⟩:=Pj e.1 e.2.1 d;obtain⟨-,t2,t3,-,-,-⟩:=Ov F e.1 e.2.1 d;have Z:=aI.2 t3;obtain⟨A,W,Y⟩:=H _ h O;obtain⟨-,o2,o3,o4⟩:=Cz b.1 b.2.1 c d;rw [b.2.2.1]at l;rw [k]at y;refine⟨Qz (Qz (sqf F (Om F q)) (sqf F (Om F q))) A,Qh _ _,b.1.ext (Qh _ _) λi=>Nq (λx=>?_) i⟩;have z:Zi q x=Zi (sqf F q) x*Zi (Om F q) x:=by grind [Xa]
   have B:Zi (sqf F q) x=Zi (Bq F q) x*Zi (sqf F (Om F q)) x:=by grind [Xa]
   have D:Zi (Om F q) x=Zi (sqf F (Om F q)) x*Zi (Om F (Om F q)) x:=by grind [Xa]
   have G:Zi (Om F (Om F q)) x=Zi A x*Zi (Bk F f (Om F (Om F q))) x:=by grind [Xa]
   rw [Xa,Xa,Xa,Xa,z,B,D,G];show _=_*(Zi (Bq F q) x*_);grind
theorem RI.size(h:Cvd xs)(c:xs≠[])(d:RI xs q)(u:q.length<=f):Tr (Zde 13 f q)/\Sz 460 (Zde 13 f q)/\(Zde 13 f q).length<=11:=by
 have v:=h.l;have a:=d.d;have e:Zde 13 f q=Bk 13 f (Xf q):=by rw [Ybo h.v.tr c h.s O5 O O f q d.v.tr d.ne a];exact Zmu a.2.2.1.symm f
 have r:=Pq d.v.tr;obtain⟨A,k,n⟩:=Ykn h.v.tr c h.s O5 O (show xs.length<=13+1 by omega) f _ a O;obtain⟨l,t⟩:=Zh2 h c a;have b:=(a.ok h.v.tr c h.s O5 O (show xs.length<=13+1 by omega)).2;have i:=Zk0 xs (f:=f) a.1 a.2.1 b;rw [e];have o:fcs 0 13<=2^15*2^15:=O3;have s:Bk 13 f (Xf q)≠[]:=λm=>a.2.1 (by grind [Zck]);have j:A≠[]:=λm=>a.2.1 (by grind [Fm]);have g:=Ox k i j s;rw [<-n]at g;have:=aI.2 j;exact⟨i,(Fr _ 24 i k l a.2.1 a.1 O O o (by grind [Dy])).mono O5,O⟩
theorem Yfu(h:Cvd xs)(a:xs≠[]):Zde 13 xs.length xs=Ih xs:=by have b:=h.l;exact(Yk5 h.v.tr a h.s O5 O (show xs.length<=13+1 by omega)).symm
end Go.Sky

