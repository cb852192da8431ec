/- Rules, arithmetic and contracts: part 15. No conditions but those that each theorem names. -/
import Derived.Test.YtpmihempjefadaaGreatAo13
set_option linter.all false
set_option maxHeartbeats 4000000
namespace Go.Sky
open Go.Proofs
set_option linter.all false
set_option synthInstance.maxHeartbeats 0
variable{v w:Value}{xs ts:List Nat}{x y:Nat}{s t:Bool}{listed:Array Bool}{ops:Array Oper}
@[reducible,instance]def iUnd23:=Und.mk Tryz.underlying23
@[reducible,instance]def iUnd25:=Und.mk Tryz.underlying25
@[reducible,instance]def iUnd31:=Und.mk Tryz.underlying31
@[reducible,instance]def iUnd37:=Und.mk Tryz.underlying37
@[reducible,instance]def iUnd41:=Und.mk Tryz.underlying41
@[reducible,instance]def iUnd51:=Und.mk Tryz.underlying51
@[reducible,instance]def iUnd75:=Und.mk Tryz.underlying75
@[reducible,instance]def iUnd77:=Und.mk Tryz.underlying77
@[reducible,instance]def iUnd79:=Und.mk Tryz.underlying79
@[reducible,instance]def iUnd81:=Und.mk Tryz.underlying81
@[reducible,instance]def iUnd90:=Und.mk Tryz.underlying90
@[reducible,instance]def iUnd102:=Und.mk Tryz.underlying102
@[reducible,instance]def iUnd106:=Und.mk Tryz.underlying106
@[reducible,instance]def iUnd127:=Und.mk Tryz.underlying127
@[reducible,instance]def iUnd137:=Und.mk Tryz.underlying137
@[reducible,instance]def iUnd150:=Und.mk Tryz.underlying150
@[reducible,instance]def iUnd173:=Und.mk Tryz.underlying173
@[reducible,instance]def iUnd179:=Und.mk Tryz.underlying179
@[reducible,instance]def iUnd182:=Und.mk Tryz.underlying182
@[reducible,instance]def iUnd185:=Und.mk Tryz.underlying185
@[reducible,instance]def iUnd191:=Und.mk Tryz.underlying191
@[reducible,instance]def iUnd195:=Und.mk Tryz.underlying195
@[reducible,instance]def iUnd220:=Und.mk Tryz.underlying220
@[reducible,instance]def iUnd224:=Und.mk Tryz.underlying224
@[reducible,instance]def iUnd233:=Und.mk Tryz.underlying233
@[reducible,instance]def iUnd260:=Und.mk Tryz.underlying260
@[reducible,instance]def iUnd261:=Und.mk Tryz.underlying261
@[reducible,instance]def iUnd284:=Und.mk Tryz.underlying284
@[reducible,instance]def iUnd320:=Und.mk Tryz.underlying320
@[reducible,instance]def iUnd323:=Und.mk Tryz.underlying323
@[reducible,instance]def iUnd328:=Und.mk Tryz.underlying328
@[reducible,instance]def iUnd365:=Und.mk Tryz.underlying365
@[reducible,instance]def iUnd366:=Und.mk Tryz.underlying366
@[reducible,instance]def iUnd490:=Und.mk Tryz.underlying490
@[reducible,instance]def iUnd492:=Und.mk Tryz.underlying492
@[reducible,instance]def iUnd493:=Und.mk Tryz.underlying493
@[reducible,instance]def iSiz23:=Siz.mk Tryz.sizeOf23
@[reducible,instance]def iSiz25:=Siz.mk Tryz.sizeOf25
@[reducible,instance]def iSiz31:=Siz.mk Tryz.sizeOf31
@[reducible,instance]def iSiz37:=Siz.mk Tryz.sizeOf37
@[reducible,instance]def iSiz51:=Siz.mk Tryz.sizeOf51
@[reducible,instance]def iSiz75:=Siz.mk Tryz.sizeOf75
@[reducible,instance]def iSiz77:=Siz.mk Tryz.sizeOf77
@[reducible,instance]def iSiz79:=Siz.mk Tryz.sizeOf79
@[reducible,instance]def iSiz81:=Siz.mk Tryz.sizeOf81
@[reducible,instance]def iSiz90:=Siz.mk Tryz.sizeOf90
@[reducible,instance]def iSiz127:=Siz.mk Tryz.sizeOf127
@[reducible,instance]def iSiz137:=Siz.mk Tryz.sizeOf137
@[reducible,instance]def iSiz142:=Siz.mk Tryz.sizeOf142
@[reducible,instance]def iSiz173:=Siz.mk Tryz.sizeOf173
@[reducible,instance]def iSiz179:=Siz.mk Tryz.sizeOf179
@[reducible,instance]def iSiz195:=Siz.mk Tryz.sizeOf195
@[reducible,instance]def iSiz220:=Siz.mk Tryz.sizeOf220
@[reducible,instance]def iSiz259:=Siz.mk Tryz.sizeOf259
@[reducible,instance]def iSiz261:=Siz.mk Tryz.sizeOf261
@[reducible,instance]def iSiz284:=Siz.mk Tryz.sizeOf284
@[reducible,instance]def iSiz320:=Siz.mk Tryz.sizeOf320
@[reducible,instance]def iSiz365:=Siz.mk Tryz.sizeOf365
@[reducible,instance]def iSiz366:=Siz.mk Tryz.sizeOf366
@[reducible,instance]def iSiz492:=Siz.mk Tryz.sizeOf492
@[reducible,instance]def iAgg3:=Agg.mk Tryz.isAgg3
@[reducible,instance]def iAgg23:=Agg.mk Tryz.isAgg23
@[reducible,instance]def iAgg25:=Agg.mk Tryz.isAgg25
@[reducible,instance]def iAgg31:=Agg.mk Tryz.isAgg31
@[reducible,instance]def iAgg37:=Agg.mk Tryz.isAgg37
@[reducible,instance]def iAgg51:=Agg.mk Tryz.isAgg51
@[reducible,instance]def iAgg75:=Agg.mk Tryz.isAgg75
@[reducible,instance]def iAgg77:=Agg.mk Tryz.isAgg77
@[reducible,instance]def iAgg79:=Agg.mk Tryz.isAgg79
@[reducible,instance]def iAgg81:=Agg.mk Tryz.isAgg81
@[reducible,instance]def iAgg90:=Agg.mk Tryz.isAgg90
@[reducible,instance]def iAgg125:=Agg.mk Tryz.isAgg125
@[reducible,instance]def iAgg127:=Agg.mk Tryz.isAgg127
@[reducible,instance]def iAgg133:=Agg.mk Tryz.isAgg133
@[reducible,instance]def iAgg137:=Agg.mk Tryz.isAgg137
@[reducible,instance]def iAgg142:=Agg.mk Tryz.isAgg142
@[reducible,instance]def iAgg173:=Agg.mk Tryz.isAgg173
@[reducible,instance]def iAgg179:=Agg.mk Tryz.isAgg179
@[reducible,instance]def iAgg185:=Agg.mk Tryz.isAgg185
@[reducible,instance]def iAgg195:=Agg.mk Tryz.isAgg195
@[reducible,instance]def iAgg217:=Agg.mk Tryz.isAgg217
@[reducible,instance]def iAgg220:=Agg.mk Tryz.isAgg220
@[reducible,instance]def iAgg259:=Agg.mk Tryz.isAgg259
@[reducible,instance]def iAgg261:=Agg.mk Tryz.isAgg261
@[reducible,instance]def iAgg284:=Agg.mk Tryz.isAgg284
@[reducible,instance]def iAgg294:=Agg.mk Tryz.isAgg294
@[reducible,instance]def iAgg298:=Agg.mk Tryz.isAgg298
@[reducible,instance]def iAgg310:=Agg.mk Tryz.isAgg310
@[reducible,instance]def iAgg320:=Agg.mk Tryz.isAgg320
@[reducible,instance]def iAgg366:=Agg.mk Tryz.isAgg366
@[reducible,instance]def iAgg492:=Agg.mk Tryz.isAgg492
@[reducible,instance]def iZer3:=Zer.mk Tryz.zeroValue3
@[reducible,instance]def iZer4:=Zer.mk Tryz.zeroValue4
@[reducible,instance]def iZer23:=Zer.mk Tryz.zeroValue23
@[reducible,instance]def iZer25:=Zer.mk Tryz.zeroValue25
@[reducible,instance]def iZer26:=Zer.mk Tryz.zeroValue26
@[reducible,instance]def iZer31:=Zer.mk Tryz.zeroValue31
@[reducible,instance]def iZer75:=Zer.mk Tryz.zeroValue75
@[reducible,instance]def iZer77:=Zer.mk Tryz.zeroValue77
@[reducible,instance]def iZer79:=Zer.mk Tryz.zeroValue79
@[reducible,instance]def iZer81:=Zer.mk Tryz.zeroValue81
@[reducible,instance]def iZer90:=Zer.mk Tryz.zeroValue90
@[reducible,instance]def iZer106:=Zer.mk Tryz.zeroValue106
@[reducible,instance]def iZer127:=Zer.mk Tryz.zeroValue127
@[reducible,instance]def iZer137:=Zer.mk Tryz.zeroValue137
@[reducible,instance]def iZer142:=Zer.mk Tryz.zeroValue142
@[reducible,instance]def iZer173:=Zer.mk Tryz.zeroValue173
@[reducible,instance]def iZer179:=Zer.mk Tryz.zeroValue179
@[reducible,instance]def iZer182:=Zer.mk Tryz.zeroValue182
@[reducible,instance]def iZer195:=Zer.mk Tryz.zeroValue195
@[reducible,instance]def iZer220:=Zer.mk Tryz.zeroValue220
@[reducible,instance]def iZer261:=Zer.mk Tryz.zeroValue261
@[reducible,instance]def iZer284:=Zer.mk Tryz.zeroValue284
@[reducible,instance]def iZer320:=Zer.mk Tryz.zeroValue320
@[reducible,instance]def iZer366:=Zer.mk Tryz.zeroValue366
@[reducible,instance]def iZer492:=Zer.mk Tryz.zeroValue492
open Go.Proofs.Tryz
instance:cGa 35:=.mk call35
instance:cGa 38:=.mk call38
instance:cGa 39:=.mk call39
instance:cGa 40:=.mk call40
instance:cGa 41:=.mk call41
instance:cGa 42:=.mk call42
instance:cGa 43:=.mk call43
instance:cGa 44:=.mk call44
instance:cGa 45:=.mk call45
instance:cGa 46:=.mk call46
instance:cGa 47:=.mk call47
instance:cGa 48:=.mk call48
instance:cGa 49:=.mk call49
instance:cGa 50:=.mk call50
instance:cGa 51:=.mk call51
instance:cGa 53:=.mk call53
instance:cGa 57:=.mk call57
instance:cGa 76:=.mk call76
instance:cGa 97:=.mk call97
instance:cGa 98:=.mk call98
instance:cGa 101:=.mk call101
instance:cGa 102:=.mk call102
instance:cGa 103:=.mk call103
instance:cGa 106:=.mk call106
instance:cGa 107:=.mk call107
instance:cGa 108:=.mk call108
instance:cGa 109:=.mk call109
instance:cGa 110:=.mk call110
instance:cGa 111:=.mk call111
instance:cGa 112:=.mk call112
instance:cGa 113:=.mk call113
instance:cGa 114:=.mk call114
instance:cGa 115:=.mk call115
instance:cGa 116:=.mk call116
instance:cGa 117:=.mk call117
instance:cGa 118:=.mk call118
instance:cGa 119:=.mk call119
instance:cGa 120:=.mk call120
instance:cGa 121:=.mk call121
instance:cGa 122:=.mk call122
instance:cGa 124:=.mk call124
instance:cGa 128:=.mk call128
instance:cGa 145:=.mk call145
instance:cGa 146:=.mk call146
instance:cGa 150:=.mk call150
instance:cGa 151:=.mk call151
instance:cGa 165:=.mk call165
instance:cGa 166:=.mk call166
instance:cGa 167:=.mk call167
instance:cGa 169:=.mk call169
instance:cGa 171:=.mk call171
instance:cGa 175:=.mk call175
instance:cGa 184:=.mk call184
instance:cGa 185:=.mk call185
instance:cGa 186:=.mk call186
instance:cGa 187:=.mk call187
instance:cGa 188:=.mk call188
instance:cGa 189:=.mk call189
instance:cGa 190:=.mk call190
instance:cGa 191:=.mk call191
instance:cGa 192:=.mk call192
instance:cGa 193:=.mk call193
instance:cGa 194:=.mk call194
instance:cGa 195:=.mk call195
instance:cGa 196:=.mk call196
instance:cGa 197:=.mk call197
instance:cGa 205:=.mk call205
instance:cGa 206:=.mk call206
instance:cGa 215:=.mk call215
instance:cGa 216:=.mk call216
instance:cGa 217:=.mk call217
instance:cGa 240:=.mk call240
instance:cGa 256:=.mk call256
instance:cGa 257:=.mk call257
instance:cGa 258:=.mk call258
instance:cGa 259:=.mk call259
instance:cGa 260:=.mk call260
instance:cGa 261:=.mk call261
instance:cGa 262:=.mk call262
instance:cGa 263:=.mk call263
instance:cGa 264:=.mk call264
instance:cGa 265:=.mk call265
instance:cGa 266:=.mk call266
instance:cGa 267:=.mk call267
instance:cGa 274:=.mk call274
instance:cGa 275:=.mk call275
instance:cGa 280:=.mk call280
instance:cGa 281:=.mk call281
instance:cGa 314:=.mk call314
instance:cGa 315:=.mk call315
instance:cGa 316:=.mk call316
instance:cGa 324:=.mk call324
instance:cGa 328:=.mk call328
instance:cGa 347:=.mk call347
instance:cGa 348:=.mk call348
instance:cGa 349:=.mk call349
instance:cGa 369:=.mk call369
instance:cGa 370:=.mk call370
instance:cGa 386:=.mk call386
instance:cGa 392:=.mk call392
instance:cGa 410:=.mk call410
open Go.Proofs.Tryz
set_option synthInstance.maxSize 100000
set_option maxRecDepth 20000
set_option linter.unusedSimpArgs false
theorem Yfg(v:Value)(xs:List Nat):Cal prog 172 #[v] [Yt 1 Md v xs] true (G:=Unit) (λ_=>True) (λ_=>Gi v (tz xs).length) (λ_=>[Yt 1 Md (Gi v (tz xs).length) (tz xs)]):=by
 refine Zd func172 ntmps172 λo n m c=>?_;refine Li (Yha (i:=1) J Zk) (λa=>?_);refine Li (Ez (i:=1) J Zk) λl=>go 7 ?_;refine lp (G:=Nat) [] [0] (λk=>[(0,Gi v k)]) (λk=>[(1,Yt 1 Md (Gi v k) (xs.take k))]) (λk=>(k<=xs.length)/\(tz (xs.take k)=tz xs)) (λk=>k) xs.length ⟨aI _,by rw [bT]⟩ ⟨by rw [a];rfl,aA⟩ ⟨by rw [a,bT];rfl,aA⟩ ?_;rintro k ⟨g,h⟩;have e:(xs.take k).length=k:=by rw [aS];omega
 refine go 7<|Zj 6 J (λj=>?_) (λj=>?_)
 .refine go 4 ⟨O,?_⟩;refine Gl (Yn 1 (k-1) J J J J Zk Po Kh) J J<|go 5 ⟨O,?_⟩;refine Zc J (λf=>?_) (λf=>?_)
  .have b:=Yj5 g O (by omega:(xs.take k).getD (k-1) 0=0);refine go 8 ⟨O,?_⟩;refine dt (d_pre 1 (i:=k-1) J J J J Zk Po Kh)<|go 3 ?_;exact Xg (s_pre 1 1 (k-1) J J)<|Ym (k-1) ⟨O1,by rw [<-h,<-b]⟩ O1 ⟨by rw [<-Zdj v k (k-1)];rfl,aA⟩ ⟨by rw [Zdj,kA,dY O];rfl,aA⟩
  .refine go 12 ?_;have d:tz xs=xs.take k:=by rw [<-h];exact Zn5 g O
   exact Yx c () results172 (by rw [d,e]) aA (Kf 1 Za (by rw [d,e]))
 .refine go 23 ?_;have d:tz xs=xs.take k:=by rw [<-h];exact Zn5 g O
  exact Yx c () results172 (by rw [d,e]) aA (Kf 1 Za (by rw [d,e]))
def Pu:Cal prog 172 #[v] [Yt 1 Md v xs] false (G:=Unit) (λ_=>True) (λ_=>Gi v (tz xs).length) (λ_=>[]):=(Yfg v xs).bare
theorem Zym(z:bl x<=4294967296)(N:bl y<=4294967296):Cal prog 271 #[v,w] [Eu v x,Eu w y] false (G:=Value) (λr=>True) (λr=>r) (λr=>[Eu r (x+y)]):=by
 refine Zd func271 ntmps271 λS P n m=>?_;have I:=Nv x;have M:=Nv y;refine go 5 ?_;refine jn (G:=Value×Value×Nat×Nat) [] [0,1,2] (λq=>[(0,q.1),(1,q.2.1)]) (λq=>[(91,Eu q.1 q.2.2.1),(92,Eu q.2.1 q.2.2.2)]) (λq=>(q.2.2.1+q.2.2.2=x+y)/\((dg U q.2.2.2).length<=(dg U q.2.2.1).length)/\((dg U q.2.2.1).length<=1099511627776)) ?_ ?_
 .refine go 9<|Zc J (λg=>?_) (λg=>?_)
  .refine go 6<|Xg (Kj 2 91 J J J)<|Xg (Kj 1 92 J J J) ?_;exact Gd (w,v,y,x) ⟨O1,O1,O1⟩ K2 K2
  .refine go 1<|Xg (Kj 1 91 J J J)<|Xg (Kj 2 92 J J J) ?_;exact Gd (v,w,x,y) ⟨O1,O1,O1⟩ K2 K2
 .rintro⟨Q,R,a,b⟩ ⟨hs,u,j⟩;dsimp only at hs u j;dsimp only;refine go 5 ⟨O,?_⟩;refine tt (Ew 3 ((dg U a).length+1) 8 (enc:=Md) 0 J J J J Po ti125 J pU.cells pU.pos J J J n.h) λv _=>go 17 ?_;refine lp (G:=Nat×List Nat×Nat) [0,1,5,21] [0,91,92,1,2] (λq=>[(22,.int .i64 (q.1:Int)),(6,.int .u64 (q.2.2:Int))]) (λq=>[(3,On 1 125 Md v q.2.1)]) (λq=>(q.1<=(dg U a).length)/\(q.2.1.length=(dg U a).length+1)/\(∀d∈q.2.1,d<U)/\(q.2.2<=1)/\(val U (q.2.1.take q.1)+q.2.2*U^q.1=val U ((dg U a).take q.1)+val U ((dg U b).take q.1))) (λq=>(dg U a).length-q.1) (0,List.replicate ((dg U a).length+1) 0,0) ⟨O1,O8,Ld Xs,O1,by simp [val]⟩ K2 K1 ?_;rintro⟨k,o,c⟩ ⟨D,l,e,B,f⟩;dsimp only at D l e B f;dsimp only;refine go 6<|Zc J (λh=>?_) (λh=>?_)
  .refine go 15 ?_;refine jn (G:=Unit) [0,1,5,6,7,21,22] [0,3,91,92,1,2] (λ_=>[(8,.int .u64 ((dg U b).getD k 0:Int))]) (λ_=>[]) (λ_=>True) ?_ ?_
   .refine go 8<|Zc J (λi=>?_) (λi=>?_)
    .refine go 7 ⟨O2,O2,?_⟩
     try (have p:(dg U b).getD k 0=0:=by simp [List.getD,bQ (by omega:(dg U b).length<=k)])
     exact Gd () aA ⟨by first|rfl|(rw [p];rfl),aA⟩ aA
    .refine go 1 ?_
     try (have p:(dg U b).getD k 0=0:=by simp [List.getD,bQ (by omega:(dg U b).length<=k)])
     exact Gd () aA ⟨by first|rfl|(rw [p];rfl),aA⟩ aA
   .rintro _ -;refine go 9 ⟨O2,O2,?_⟩;refine dt (Zp6 _ J J J J O Zhs)<|go 4 ⟨O2,?_⟩;refine tt (Lo 3 (enc:=Md) J J J J J J pU J n.h O3 O2) (λ_ _=>?_);refine go 8 ⟨O,?_⟩;exact Ym (k+1,_,_) ⟨O1,O9,Il e _ _ (bO _ Xs),by have F:=Pn Xs (Gs Xm a) k;have H:=Pn Xs (Gs Xm b) k;simp only [U]at *;omega,Yi5 f O⟩ O1 K2 K1
  .refine go 6 ?_;obtain rfl:k=(dg U a).length:=O;refine go 6 ⟨O2,?_⟩;refine tt (Lo 3 (enc:=Md) J J J J J J pU J n.h O3 O2) λ_ _=>go 5 ?_;refine cl 3 [3] Pu λ_ _=>?_;refine Nm (Zj4 3 J J pU)<|go 4 ?_;have z:tz (o.set (dg U a).length c)=dg U (x+y):=by
    rw [<-Cm Xm _ (Il e _ _ (by simp only [U];omega)),<-hs];congr 1
    conv=>rhs;rw [<-Hi Xm a,<-Hi Xm b]
    rw [cC (aI (dg U a).length),Ie U (dg U b) u]at f;rw [<-f,<-Co U o c O,Ie _ _ O9]
   exact Yx m _ results271 J aA (gow 3 Za z)
theorem Zfz(p:bl x<=4294967296)(j:y<=x:=by omega):Cal prog 273 #[v,w] [Eu v x,Eu w y] false (G:=Value) (λr=>True) (λr=>r) (λr=>[Eu r (x-y)]):=by
 refine Zd func273 ntmps273 λM I n h=>?_;have D:=Nv x;have F:=Nv y;have H:=Ll j;refine go 9 ?_;refine tt (Ew 3 ((dg U x).length) 8 (enc:=Md) 0 J J J J Po ti125 J pU.cells pU.pos J J J n.h) λv _=>go 17 ?_;refine lp (G:=Nat×List Nat×Nat) [0,1,5,13] [0,1,2] (λq=>[(14,.int .i64 (q.1:Int)),(6,.int .u64 (q.2.2:Int))]) (λq=>[(3,On 1 125 Md v q.2.1)]) (λq=>(q.1<=(dg U x).length)/\(q.2.1.length=(dg U x).length)/\(∀d∈q.2.1,d<U)/\(q.2.2<=1)/\(val U (q.2.1.take q.1)+val U ((dg U y).take q.1)=val U ((dg U x).take q.1)+q.2.2*U^q.1)) (λq=>(dg U x).length-q.1) (0,List.replicate ((dg U x).length) 0,0) ⟨O1,O8,Ld Xs,O1,by simp [val]⟩ K2 K1 ?_;rintro⟨k,o,c⟩ ⟨B,b,a,m,i⟩;dsimp only at B b a m i;dsimp only;refine go 6<|Zc J (λe=>?_) (λe=>?_)
 .refine go 15 ?_;refine jn (G:=Unit) [0,1,5,6,7,13,14] [0,3,1,2] (λ_=>[(8,.int .u64 ((dg U y).getD k 0:Int))]) (λ_=>[]) (λ_=>True) ?_ ?_
  .refine go 8<|Zc J (λf=>?_) (λf=>?_)
   .refine go 7 ⟨O2,O2,?_⟩
    try (have l:(dg U y).getD k 0=0:=by simp [List.getD,bQ (by omega:(dg U y).length<=k)])
    exact Gd () aA ⟨by first|rfl|(rw [l];rfl),aA⟩ aA
   .refine go 1 ?_
    try (have l:(dg U y).getD k 0=0:=by simp [List.getD,bQ (by omega:(dg U y).length<=k)])
    exact Gd () aA ⟨by first|rfl|(rw [l];rfl),aA⟩ aA
  .rintro _ -;refine go 9 ⟨O2,O2,?_⟩;refine dt (Ym3 J J J J O Yat)<|go 4 ⟨O2,?_⟩;refine tt (Lo 3 (enc:=Md) J J J J J J pU J n.h O3 O2) (λ_ _=>?_);refine go 8 ⟨O,?_⟩;exact Ym (k+1,_,_) ⟨O1,O9,Il a _ _ (bO _ Xs),brw_le,Ydc m (Pn Xs (Gs Xm x) k) (Pn Xs (Gs Xm y) k) i O⟩ O1 K2 K1
 .refine go 8 ?_;refine cl 3 [3] Pu λ_ _=>?_;refine Nm (Zj4 3 J J pU)<|go 4 ?_;obtain rfl:k=(dg U x).length:=O;have p:tz o=dg U (x-y):=by rw [<-Cm Xm _ a];congr 1;have g:(dg U y).length<=(dg U x).length:=O;rw [Ie U o O,Ie U (dg U y) g,Ie U (dg U x) (aI _),Hi Xm,Hi Xm]at i;have z:=Zjk Xs o a;rw [b]at z;have u:c=0\/c=1:=O;rcases u with rfl|rfl<;>omega
  exact Yx h _ results273 J aA (gow 3 Za p)
theorem Zcn(p:bl x<=4294967296)(q:bl y<=4294967296):Cal prog 272 #[v,w] [Eu v x,Eu w y] false (G:=Int) (λr=>(r<0↔x<y)/\(0<r↔y<x)) (λr=> .int .i64 r) (λr=>[]):=by
 refine Zd func272 ntmps272 λz u o a=>?_;have l:=Nv x;have m:=Nv y;refine go 15<|Zc J (λe=>?_) (λe=>?_)
 .refine go 12 ⟨O,?_⟩;exact Yx a _ results272 J ⟨⟨λh=>Znh Xm O,λh=>by have:=Ll (eU h);omega⟩,⟨λh=>Znh Xm O,λh=>by have:=Ll (eU h);omega⟩⟩ Za
 .have c:(dg U x).length=(dg U y).length:=O;refine go 12 ⟨O,?_⟩;refine lp (G:=Nat) [0,1] [0,1,2] (λk=>[(5,.int .i64 ((k:Int)-1))]) (λk=>[]) (λk=>(k<=(dg U x).length)/\((dg U x).drop k=(dg U y).drop k)) (λk=>k) (dg U x).length ⟨O1,by rw [List.drop_length,c,List.drop_length]⟩ K1 aA ?_;rintro k ⟨n,d⟩;refine go 7<|Zc J (λf=>?_) (λf=>?_)
  .refine go 6<|Ph (λ_=>False) [(0,0),(1,0),(2,0),(3,0),(4,0),(5,0),(6,0),(7,0),(8,0),(9,0)]<|go 2 ?_;refine Qd J J (Pt (Yn 1 (k-1) J J J J Zk Po Kh))<|go 3 ⟨O2,?_⟩;refine Qd J J (Pt (Yn 2 (k-1) J J J J Zk Po Kh))<|go 5 ⟨O2,?_⟩;refine Zc J (λg=>?_) (λg=>?_)
   .refine go 12 ?_;have b:=Yia Xs (xs:=dg U x) (ys:=dg U y) (Gs Xm x) (k:=k-1) O O (by rw [show k-1+1=k by omega];exact d) O;rw [Hi Xm,Hi Xm]at b;exact Yx a (-1) results272 J O Za
   .refine go 1<|Ph (λ_=>False) [(0,0),(1,0),(2,0),(3,0),(4,0),(5,0),(6,0),(7,0),(8,0),(9,0)]<|go 2 ?_;refine Qd J J (Pt (Yn 1 (k-1) J J J J Zk Po Kh))<|go 3 ⟨O2,?_⟩;refine Qd J J (Pt (Yn 2 (k-1) J J J J Zk Po Kh))<|go 5 ⟨O2,?_⟩;refine Zc J (λi=>?_) (λi=>?_)
    .refine go 12 ?_;have b:=Yia Xs (xs:=dg U y) (ys:=dg U x) (Gs Xm y) (k:=k-1) O O (by rw [show k-1+1=k by omega];exact d.symm) O;rw [Hi Xm,Hi Xm]at b;exact Yx a 1 results272 J O Za
    .refine go 9 ⟨O,?_⟩;exact Ym (k-1) ⟨O1,by have:=Zp3 (xs:=dg U x) (ys:=dg U y) (k:=k-1) O O (by rw [show k-1+1=k by omega];exact d) O;exact this⟩ O1 ⟨by rw [show(((k-1:Nat):Int)-1)=(k:Int)-1-1 by omega];rfl,aA⟩ aA
  .refine go 11 ?_;obtain rfl:k=0:=O;have j:x=y:=(Zni Xm).1 (by simpa using d);exact Yx a 0 results272 J O Za
theorem Yiq(b:x<U)(c:y<U):Xk prog 207 #[.int .u64 (x:Int),.int .u64 (y:Int)] [] (.tuple #[.int .u64 ((x*y/U:Nat):Int),.int .u64 ((x*y%U:Nat):Int)]):=by refine Zd func207 ntmps207 λf e d a=>?_;simp only [U]at b c;refine go 9 ?_;refine dt (Zq5 J J J b)<|go 6 ?_;refine dt (Fq 4294967296 (n:=32) J J J J J)<|go 6 ?_;refine dt (Zq5 J J J c)<|go 6 ?_;refine dt (Fq 4294967296 (n:=32) J J J J J)<|go 7 ?_;refine dt (Cn J J J)<|go 7 ?_;refine dt (Cn J J J)<|go 1 ?_;refine dt (Fq 4294967296 (n:=32) J J J J J)<|dt (Bj J J J)<|go 6 ?_;refine dt (Zq5 J J J (bO _ Xs))<|go 6 ?_;refine dt (Fq 4294967296 (n:=32) J J J J J)<|go 8 ?_;refine dt (Cn J J J)<|dt (Bj J J J)<|go 7 ?_;refine dt (Cn J J J)<|go 1 ?_;refine dt (Bj J J J)<|go 1 ?_;refine dt (Fq 4294967296 (n:=32) J J J J J)<|dt (Bj J J J)<|go 7 ?_;refine dt (Cn J J J)<|go 4 ?_;exact Oy a () results207 (by rw [Yfi b c rfl rfl]) aA Za
theorem Zyk(I:bl x<=4294967296)(R:bl y<=4294967296):Cal prog 325 #[v,w] [Eu v x,Eu w y] false (G:=Value) (λr=>True) (λr=>r) (λr=>[Eu r (x*y)]):=by
 refine Zd func325 ntmps325 λV S F D=>?_;have P:=Nv x;have Q:=Nv y;refine go 12 ⟨O,?_⟩;refine tt (Ew 3 ((dg U x).length+(dg U y).length) 8 (enc:=Md) 0 J J J J Po ti125 J pU.cells pU.pos J J J F.h) λv _=>go 12 ?_;refine lp (G:=Nat×List Nat) [1,5,20,21] [0,1,2] (λq=>[(22,.int .i64 (q.1:Int))]) (λq=>[(3,On 1 125 Md v q.2)]) (λq=>(q.1<=(dg U x).length)/\(q.2.length=(dg U x).length+(dg U y).length)/\(∀d∈q.2,d<U)/\(∀j,q.1+(dg U y).length<=j->q.2.getD j 0=0)/\(val U (q.2.take (q.1+(dg U y).length))=val U ((dg U x).take q.1)*y)) (λq=>(dg U x).length-q.1) (0,List.replicate ((dg U x).length+(dg U y).length) 0) ⟨O1,O8,Ld Xs,λj _=>Ec _ j,by simp [val,nG,Dr]⟩ K1 K1 ?_;rintro⟨i,o⟩ ⟨hi,u,g,M,z⟩;dsimp only at hi u g M z;dsimp only;refine go 6<|Zc J (λm=>?_) (λm=>?_)
 .refine go 27 ⟨O2,O2,?_⟩;refine lp (G:=Nat×List Nat×Nat) [1,5,6,7,20,21,22,27,28] [0,1,2] (λq=>[(29,.int .i64 (q.1:Int)),(8,.int .u64 (q.2.2:Int))]) (λq=>[(3,On 1 125 Md v q.2.1)]) (λq=>(q.1<=(dg U y).length)/\(q.2.1.length=(dg U x).length+(dg U y).length)/\(∀d∈q.2.1,d<U)/\(∀j,i+(dg U y).length<=j->q.2.1.getD j 0=0)/\(q.2.2<U)/\(val U (q.2.1.take (i+(dg U y).length))+q.2.2*U^(i+q.1)=val U ((dg U x).take i)*y+(dg U x).getD i 0*U^i*val U ((dg U y).take q.1))) (λq=>(dg U y).length-q.1) (0,o,0) ⟨O1,u,g,M,Xs,by rw [z];simp [val]⟩ K2 K1 ?_;rintro⟨k,p,c⟩ ⟨N,B,a,l,f,h⟩;dsimp only at N B a l f h;dsimp only;have b:=Ybh (Pn Xs (Gs Xm x) i) (Pn Xs (Gs Xm y) k) (Pn Xs a (i+k)) f;refine go 6<|Zc J (λn=>?_) (λn=>?_)
  .refine go 17 ⟨O2,O2,?_⟩;refine cl 3 [] (Yiq (Pn Xs (Gs Xm _) _) (Pn Xs (Gs Xm _) _)) λ_ _=>?_;refine go 14 ⟨O,?_⟩;refine dt (Yn 3 (i+k) J J J J (Yp pU) Po Kh)<|go 1 ⟨O2,?_⟩;refine dt (Zp6 0 J J J J O Zhs)<|go 11 ?_;refine dt (Bj J J J)<|go 7 ?_;refine dt (Zp6 0 J J J J O Zhs)<|go 15 ⟨O,?_⟩;refine dt (Bj J J J)<|dt (Yn 3 (i+k) J J J J (Yp pU) Po Kh)<|tt (Lo 3 (enc:=Md) J J J J J J pU J F.h O3 O2) (λ_ _=>?_);refine go 8 ⟨O,?_⟩;exact Ym (k+1,_,_) ⟨O1,O9,Il a _ _ (bO _ Xs),λj H=>by rw [Mc O,aD O];exact l j H,b.2,Yfh h O O b.1⟩ O1 K2 K1
  .refine go 5 ?_;obtain rfl:k=(dg U y).length:=O;have e:=h;rw [cC (aI (dg U y).length),Hi Xm]at e;refine go 7 ⟨O,?_⟩;refine dt (Yn 3 (i+(dg U y).length) J J J J (Yp pU) Po Kh)<|tt (Lo 3 (enc:=Md) J J J J J J pU J F.h O3 O2) (λ_ _=>?_);refine go 7 ⟨O,?_⟩;exact Ym (i+1,_) ⟨O1,O9,Il a _ _ f,λj H=>by rw [Mc O,aD O];exact l j O,by dsimp only;rw [show i+1+(dg U y).length=i+(dg U y).length+1 by omega,Co _ _ _ O,Od,bL,<-e]⟩ O1 K1 K1
 .refine go 8 ?_;refine cl 3 [3] Pu λ_ _=>?_;refine Nm (Zj4 3 J J pU)<|go 4 ?_;obtain rfl:i=(dg U x).length:=O;have I:tz o=dg U (x*y):=by rw [<-Cm Xm _ g];congr 1;rw [Ie U o O,cC (aI _),Hi Xm]at z;exact z
  exact Yx D _ results325 J aA (gow 3 Za I)
theorem Zub(q:x<U):Xk prog 335 #[.int .u64 (x:Int)] [] (.int .i64 (bl x:Int)):=by
 refine Zd func335 ntmps335 λH G F g=>?_;simp only [U]at q;have c:=Gc x 32;have a:=Gc x 16;have l:=Gc x 8;have b:=Gc x 24;have d:=Gc x 40;have e:=Gc x 48;have f:=Gc x 56;have f32:=Zb6 32 x;have f16:=Zb6 16 x;have f8:=Zb6 8 x;have f24:=Zb6 24 x;have f40:=Zb6 40 x;have f48:=Zb6 48 x;have f56:=Zb6 56 x;have r:=bA x (2^32) (2^16);have u:=bA x (2^32) (2^8);have z:=bA x (2^16) (2^8);have B:=bA (x/2^32) (2^16) (2^8);have D:=bA x (2^32) (2^16*2^8);simp only [Nat.reducePow,Nat.reduceMul]at *;refine go 12<|Zc J (λm=>?_) (λm=>?_)
 .refine go 3 ?_;refine dt (Fq 4294967296 (n:=32) J J J J J)<|go 14 ?_;refine Zc J (λo=>?_) (λo=>?_)
  .refine go 3 ?_;refine dt (Fq 65536 (n:=16) J J J J J)<|go 16 ⟨O,?_⟩;refine Zc J (λp=>?_) (λp=>?_)
   .refine go 3 ?_;refine dt (Fq 256 (n:=8) J J J J J)<|go 13 ⟨O,?_⟩;refine dt (Zgj J J Zar uT5)<|dt (Zh8 J J J uT9 J O O3 O7)<|dt (Zc2 J J uT5 uT3 Az)<|go 5 ⟨Ce O O,?_⟩;exact Yx g () results335 (Ax x O (by first|omega|(simp only [bA,Nat.reduceMul,c,a,l,b,d,e,f];omega))).symm aA Za
   .refine go 6 ?_;refine dt (Zgj J J Zar uT5)<|dt (Zh8 J J J uT9 J O O3 O7)<|dt (Zc2 J J uT5 uT3 Az)<|go 5 ⟨Ce O O,?_⟩;exact Yx g () results335 (Ax x O (by first|omega|(simp only [bA,Nat.reduceMul,c,a,l,b,d,e,f];omega))).symm aA Za
  .refine go 9<|Zc J (λi=>?_) (λi=>?_)
   .refine go 3 ?_;refine dt (Fq 256 (n:=8) J J J J J)<|go 13 ⟨O,?_⟩;refine dt (Zgj J J Zar uT5)<|dt (Zh8 J J J uT9 J O O3 O7)<|dt (Zc2 J J uT5 uT3 Az)<|go 5 ⟨Ce O O,?_⟩;exact Yx g () results335 (Ax x O (by first|omega|(simp only [bA,Nat.reduceMul,c,a,l,b,d,e,f];omega))).symm aA Za
   .refine go 6 ?_;refine dt (Zgj J J Zar uT5)<|dt (Zh8 J J J uT9 J O O3 O7)<|dt (Zc2 J J uT5 uT3 Az)<|go 5 ⟨Ce O O,?_⟩;exact Yx g () results335 (Ax x O (by first|omega|(simp only [bA,Nat.reduceMul,c,a,l,b,d,e,f];omega))).symm aA Za
 .refine go 9<|Zc J (λh=>?_) (λh=>?_)
  .refine go 3 ?_;refine dt (Fq 65536 (n:=16) J J J J J)<|go 16 ⟨O,?_⟩;refine Zc J (λj=>?_) (λj=>?_)
   .refine go 3 ?_;refine dt (Fq 256 (n:=8) J J J J J)<|go 13 ⟨O,?_⟩;refine dt (Zgj J J Zar uT5)<|dt (Zh8 J J J uT9 J O O3 O7)<|dt (Zc2 J J uT5 uT3 Az)<|go 5 ⟨Ce O O,?_⟩;exact Yx g () results335 (Ax x O (by first|omega|(simp only [bA,Nat.reduceMul,c,a,l,b,d,e,f];omega))).symm aA Za
   .refine go 6 ?_;refine dt (Zgj J J Zar uT5)<|dt (Zh8 J J J uT9 J O O3 O7)<|dt (Zc2 J J uT5 uT3 Az)<|go 5 ⟨Ce O O,?_⟩;exact Yx g () results335 (Ax x O (by first|omega|(simp only [bA,Nat.reduceMul,c,a,l,b,d,e,f];omega))).symm aA Za
  .refine go 9<|Zc J (λk=>?_) (λk=>?_)
   .refine go 3 ?_;refine dt (Fq 256 (n:=8) J J J J J)<|go 13 ⟨O,?_⟩;refine dt (Zgj J J Zar uT5)<|dt (Zh8 J J J uT9 J O O3 O7)<|dt (Zc2 J J uT5 uT3 Az)<|go 5 ⟨Ce O O,?_⟩;exact Yx g () results335 (Ax x O (by first|omega|(simp only [bA,Nat.reduceMul,c,a,l,b,d,e,f];omega))).symm aA Za
   .refine go 6 ?_;refine dt (Zgj J J Zar uT5)<|dt (Zh8 J J J uT9 J O O3 O7)<|dt (Zc2 J J uT5 uT3 Az)<|go 5 ⟨Ce O O,?_⟩;exact Yx g () results335 (Ax x O (by first|omega|(simp only [bA,Nat.reduceMul,c,a,l,b,d,e,f];omega))).symm aA Za
theorem Zqo(b:x<U):Xk prog 300 #[.int .u64 (x:Int)] [] (.int .i64 ((64-bl x:Nat):Int)):=by refine Zd func300 ntmps300 λf e d a=>?_;have c:bl x<=64:=(Qt 64 x).2 b;refine go 8 ?_;refine cl 0 [] (Zub b) λ_ _=>?_;refine go 5 ⟨O,?_⟩;exact Yx a () results300 (by congr 1;omega) aA Za
theorem Zko(g:bl x<=1099511627776:=by omega):Xk prog 241 #[v] [Eu v x] (.int .i64 (bl x:Int)):=by
 refine Zd func241 ntmps241 λj i f b=>?_;have e:=Nv x;refine go 13<|Zc J (λa=>?_) (λa=>?_)
 .refine go 7 ?_;have c:x=0:=(Nu Xm x).1 O;exact Yx b () results241 (by rw [c];rfl) aA Za
 .have d:0<x:=by rcases aV x with rfl|h;(simp [Ej]at a);exact h
  obtain⟨k,l,m,n⟩:=Zxj d;refine go 11 ⟨O,O,?_⟩;refine dt (Yn 1 ((dg U x).length-1) J J J J Zk Po Kh)<|go 1 ⟨O2,?_⟩;refine cl 1 [] (Zqo (Pn Xs (Gs Xm _) _)) λ_ _=>?_;refine go 5 ⟨O,?_⟩;exact Yx b () results241 (by congr 1;omega) aA Za
theorem Ycb(g:xs.length*8<=140737488355328):Yjp prog 362 #[v] [Yt 1 Md v xs] (G:=Value) (λr=>True) (λr=>r) (λr=>On 1 125 Md r xs):=by
 refine Zqg func362 J ntmps362 J K1 ?_;intro j h d e;have d:=Hw.mk d;simp only [Qf,Yg];refine Li (Yhb (i:=1) J Zk) λc=>go 9 ?_;refine dt (Zp5 J J J (i:=1) J Zk Po)<|go 2 ?_;refine Yq J (λb=>?_) (λb=>?_)
 .refine go 7 ?_;obtain rfl:xs=[]:=c (by simpa using b);exact Xg (Hb 9 1 125 Md)<|Zgs (.inl J) (.slice none 0 0) (λa w hs=>Fd hs results362 J) J aA J 9 J J J
 .refine go 4 ?_;refine tt (Yc7 2 (enc:=Md) J J J Po pU J d.h) λv _=>go 1 ?_;refine tt (Fs 2 1 8 J J J J J J O3 J Zk Po ti125 J pU J J J O9 O3 J d.h) λf _=>go 4 ?_;exact Zgs (.inl J) _ (λa w hs=>Fd hs results362 J) J aA J 2 J (by rfl) J
theorem Zuc{h l:Nat}(hl:l<U)(hy:y<U)(hh:h<y):Xk prog 338 #[.int .u64 (h:Int),.int .u64 (l:Int),.int .u64 (y:Int)] [] (.tuple #[.int .u64 (((h*U+l)/y:Nat):Int),.int .u64 (((h*U+l)%y:Nat):Int)]):=by
 refine Zd func338 ntmps338 λw0 sc hw a8=>?_;have c0:U=18446744073709551616:=rfl;have hp:0<y:=O;have c1:bl y<=64:=(Qt 64 y).2 hy;obtain⟨s,hs⟩:∃s,s=64-bl y:=⟨_,rfl⟩;obtain⟨Y,g⟩:∃Y,Y=y*2^s:=⟨_,rfl⟩;obtain⟨b6,S⟩:=Yfe hp hy hs;rw [<-g]at b6 S;have V:=S;obtain⟨D,hD⟩:∃D,D=(h*U+l)*2^s:=⟨_,rfl⟩;obtain⟨u,Z⟩:∃u,u=D/U:=⟨_,rfl⟩;obtain⟨v,a0⟩:∃v,v=D%U:=⟨_,rfl⟩;obtain⟨v1,Q⟩:∃x,x=v/4294967296:=⟨_,rfl⟩;obtain⟨v0,P⟩:∃x,x=v%4294967296:=⟨_,rfl⟩;obtain⟨d,b1⟩:∃x,x=Y/4294967296:=⟨_,rfl⟩;obtain⟨N,a9⟩:∃x,x=Y%4294967296:=⟨_,rfl⟩;have e:Y=d*4294967296+N:=O;have b7:=shl_lt hh (show y*2^s<U by rw [<-g];exact S);have c3:u<Y:=by rw [Z,hD,g];exact top_lt hl hh
 have hu:u<d*4294967296+N:=O;have c4:v<U:=by rw [a0];exact bO _ Xs
 have b0:2147483648<=d:=O;have i:d<4294967296:=O;have f:N<4294967296:=O;have M:v1<4294967296:=O;have I:v0<4294967296:=O;obtain⟨Q1,m⟩:∃x,x=(u*4294967296+v1)/Y:=⟨_,rfl⟩;obtain⟨t,H⟩:∃x,x=(u*4294967296+v1)%Y:=⟨_,rfl⟩;have c2:t<Y:=by rw [H];exact bO _ O
 have ht:t<d*4294967296+N:=O;obtain⟨Q0,k⟩:∃x,x=(t*4294967296+v0)/Y:=⟨_,rfl⟩;have R:0<Y:=O;obtain⟨a6,a7⟩:=dv_two (D:=D) R Z a0 Q P;rw [<-m,<-H,<-k]at a6;rw [<-H]at a7;have b8:Q0<4294967296:=by rw [k,e];exact dv_Q I ht
 have b9:Q1<4294967296:=by rw [m,e];exact dv_Q M hu
 refine go 13<|Zc J (λa1=>?_) (λa1=>?_)
 .exfalso;omega
 .refine go 10<|Zc J (λa2=>?_) (λa2=>?_)
  .exfalso;omega
  .refine go 9<|Zc J (λa3=>?_) (λa3=>?_)
   .refine go 1<|Ph (λ_=>False) [(0,0),(1,0),(2,0),(3,0),(4,0),(5,0),(6,0),(7,3)]<|go 2 ?_;refine Qd J J (Pt (Yc0 J J J))<|go 2 ?_;refine Qd J J (Pt (u_rem J J J O))<|go 6 ?_;exact Oy a8 () results338 (by have h0:h=0:=O;rw [h0];simp) aA Za
   .refine go 5 ?_;refine cl 0 [] (Zqo hy) λ_ _=>?_;refine dt (Zwc J J uT3 underlying319 (by simp only [U];omega))<|go 4 ?_;refine Zr (Ki 8 (v':= .int .u64 (s:Int)) J (by rw [hs]))<|go 3 ?_;refine dt (Zmj J J J J)<|go 4 ?_;refine Zr (Ki 2 (v':= .int .u64 (Y:Int)) J (by rw [g,aU (by rw [<-g];exact V)]))<|go 2 ?_;refine dt (Fq 4294967296 (n:=32) J J J J J)<|go 6 ?_;refine dt (Zq5 J J J)<|go 7 ?_;refine dt (Zmj J J J J)<|go 2 ?_;refine dt (Zea J J J (by first|exact bO _ Xs|omega))<|dt (Zmi J J (n:=64-s) J (by simp only [U];omega))<|dt (Yj3 J J J (bO _ Xs) (bC (fV _ _) hl))<|go 4 ?_;refine Zr (Ki 11 (v':= .int .u64 (u:Int)) J (by rw [Z,hD,Ye2 O b7 hl]))<|go 3 ?_;refine dt (Zmj J J J J)<|go 4 ?_;refine Zr (Ki 12 (v':= .int .u64 (v:Int)) J (by rw [a0,hD,Ybk h l s]))<|go 2 ?_;refine dt (Fq 4294967296 (n:=32) J J J J J)<|go 4 ?_;refine Zr (Ki 13 (v':= .int .u64 (v1:Int)) J (by rw [Q]))<|go 2 ?_;refine dt (Zq5 J J J)<|go 4 ?_;refine Zr (Ki 14 (v':= .int .u64 (v0:Int)) J (by rw [Zuh,P]))<|Zr (Ki 9 (v':= .int .u64 (d:Int)) J (by rw [b1]))<|Zr (Ki 10 (v':= .int .u64 (N:Int)) J (by rw [Zuh,a9]))<|go 3 ?_;refine dt (Yc0 J J J)<|go 8 ?_;refine dt (Cn J J J)<|dt (Zea J J J (by first|exact bO _ Xs|omega))<|go 3 ?_;refine jn (G:=Unit) [2,8,9,10,11,13,14] [0] (λ_=>[(15,.int .u64 ((Q1:Nat):Int))]) (λ_=>[]) (λ_=>True) ?_ ?_
    .refine go 1<|Zr (Ki 16 (v':= .int .u64 ((u%d:Nat):Int)) J (by rw [rsub O O])) ?_;refine lp (G:=Nat×Nat) [2,8,9,10,11,13,14] [0] (λq=>[(15,.int .u64 (q.1:Int)),(16,.int .u64 (q.2:Int))]) (λq=>[]) (λq=>(dvI u v1 d N q.1 q.2)/\(q.2<4294967296)) (λq=>q.1) (u/d,u%d) ⟨dv0 b0 i f M hu,jM (bO _ O) i⟩ K2 aA ?_;rintro⟨a,r⟩ ⟨j,hr⟩;dsimp only at j hr;dsimp only;have b4:=j.1;have b5:=j.2.1;refine go 6<|Zj 69 J (λb2=>?_) (λb2=>?_)
     .refine go 16 ?_;have b:=Zi6 O j M hu O;have c:=b.1;refine go 2 ?_;refine dt (Zea (n:=1) J J J)<|go 4 ?_;refine Zr (Ki 15 (v':= .int .u64 ((a-1:Nat):Int)) J (Zbg (Zto c O)))<|go 3 ?_;refine dt (Bj J J J)<|go 4 ?_;refine Zr (Ki 16 (v':= .int .u64 ((r+d:Nat):Int)) J (Zbg (aU O)))<|go 5<|Zc J (λa4=>?_) (λa4=>?_)
      .refine go 4 ?_;have z:Q1=a-1:=by rw [m,e];exact(Zgc O f b.2 O O).symm
       exact Gd () aA ⟨by rw [z];rfl,aA⟩ aA
      .refine go 2 ?_;exact Ym (a-1,r+d) ⟨b.2,by dsimp only;omega⟩ O1 K2 aA
     .have W:=Zsi (show a<4294967296 by omega) f;have e1:=aU (show a*N<U from W);have e2:=aU (show 4294967296*r<U by omega);have e3:=aU (show 4294967296*r+v1<U by omega);refine go 2 ?_;refine Gl (Cn J J J) J J<|go 1 ?_;refine Gl (Cn J J J) J J<|go 1 ?_;refine Gl (Bj J J J) J J<|go 4 ?_;refine Zc J (λo=>?_) (λo=>?_)
      .rw [e1,e2,e3]at o;refine go 4 ?_;have b:=Zi6 O j M hu O;have c:=b.1;refine go 2 ?_;refine dt (Zea (n:=1) J J J)<|go 4 ?_;refine Zr (Ki 15 (v':= .int .u64 ((a-1:Nat):Int)) J (Zbg (Zto c O)))<|go 3 ?_;refine dt (Bj J J J)<|go 4 ?_;refine Zr (Ki 16 (v':= .int .u64 ((r+d:Nat):Int)) J (Zbg (aU O)))<|go 5<|Zc J (λB=>?_) (λB=>?_)
       .refine go 4 ?_;have z:Q1=a-1:=by rw [m,e];exact(Zgc O f b.2 O O).symm
        exact Gd () aA ⟨by rw [z];rfl,aA⟩ aA
       .refine go 2 ?_;exact Ym (a-1,r+d) ⟨b.2,by dsimp only;omega⟩ O1 K2 aA
      .rw [e1,e2,e3]at o;refine go 4 ?_;have z:Q1=a:=by rw [m,e];exact(Zp2 O j O).symm
       exact Gd () aA ⟨by rw [z];rfl,aA⟩ aA
    .rintro _ -;refine go 3 ?_;refine dt (Cn J J J)<|go 1 ?_;refine dt (Bj J J J)<|go 2 ?_;refine dt (Cn J J J)<|dt (Zea J J J (by first|exact bO _ Xs|omega))<|go 4 ?_;refine Zr (Ki 17 (v':= .int .u64 (t:Int)) J (by rw [H,m,Zzi R V]))<|go 3 ?_;refine dt (Yc0 J J J)<|go 8 ?_;refine dt (Cn J J J)<|dt (Zea J J J (by first|exact bO _ Xs|omega))<|go 3 ?_;refine jn (G:=Unit) [2,8,14,15,17] [0] (λ_=>[(18,.int .u64 ((Q0:Nat):Int))]) (λ_=>[]) (λ_=>True) ?_ ?_
     .refine go 1<|Zr (Ki 16 (v':= .int .u64 ((t%d:Nat):Int)) J (by rw [rsub O O])) ?_;refine lp (G:=Nat×Nat) [2,8,9,10,14,15,17] [0] (λq=>[(18,.int .u64 (q.1:Int)),(16,.int .u64 (q.2:Int))]) (λq=>[]) (λq=>(dvI t v0 d N q.1 q.2)/\(q.2<4294967296)) (λq=>q.1) (t/d,t%d) ⟨dv0 b0 i f I ht,jM (bO _ O) i⟩ K2 aA ?_;rintro⟨a,r⟩ ⟨j,hr⟩;dsimp only at j hr;dsimp only;have b4:=j.1;have b5:=j.2.1;refine go 6<|Zj 104 J (λb3=>?_) (λb3=>?_)
      .refine go 16 ?_;have b:=Zi6 O j I ht O;have c:=b.1;refine go 2 ?_;refine dt (Zea (n:=1) J J J)<|go 4 ?_;refine Zr (Ki 18 (v':= .int .u64 ((a-1:Nat):Int)) J (Zbg (Zto c O)))<|go 3 ?_;refine dt (Bj J J J)<|go 4 ?_;refine Zr (Ki 16 (v':= .int .u64 ((r+d:Nat):Int)) J (Zbg (aU O)))<|go 5<|Zc J (λa5=>?_) (λa5=>?_)
       .refine go 4 ?_;have z:Q0=a-1:=by rw [k,e];exact(Zgc O f b.2 O O).symm
        exact Gd () aA ⟨by rw [z];rfl,aA⟩ aA
       .refine go 2 ?_;exact Ym (a-1,r+d) ⟨b.2,by dsimp only;omega⟩ O1 K2 aA
      .have W:=Zsi (show a<4294967296 by omega) f;have e1:=aU (show a*N<U from W);have e2:=aU (show 4294967296*r<U by omega);have e3:=aU (show 4294967296*r+v0<U by omega);refine go 2 ?_;refine Gl (Cn J J J) J J<|go 1 ?_;refine Gl (Cn J J J) J J<|go 1 ?_;refine Gl (Bj J J J) J J<|go 4 ?_;refine Zc J (λp=>?_) (λp=>?_)
       .rw [e1,e2,e3]at p;refine go 4 ?_;have b:=Zi6 O j I ht O;have c:=b.1;refine go 2 ?_;refine dt (Zea (n:=1) J J J)<|go 4 ?_;refine Zr (Ki 18 (v':= .int .u64 ((a-1:Nat):Int)) J (Zbg (Zto c O)))<|go 3 ?_;refine dt (Bj J J J)<|go 4 ?_;refine Zr (Ki 16 (v':= .int .u64 ((r+d:Nat):Int)) J (Zbg (aU O)))<|go 5<|Zc J (λF=>?_) (λF=>?_)
        .refine go 4 ?_;have z:Q0=a-1:=by rw [k,e];exact(Zgc O f b.2 O O).symm
         exact Gd () aA ⟨by rw [z];rfl,aA⟩ aA
        .refine go 2 ?_;exact Ym (a-1,r+d) ⟨b.2,by dsimp only;omega⟩ O1 K2 aA
       .rw [e1,e2,e3]at p;refine go 4 ?_;have z:Q0=a:=by rw [k,e];exact(Zp2 O j O).symm
        exact Gd () aA ⟨by rw [z];rfl,aA⟩ aA
     .rintro _ -;refine go 3 ?_;refine dt (Cn J J J)<|go 1 ?_;refine dt (Bj J J J)<|go 1 ?_;refine dt (Cn J J J)<|go 1 ?_;refine dt (Bj J J J)<|go 2 ?_;refine dt (Cn J J J)<|dt (Zea J J J (by first|exact bO _ Xs|omega))<|go 1 ?_;refine dt (Zmi J J J J)<|go 5 ?_;have hA:(Q1*4294967296%U+Q0)%U=(h*U+l)/y:=by rw [<-Zmu _ y s,<-hD,<-g,a6];simp only [U];omega
      have hB:((t*4294967296%U+v0)%U+(U-(Q0*Y)%U))%U/2^s=(h*U+l)%y:=by rw [<-Zmt _ y s,<-hD,<-g,a7,k,Zzi R V]
      exact Oy a8 () results338 (by rw [hA,hB]) aA Za
theorem Ybg{d:Nat}(u:bl x<=8589934592)(f:0<d)(g:d<U):Cal prog 336 #[v,.int .u64 (d:Int)] [Eu v x] false (G:=Value) (λr=>True) (λr=> .tuple #[r,.int .u64 ((x%d:Nat):Int)]) (λr=>[Eu r (x/d)]):=by
 refine Zd func336 ntmps336 λB z j i=>?_;have p:=Nv x;refine go 10 ?_;refine tt (Ew 2 ((dg U x).length) 8 (enc:=Md) 0 J J J J Po ti125 J pU.cells pU.pos J J J j.h) (λv _=>?_);refine go 18 ⟨O,?_⟩;refine lp (G:=Nat×List Nat×Nat) [0,1,6] [0,1] (λq=>[(8,.int .i64 ((q.1:Int)-1)),(7,.int .u64 (q.2.2:Int))]) (λq=>[(2,On 1 125 Md v q.2.1)]) (λq=>(q.1<=(dg U x).length)/\(q.2.1.length=(dg U x).length)/\(q.2.2<d)/\(∀d∈q.2.1,d<U)/\(val U (q.2.1.drop q.1)*d+q.2.2=val U ((dg U x).drop q.1))) (λq=>q.1) ((dg U x).length,List.replicate (dg U x).length 0,0) ⟨aI _,O8,O1,Ld Xs,by simp [val]⟩ K2 K1 ?_;rintro⟨k,o,r⟩ ⟨l,h,c,a,e⟩;dsimp only at l h c a e;dsimp only;refine go 7<|Zc J (λb=>?_) (λb=>?_)
 .refine go 10 ?_;refine dt (Yn 1 (k-1) J J J J Zk Po Kh)<|go 2 ⟨O2,?_⟩;refine cl 2 [] (Zuc (Pn Xs (Gs Xm _) _) g c) λ_ _=>go 3 ?_;refine dt (Yn 2 (k-1) J J J J (Yp pU) Po Kh)<|tt (Lo 2 (enc:=Md) J J J J J J pU J j.h O3 O2) (λ_ _=>?_);refine go 9 ⟨O,?_⟩;exact Ym (k-1,_,_) ⟨O1,O9,bO _ f,Il a _ _ (Ztg (Pn Xs (Gs Xm x) _) c),Zux f O O (by rw [show k-1+1=k by omega];exact e)⟩ O1 ⟨by rw [show(((k-1:Nat):Int)-1)=(k:Int)-1-1 by omega];rfl,rfl,aA⟩ K1
 .refine go 8 ?_;refine cl 2 [2] Pu λ_ _=>?_;refine Nm (Zj4 2 J J pU)<|go 6 ?_;obtain rfl:k=0:=O;rw [lL,lL,Hi Xm]at e;have n:tz o=dg U (x/d):=by rw [<-Cm Xm _ a,<-e,aR,gW f,dI c,fR]
  have m:r=x%d:=by rw [<-e,aR,iU,aU c]
  exact Oy i _ results336 (by rw [m]) aA (gow 2 Za n)
theorem Zo4{s:Nat}(Y:bl x<=4294967296:=by omega)(hs:s<=4294967296:=by omega):Cal prog 337 #[v,.int .i64 (s:Int)] [Eu v x] false (G:=Value) (λr=>True) (λr=>r) (λr=>[Eu r (x*2^s)]):=by
 refine Zd func337 ntmps337 λw0 Z M D=>?_;obtain⟨w,V⟩:∃w,w=s/64:=⟨_,rfl⟩;obtain⟨b,R⟩:∃b,b=s%64:=⟨_,rfl⟩;have W:=Nv x;refine go 13<|Zc J (λm=>?_) (λm=>?_)
 .refine go 7<|Xg (Hb 9 1 125 Md) ?_;have N:x=0:=(Nu Xm x).1 O;exact Yx D (.slice none 0 0) results337 J aA (gow 9 Za (by rw [N,iO];rfl))
 .refine go 5 ?_;refine dt (Zln J J J)<|go 1 ?_;refine dt (Kk J J J)<|go 5 ?_;refine Zr (Ki 5 (v':= .int .i64 (w:Int)) J (by congr 1;omega))<|Zr (Ki 6 (v':= .int .i64 (b:Int)) J (by congr 1;omega))<|go 6 ⟨O,O,?_⟩;refine tt (Ew 2 ((dg U x).length+w+1) 8 (enc:=Md) 0 J J J J Po ti125 J pU.cells pU.pos J J J M.h) λv _=>go 12 ?_;refine lp (G:=Nat×List Nat) [5,6,7,23,24] [0,1] (λq=>[(25,.int .i64 (q.1:Int))]) (λq=>[(2,On 1 125 Md v q.2)]) (λq=>(q.1<=(dg U x).length)/\(q.2.length=(dg U x).length+w+1)/\(q.2.getD (w+q.1) 0<2^b)/\(∀j,w+q.1<j->q.2.getD j 0=0)/\(∀d∈q.2,d<U)/\(val U (q.2.take ((dg U x).length+w+1))=val U ((dg U x).take q.1)*2^b*U^w)) (λq=>(dg U x).length-q.1) (0,List.replicate ((dg U x).length+w+1) 0) ⟨O1,O8,by rw [Ec];exact dZ b,λj _=>Ec _ j,Ld Xs,by rw [nG,Dr];simp [val]⟩ K1 K1 ?_;rintro⟨i,o⟩ ⟨hi,B,Q,l,a,H⟩;dsimp only at hi B Q l a H;dsimp only;have F:i<(dg U x).length->_:=λS=>Yd0 (xs:=dg U x) (show b<=63 by omega) B.symm (show w+i+1<_ by omega) Q (l (w+i+1) O) (Pn Xs (Gs Xm x) i) H;refine go 6<|Zc J (λp=>?_) (λp=>?_)
  .refine go 14 ⟨O2,O2,?_⟩;have f:=Pn Xs (Gs Xm x) i;refine Ph (λ_=>False) [(0,0),(1,0),(2,0),(3,0),(4,0),(5,0),(6,0),(7,0),(8,0),(9,0),(10,0),(11,3)]<|go 4 ⟨O,?_⟩;refine Qd J J (Pt (Yn 2 (w+i) J J J J (Yp pU) Po Kh))<|go 3 ⟨O2,?_⟩;refine Qd J J (Pt (Zmj J J (n:=b) J J))<|Qd J J (Pt (Yj3 J J J (Pn Xs a _) (bO _ Xs)))<|Qd J J (Pt (Yn 2 (w+i) J J J J (Yp pU) Po Kh))<|r3' J (Lo 2 (enc:=Md) J J J J J J pU J M.h O3 O2) λ_ _=>go 8 ?_;refine Zc J (λu=>?_) (λu=>?_)
   .have c:=Il (Il a (w+i) (o.getD (w+i) 0 ||| (dg U x).getD i 0*2^b%U) (jZ (n:=64) (Pn Xs a _) (bO _ Xs))) (w+i+1) ((dg U x).getD i 0/2^(64-b)) (bC (fV _ _) f);have g:((o.set (w+i) (o.getD (w+i) 0 ||| (dg U x).getD i 0*2^b%U)).set (w+i+1) ((dg U x).getD i 0/2^(64-b))).getD (w+i+1) 0<2^b:=by rw [Mc O9,aF rfl];exact Ze2 O f
    have k:∀j,w+i+1<j->((o.set (w+i) (o.getD (w+i) 0 ||| (dg U x).getD i 0*2^b%U)).set (w+i+1) ((dg U x).getD i 0/2^(64-b))).getD j 0=0:=λj z=>by rw [Mc O9,aD O,Mc O,aD O];exact l j O
    have e:=F O;refine go 9 ⟨O,O,O,?_⟩;refine dt (Zmi J J (n:=64-b) J O)<|dt (Yn 2 (w+i+1) J J J J (Yp pU) Po Kh O (by simp only [bX];omega))<|tt (Lo 2 (enc:=Md) J J J J J J pU J M.h O3 (by simp only [bX];omega)) (λ_ _=>?_);refine go 7 ⟨O,?_⟩;exact Ym (i+1,_) ⟨O1,O9,by dsimp only;rw [show w+(i+1)=w+i+1 by omega];exact g,λj z=>by have I:w+(i+1)<j:=z;dsimp only;exact k j O,c,e⟩ O1 K1 K1
   .obtain rfl:b=0:=O;have c:=Il a (w+i) (o.getD (w+i) 0 ||| (dg U x).getD i 0*2^0%U) (jZ (n:=64) (Pn Xs a _) (bO _ Xs));have g:(o.set (w+i) (o.getD (w+i) 0 ||| (dg U x).getD i 0*2^0%U)).getD (w+i+1) 0<2^0:=by rw [Mc O,aD O,l _ O];exact dZ 0
    have k:∀j,w+i+1<j->(o.set (w+i) (o.getD (w+i) 0 ||| (dg U x).getD i 0*2^0%U)).getD j 0=0:=λj z=>by rw [Mc O,aD O];exact l j O
    have e:=F O;rw [show(dg U x).getD i 0/2^(64-0)=0 from dI f]at e;have h:=Zl8 (o.set (w+i) (o.getD (w+i) 0 ||| (dg U x).getD i 0*2^0%U)) (w+i+1) (by rw [Mc O,aD O,l _ O]);rw [h]at e;refine go 7 ⟨O,?_⟩;exact Ym (i+1,_) ⟨O1,O9,by dsimp only;rw [show w+(i+1)=w+i+1 by omega];exact g,λj z=>by have I:w+(i+1)<j:=z;dsimp only;exact k j O,c,e⟩ O1 K1 K1
  .refine go 8 ?_;refine cl 2 [2] Pu λ_ _=>?_;refine Nm (Zj4 2 J J pU)<|go 4 ?_;obtain rfl:i=(dg U x).length:=O;have P:tz o=dg U (x*2^s):=by rw [<-Cm Xm _ a];congr 1;rw [Ie U o O,cC (aI _),Hi Xm,Zdb,dB,<-bN,show b+64*w=s by omega]at H;exact H
   exact Yx D _ results337 J aA (gow 2 Za P)
theorem Ylq{s:Nat}(S:bl x<=8589934592)(hs:s<=8589934592):Cal prog 339 #[v,.int .i64 (s:Int)] [Eu v x] false (G:=Value) (λr=>True) (λr=>r) (λr=>[Eu r (x/2^s)]):=by
 refine Zd func339 ntmps339 λW V H F=>?_;obtain⟨w,m⟩:∃w,w=s/64:=⟨_,rfl⟩;obtain⟨b,k⟩:∃b,b=s%64:=⟨_,rfl⟩;have R:=Nv x;have P:((dg U x).drop w).length=(dg U x).length-w:=eH;refine go 8 ?_;refine dt (Zln J J J)<|go 1 ?_;refine dt (Kk J J J)<|go 6 ?_;refine Zr (Ki 5 (v':= .int .i64 (w:Int)) J (by congr 1;omega))<|Zr (Ki 6 (v':= .int .i64 (b:Int)) J (by congr 1;omega))<|go 7<|Zc J (λz=>?_) (λz=>?_)
 .refine go 7<|Xg (Hb 9 1 125 Md) ?_;have I:x/2^s=0:=by rw [Zat m k,dI ((Xy Xm w x).1 O),Nat.zero_div]
  exact Yx F (.slice none 0 0) results339 J aA (gow 9 Za (by rw [I];rfl))
 .refine go 6 ?_;refine dt (d_suf 1 w J J J J Zk Po Kh O)<|Nm (s_suf 1 2 w J J)<|tt (Zik 3 (Ycb (by simp only [eH];omega)) J J J K1 call362 (Yd 2 J J J Zs) J H.h) λv _=>go 3 ?_;refine jn (G:=List Nat) [7] [0,1,2] (λo=>[]) (λo=>[(3,On 1 125 Md v o)]) (λo=>(o.length=(dg U x).length-w)/\(∀j,j<o.length->o.getD j 0=x/2^s/U^j%U)) ?_ ?_
  .refine go 6<|Zc J (λB=>?_) (λB=>?_)
   .refine go 8 ?_;refine lp (G:=Nat×List Nat) [0,5,6,7,24] [0,1,2] (λq=>[(25,.int .i64 (q.1:Int))]) (λq=>[(3,On 1 125 Md v q.2)]) (λq=>(q.1<=(dg U x).length-w)/\(q.2.length=(dg U x).length-w)/\(∀j,j<q.1->q.2.getD j 0=x/2^s/U^j%U)/\(∀j,q.1<=j->q.2.getD j 0=x/U^w/U^j%U)/\(∀d∈q.2,d<U)) (λq=>(dg U x).length-w-q.1) (0,(dg U x).drop w) ⟨bI _,O8,λj f=>absurd f (cK j),λj _=>Zzl x w j,λd N=>Gs Xm x d (kK N)⟩ K1 K1 ?_;rintro⟨i,o⟩ ⟨hi,u,p,l,a⟩;dsimp only at hi u p l a;dsimp only;refine go 6<|Zc J (λD=>?_) (λD=>?_)
    .refine go 17 ⟨O2,O2,?_⟩;refine dt (Zmi J J (n:=b) J J)<|go 1 ⟨O2,?_⟩;refine tt (Lo 3 (enc:=Md) J J J J J J pU J H.h O3 O2) (λ_ _=>?_);refine go 11 ⟨O,?_⟩;refine Zc J (λg=>?_) (λg=>?_)
     .simp only [bX]at g;have c:∀j,((o.set i (o.getD i 0/2^b)).set i ((o.set i (o.getD i 0/2^b)).getD i 0 ||| ((dg U x).getD (w+i+1) 0*2^(64-b))%U)).getD j 0=if i=j then x/2^s/U^i%U else o.getD j 0:=λj=>by
       rw [Mc O9,Mc O,Mc O];split
       .rw [aF rfl,l i (aI _),Fb Xm,Zat m k,Zti,show x/U^(w+i+1)=x/U^w/U^i/U by rw [bA,bA,<-cJ,<-bN];rfl,Zrk _ _ O]
       .rfl
      have h:=Il (Il a i (o.getD i 0/2^b) (bC (fV _ _) (Pn Xs a _))) i ((o.set i (o.getD i 0/2^b)).getD i 0 ||| ((dg U x).getD (w+i+1) 0*2^(64-b))%U) (jZ (n:=64) (Pn Xs (Il a _ _ (bC (fV _ _) (Pn Xs a _))) _) (bO _ Xs));refine Ph (λ_=>False) [(0,0),(1,0),(2,0),(3,0),(4,0),(5,0),(6,0),(7,0),(8,0),(9,0),(10,0),(11,0),(12,0),(13,0),(14,0),(15,0),(16,3)]<|go 9 ⟨O2,O2,O,O,?_⟩;refine Qd J J (Pt (Yn 1 (w+i+1) J J J J Zk Po Kh O O2))<|go 3 ⟨O2,O,?_⟩;refine Qd J J (Pt (Zmj J J (n:=64-b) J O))<|Qd J J (Pt (Yj3 J J J (Pn Xs (Il a _ _ (bC (fV _ _) (Pn Xs a _))) _) (bO _ Xs)))<|go 1 ⟨O2,?_⟩;refine r3' J (Lo 3 (enc:=Md) J J J J J J pU J H.h O3 O2) (λ_ _=>?_);refine go 7 ⟨O,?_⟩;exact Ym (i+1,_) ⟨O1,O9,λj f=>by dsimp only;rw [c j];split;(· rename_i e;rw [<-e]);exact p j (by have:j<i+1:=f;omega),λj f=>by dsimp only;rw [c j,aD (by have:i+1<=j:=f;omega)];exact l j (by have:i+1<=j:=f;omega),h⟩ O1 K1 K1
     .have c:∀j,(o.set i (o.getD i 0/2^b)).getD j 0=if i=j then x/2^s/U^i%U else o.getD j 0:=λj=>by
       rw [Mc O];split
       .rw [l i (aI _),Zat m k,Zti,Ya0 O];rw [bA,<-cJ];exact dI (Zyu (by simp only [bX]at g;omega))
       .rfl
      have h:=Il a i (o.getD i 0/2^b) (bC (fV _ _) (Pn Xs a _));refine go 7 ⟨O,?_⟩;exact Ym (i+1,_) ⟨O1,O9,λj f=>by dsimp only;rw [c j];split;(· rename_i e;rw [<-e]);exact p j (by have:j<i+1:=f;omega),λj f=>by dsimp only;rw [c j,aD (by have:i+1<=j:=f;omega)];exact l j (by have:i+1<=j:=f;omega),h⟩ O1 K1 K1
    .refine go 4 ?_;exact Gd _ ⟨O,by intro j f;rw [p j O]⟩ aA K1
   .refine go 1 ?_;exact Gd _ ⟨O8,by intro j f;rw [Zzl,Zat m k,show b=0 by omega,gX,Nat.div_one]⟩ aA K1
  .rintro o ⟨u,Q⟩;refine go 3 ?_;refine cl 3 [3] Pu λ_ _=>?_;refine Nm (Zj4 3 J J pU)<|go 4 ?_;have M:tz o=dg U (x/2^s):=Zus Xm Q (by rw [u,Zat m k];exact bC (fV _ _) (Zyu O));exact Yx F _ results339 J aA (gow 3 Za M)
theorem Zm7(z:bl x<=4294967296:=by omega):Xk prog 242 #[v] [Eu v x] (.string (Xo x)):=by
 refine Zd func242 ntmps242 λD B h g=>?_;have u:=Nv x;have p:=Zvl x;have r:=lenU x;have m:(List.replicate (dg 256 x).length (0:Nat)).length=(dg 256 x).length:=aT;refine go 8 ?_;refine cl 1 [1] Zko λ_ _=>?_;refine go 1 ⟨O,?_⟩;refine dt (Zln J J J)<|tt (Ew 2 ((dg 256 x).length) 1 (enc:=Yb2) 0 J J J J uT384 ti5 J pB.cells pB.pos J J J h.h) λv _=>go 12 ?_;refine lp (G:=Nat×List Nat) [0,3,12] [0,1] (λq=>[(13,.int .i64 (q.1:Int))]) (λq=>[(2,On 1 5 Yb2 v q.2)]) (λq=>(q.1<=(dg 256 x).length)/\(q.2.length=(dg 256 x).length)/\(∀j,j<q.1->q.2.getD j 0=x/256^((dg 256 x).length-1-j)%256)) (λq=>(dg 256 x).length-q.1) (0,List.replicate (dg 256 x).length 0) ⟨O1,O8,λj d=>absurd d (cK j)⟩ K1 K1 ?_;rintro⟨i,o⟩ ⟨hi,f,b⟩;dsimp only at hi f b;dsimp only;refine go 6<|Zc J (λc=>?_) (λc=>?_)
 .refine go 20 ⟨O,O,?_⟩;refine Zr (Ki 5 (v':= .int .i64 (((dg 256 x).length-1-i:Nat):Int)) J (by congr 1;omega)) ?_;have a:=Zqi x ((dg 256 x).length-1-i);rw [<-Fb Xm]at a;refine go 5 ?_;refine dt (Zln J J J)<|dt (Yn 1 (((dg 256 x).length-1-i)/8) J J J J Zk Po Kh)<|go 2 ⟨O,?_⟩;refine dt (Kk J J J)<|go 1 ⟨O,?_⟩;refine dt (Zmi J J (n:=((dg 256 x).length-1-i)%8*8) J O)<|dt (Zgj J J Zar uT5)<|go 1 ⟨O2,?_⟩;refine tt (Lo 2 (enc:=Yb2) J J J J J J pB J h.h O3 O2) (λ_ _=>?_);refine go 7 ⟨O,?_⟩;exact Ym (i+1,_) ⟨O1,O9,λj d=>by dsimp only;rw [Mc O];split;(· rename_i e;rw [<-e];exact a);exact b j O⟩ O1 K1 K1
 .refine go 8 ?_;refine dt (d_b2s J J (i:=2) J (Yp pB) uT384 uT9 uT5)<|go 4 ?_;have k:Xo x=⟨(o.map UInt8.ofNat).toArray⟩:=by
   have l:o=(dg 256 x).reverse:=by refine Ze0 O9 (λj d=>?_);rw [b j O,Zpi O,Fb O]
   rw [l];rfl
  exact Yx g () results242 (by rw [k]) aA Za
theorem Zdf(H:bl x<=4294967296:=by omega):Cal prog 243 #[.string (Xo x)] [] false (G:=Value) (λr=>True) (λr=>r) (λr=>[Eu r x]):=by
 refine Zd func243 ntmps243 λM I b m=>?_;have F:=Nv x;have B:=Zvl x;have D:=lenU x;have p:=Fk x;refine go 10 ⟨O,?_⟩;refine dt (Zln J J J)<|tt (Ew 1 ((dg U x).length) 8 (enc:=Md) 0 J J J J Po ti125 J pU.cells pU.pos J J J b.h) λv _=>go 12 ?_;refine lp (G:=Nat×List Nat) [0,3,12] [0] (λq=>[(13,.int .i64 (q.1:Int))]) (λq=>[(1,On 1 125 Md v q.2)]) (λq=>(q.1<=(dg 256 x).length)/\(q.2.length=(dg U x).length)/\(∀w,w<q.2.length->q.2.getD w 0=hi x ((dg 256 x).length-q.1) w)) (λq=>(dg 256 x).length-q.1) (0,List.replicate (dg U x).length 0) ⟨O1,O8,λw b=>by dsimp only at *;rw [aT]at b;rw [Ec,hi_top O]⟩ K1 K1 ?_;rintro⟨i,o⟩ ⟨l,f,a⟩;dsimp only at l f a;dsimp only;refine go 6<|Zc J (λk=>?_) (λk=>?_)
 .refine go 20 ⟨O,O,?_⟩;refine Zr (Ki 5 (v':= .int .i64 (((dg 256 x).length-1-i:Nat):Int)) J (by congr 1;omega)) ?_;have c:=Zua x i O;have h:=a (((dg 256 x).length-1-i)/8) O;have d:o.getD (((dg 256 x).length-1-i)/8) 0<U:=by rw [h];exact bO _ Xs
  have g:∀w,w<o.length->(o.set (((dg 256 x).length-1-i)/8) (o.getD (((dg 256 x).length-1-i)/8) 0 ||| (((Xo x).data.toList.getD i 0).toNat*2^(((dg 256 x).length-1-i)%8*8))%U)).getD w 0=hi x ((dg 256 x).length-(i+1)) w:=λw b=>by
   rw [c,h,show(dg 256 x).length-i=(dg 256 x).length-1-i+1 by omega,Ymc,Mc O,show(dg 256 x).length-(i+1)=(dg 256 x).length-1-i by omega];split
   .rename_i e;rw [e]
   .rename_i e;rw [a w b,show(dg 256 x).length-i=(dg 256 x).length-1-i+1 by omega];exact Ygb e
  refine Ph (λ_=>False) [(0,0),(1,0),(2,0),(3,0),(4,0),(5,0),(6,0),(7,0),(8,0),(9,0),(10,0),(11,0),(12,0),(13,0),(14,0),(15,3)]<|go 2 ?_;refine Qd J J (Pt (Zln J J J))<|Qd J J (Pt (Yn 1 (((dg 256 x).length-1-i)/8) J J J J (Yp pU) Po Kh))<|go 3 ⟨O2,?_⟩;refine Qd J J (Pt (Yhw J J J uT9 J))<|Qd J J (Pt (Zwc J J uT5 Zar (by have:=(((Xo x).data.toList.getD i 0).toNat_lt);simp only [U];omega)))<|go 1 ?_;refine Qd J J (Pt (Kk J J J))<|go 1 ⟨O,?_⟩;refine Qd J J (Pt (Zmj J J (n:=((dg 256 x).length-1-i)%8*8) J O))<|Qd J J (Pt (Yj3 J J J d (bO _ Xs)))<|Qd J J (Pt (Yn 1 (((dg 256 x).length-1-i)/8) J J J J (Yp pU) Po Kh))<|r3' J (Lo 1 (enc:=Md) J J J J J J pU J b.h O3 O2) (λ_ _=>?_);refine go 7 ⟨O,?_⟩;exact Ym (i+1,_) ⟨O1,O9,λw b=>g w (by simpa using b)⟩ O1 K1 K1
 .refine go 12 ?_;have z:o=dg U x:=Ze0 f (λj u=>by rw [a j u,Fb Xm,Ygd O]);exact Yx m _ results243 J aA (gow 1 Za z)
theorem Zyl(hx:bl x<=4000000000)(e2:bl y<=4000000000)(hy:0<y):Cal prog 301 #[v,w] [Eu v x,Eu w y] true (G:=Value×Value) (λr=>True) (λr=> .tuple #[r.1,r.2]) (λr=>[Eu r.1 (x/y),Eu r.2 (x%y)]):=by
 refine Zd func301 ntmps301 λw0 sc p S=>?_;have hX:=Nv x;have hY:=Nv y;refine go 11 ?_;refine cl 2 [1,2] (Zcn O O) λr hr=>go 3<|Zc J (λW=>?_) (λW=>?_)
 .have o:x<y:=hr.1.1 O;refine go 9<|Xg (Hb 9 1 125 Md) ?_;exact Oy S (.slice none 0 0,v) results301 J aA (gow 9 (Kf 1 Za (by rw [aU o])) (by rw [dI o];rfl))
 .have c6:y<=x:=by have:=hr.1;omega
  have e1:=Ll c6;refine go 10<|Zc J (λY=>?_) (λY=>?_)
  .have V:y<U:=by have:=(Xy Xm 1 y).1 O;simpa using this
   have m:(dg U y).getD 0 0=y:=by rw [Fb Xm];simp [aU V]
   refine go 6 ⟨O,O2,?_⟩;refine cl 3 [1] (Ybg O (by rw [m];exact hy) (by rw [m];exact V)) λv _=>go 11 ?_;refine tt (Oe [(0,_)] 4 (enc:=Md) [x%(dg U y).getD 0 0] J J K2 Po ti125 J J J J J pU.cells J J p.h) λe4 _=>cl 4 [4] Pu λ_ _=>?_;refine Nm (Zj4 4 J J pU)<|go 6 ?_;exact Oy S (_,_) results301 J aA (Kf 3 (gow 4 Za (by rw [Zgv (jM (bO _ (by rw [m];exact hy)) (by rw [m];exact V)),m])) (by rw [m]<;>rfl))
  .refine go 3 ?_;obtain⟨k,hk⟩:∃k,k=(dg U y).length:=⟨_,rfl⟩;have e0:k<=(dg U x).length:=O;obtain⟨b,hb⟩:∃b,b=64-bl ((dg U y).getD (k-1) 0):=⟨_,rfl⟩;obtain⟨b4,_,b3,a4,b1,H⟩:=Yln hy hk hb;obtain⟨D,c⟩:∃D,D=y*2^b:=⟨_,rfl⟩;have c7:(dg U D).length=k:=by rw [c];exact b4
   have a3:D<U^k:=by rw [c];exact a4
   have a2:U^(k-1)*9223372036854775808<=D:=by rw [c];exact H
   have l:0<D:=by rw [c];exact fZ hy (dZ b)
   have d9:bl D<=4000000064:=by rw [c,Zws hy];omega
   refine go 5 ⟨O,?_⟩;refine dt (Yn 2 ((dg U y).length-1) J J J J Zk Po Kh)<|go 1 ⟨O2,?_⟩;refine cl 4 [] (Zqo (Pn Xs (Gs Xm y) _)) λ_ _=>?_;refine Nm (Ki 44 (v':= .int .i64 (b:Int)) J (by rw [hb,hk]))<|go 3 ?_;refine jn (G:=Value×Value) [0,8] [0,1,2] (λq=>[(9,q.1),(10,q.2)]) (λq=>[(81,Eu q.1 D),(82,On 1 125 Md q.2 (List.replicate ((dg U x).length+1) 0))]) (λq=>True) ?_ ?_
   .refine Zad (λ_=>False) [8]<|Zv 4 [(0,0),(1,0),(3,0),(4,0),(5,0)]<|go 6 ⟨O,?_⟩;refine Np 3 2 6 ?_ ?_
    .refine Iz (Zx 81 [2] Zo4) λe5 _=>?_;refine Zv 0 [(7,0),(6,1),(8,3)]<|go 1 ?_;refine Bp J (Ew 82 ((dg U x).length+1) 8 (enc:=Md) 0 J J J J Po ti125 J pU.cells pU.pos J J J p.h) λe6 _=>go 2 ?_;exact Ys<|Gd (_,_) aA K2 ⟨by rw [c];rfl,rfl,aA⟩
    .refine Zag J J (Ew 82 ((dg U x).length+1) 8 (enc:=Md) 0 J J J J Po ti125 J pU.cells pU.pos J J J p.h) (λe7 _=>?_);refine Zv 0 [(2,1),(7,0),(8,3)]<|Qn (Zx 81 [2] Zo4) λe8 _=>go 3 ?_;exact Ys<|Gd (_,_) aA K2 ⟨by rw [c];rfl,rfl,aA⟩
   .rintro⟨vd,vr⟩ -;dsimp only;refine go 1 ?_;have c9:(dg U (x*2^b)).length<=(dg U x).length+1:=(Xy Xm _ _).2 (by rw [cJ];exact jD ((Xy Xm _ x).1 (aI _)) (by rw [Yjf];exact dK O O) Xs);refine go 4 ?_;refine cl 5 [1] Zo4 λe9 _=>?_;refine tt (t_cpy 82 5 0 J J J J J J O3 J Zk Yhn (by rw [aT];exact c9) (by rw [aT];omega) (by rw [aT];omega) Po pU J p.h) λ_ _=>go 3 ?_;have a6:(spl (List.replicate ((dg U x).length+1) 0) 0 (dg U (x*2^b))).length=(dg U x).length+1:=by rw [Ii (by rw [aT];omega),aT]
    refine go 7 ?_;have d4:(List.replicate ((dg U x).length+1-k) (0:Nat)).length=(dg U x).length+1-k:=aT;refine Zr (Ki 11 (v':= .int .i64 (k:Int)) J (by rw [c7]))<|go 5 ⟨O,?_⟩;refine tt (Ew 6 ((dg U x).length+1-k) 8 (enc:=Md) 0 J J J J Po ti125 J pU.cells pU.pos J J J p.h) (λd3 _=>?_);refine go 13 ⟨O,?_⟩;refine lp (G:=Nat×List Nat×List Nat) [8,9,10,11,12] [0,81,1,2,5] (λq=>[(13,.int .i64 ((q.1:Int)-1))]) (λq=>[(82,On 1 125 Md vr q.2.1),(6,On 1 125 Md d3 q.2.2)]) (λq=>(q.1<=(dg U x).length+1-k)/\(q.2.1.length=(dg U x).length+1)/\(∀d∈q.2.1,d<U)/\(q.2.2.length=(dg U x).length+1-k)/\(∀d∈q.2.2,d<U)/\(val U q.2.1<D*U^q.1)/\(val U (q.2.2.drop q.1)*U^q.1*D+val U q.2.1=x*2^b)) (λq=>q.1) ((dg U x).length+1-k,spl (List.replicate ((dg U x).length+1) 0) 0 (dg U (x*2^b)),List.replicate ((dg U x).length+1-k) 0) ⟨aI _,a6,Zqs (Ld Xs) (Gs Xm _) 0,O8,Ld Xs,by rw [Zq4,Hi Xm];exact Yhr ((Xy Xm _ x).1 (aI _)) b1 b3 O a2,by rw [Zq4,Hi Xm];simp [val]⟩ ⟨by rw [aT];rfl,aA⟩ K2 ?_;rintro⟨a,R,q⟩ ⟨hj,a7,e,d0,Q,M,hN⟩;dsimp only at hj a7 e d0 Q M hN;dsimp only;refine go 7<|Zc J (λZ=>?_) (λZ=>?_)
    .refine go 5 ?_;have P:val U R<U^(a-1+k+1):=by refine cZ M ?_;rw [show a-1+k+1=k+a by omega,bN];exact aP _ (eU a3)
     have u:tz ((R.drop (a-1)).take (a-1+k+1-(a-1)))=dg U (val U R/U^(a-1)):=Yju e O (by rw [show a-1+(a-1+k+1-(a-1))=a-1+k+1 by omega];exact P);have a9:val U R/U^(a-1)<D*U:=by rw [cL (bW Xs),dB,<-nH,show(a-1).succ=a by omega];exact M
     have b0:bl (val U R/U^(a-1))<=4294967296:=by have h1:=Ll (eU a9);have h2:=Zwt D U;have h3:bl U<=65:=(Qt 65 U).2 (by simp [U]);omega
     have b7:=Yj6 e (j:=a-1) b3 P O;have b9:(dg U D).getD (k-1) 0*U^(k-1)<=D:=by rw [Fb Xm];exact aB (aP _ (Nat.mod_le _ _)) (Nat.div_mul_le_self _ _)
     have c2:val U R/U^(a-1)/D<=18446744073709551615:=by have:=(cL l).2 (show _<U*D by rw [aR];exact a9);simp only [U]at this ⊢;omega
     refine go 4 ?_;refine jn (G:=Nat) [8,9,10,11,12,13] [0,82,6,81,1,2,5] (λg=>[(14,.int .u64 (g:Int))]) (λg=>[]) (λg=>(val U R/U^(a-1)/D<=g)/\(g<U)) ?_ ?_
     .refine go 1<|Ph (λ_=>False) [(0,0),(1,0),(2,0),(3,0),(4,0),(5,0),(6,0),(7,0),(8,0),(9,0),(10,0),(11,0)]<|go 4 ⟨O,?_⟩;refine Qd J J (Pt (Yn 82 (a-1+k) J J J J (Yp pU) Po Kh))<|go 4 ⟨O2,O,?_⟩;refine Qd J J (Pt (Yn 81 (k-1) J J J J Zk Po Kh))<|go 4 ⟨O2,?_⟩;refine Zc J (λa0=>?_) (λa0=>?_)
      .refine Ph (λ_=>False) [(0,0),(1,0),(2,0),(3,0),(4,0),(5,0),(6,0),(7,0),(8,0),(9,0),(10,0),(11,0),(12,0),(13,0),(14,0),(15,0),(16,0),(17,0),(18,1),(19,0),(20,0),(21,0),(22,0)]<|go 4 ⟨O,?_⟩;refine Qd J J (Pt (Yn 82 (a-1+k) J J J J (Yp pU) Po Kh))<|go 6 ⟨O2,O,O,?_⟩;refine Qd J J (Pt (Yn 82 (a-1+k-1) J J J J (Yp pU) Po Kh))<|go 4 ⟨O2,O,?_⟩;refine Qd J J (Pt (Yn 81 (k-1) J J J J Zk Po Kh))<|go 1 ⟨O2,?_⟩;refine Qn (Zx 6 [] (Zuc (Pn Xs e _) (Pn Xs (Gs Xm _) _) O)) λ_ _=>go 5 ?_;exact Gd _ ⟨Yge b9 O b7,Ztg (Pn Xs e _) O⟩ K1 aA
      .refine go 1 ?_;exact Gd 18446744073709551615 ⟨c2,O3⟩ K1 aA
     .rintro g ⟨hg,f⟩;refine go 8 ⟨O,O,?_⟩;refine dt (d_mid (ii:=82) (i:=a-1) (j:=a-1+k+1) J J J J J (Yp pU) Po Kh O O O O)<|go 7 ?_;refine tt (Oe [(0,_)] 7 (enc:=Md) [g] J J K2 Po ti125 J J J J J pU.cells J J p.h) λf0 _=>cl 7 [7] Pu λ_ _=>?_;refine Nm (Zj4 7 J J pU)<|Nm (Yd9 7 (Zgv f) J J)<|cl 83 [81,7] (Zyk O (aB ((Qt 64 g).2 f) O)) λd5 _=>go 5 ?_;refine lp (G:=Nat×Value) [8,9,10,11,12,13,15] [0,82,6,81,1,2,5,7] (λq=>[(14,.int .u64 (q.1:Int)),(16,q.2)]) (λq=>[(83,Eu q.2 (D*q.1))]) (λq=>(val U R/U^(a-1)/D<=q.1)/\(q.1<U)) (λq=>q.1) (g,_) ⟨O1,O1⟩ ⟨J,J,aA⟩ ⟨J,aA⟩ ?_;rintro⟨g,vp⟩ ⟨hg,f⟩;dsimp only at hg f;dsimp only;have a5:bl (D*g)<=4294967296:=by have h1:=Zwt D g;have h2:=(Qt 64 g).2 f;omega
      refine go 4 ?_;refine tt (Ol 7 Pu J J J K1 call172 (Zdi 82 J J pU (Zir (a-1) (a-1+k+1)) Zi9 Zs) J p.h) λ_ _=>go 1 ?_;refine tt (Ol 7 (Zcn b0 a5) J J J K2 call272 (Zdi 82 J J pU (Yee u (by rw [u]) (Zir (a-1) (a-1+k+1))) (by rw [Gp];exact(Zi9)) (Yd 83 J J J Zs)) J p.h) λe3 B=>go 3 ?_;refine Zc J (λa1=>?_) (λa1=>?_)
      .have o:val U R/U^(a-1)<D*g:=B.1.1 O;have b2:1<=g:=by rcases aV g with h|h;(rw [h,nW]at o;exact absurd o (cK _));exact h
       have b8:D<=D*g:=eP _ b2;have c3:val U R/U^(a-1)/D<=g-1:=by have:=(cL l).2 (show _<g*D by rw [aR];exact o);omega
       refine go 6 ?_;refine dt (Zea (n:=1) J J J)<|go 3 ?_;refine Zr (Ki 14 (v':= .int .u64 ((g-1:Nat):Int)) J (Zbg (Zto b2 f)))<|go 3 ?_;refine cl 8 [83,81] (Zfz a5 b8) λd6 _=>go 3<|Xg (Kj 8 83 J J J) ?_;exact Ym (g-1,_) ⟨c3,by dsimp only;omega⟩ O1 K2 ⟨by rw [Nat.mul_sub_one];rfl,aA⟩
      .refine go 6 ?_;have hQ:g=val U R/U^(a-1)/D:=by have h1:=B.1;have h2:D*g<=val U R/U^(a-1):=O;exact jP ((kG l).2 (by rw [aR];exact h2)) hg
       refine go 2 ?_;refine tt (Ol 8 Pu J J J K1 call172 (Zdi 82 J J pU (Zir (a-1) (a-1+k+1)) Zi9 Zs) J p.h) λ_ _=>go 1 ?_;refine tt (Ol 9 (Zfz b0) J J J K2 call273 (Zdi 82 J J pU (Yee u (by rw [u]) (Zir (a-1) (a-1+k+1))) (by rw [Gp];exact(Zi9)) (Yd 83 J J J Zs)) J p.h) λd7 _=>go 4 ?_;have b5:(dg U (val U R/U^(a-1)-D*g)).length<=a-1+k+1-(a-1):=by
        have:val U R/U^(a-1)-D*g<D:=by rw [hQ];have h3:=cP (val U R/U^(a-1)) D;have h4:=bO (val U R/U^(a-1)) l;omega
        have:=(Xy Xm k _).2 (jM this a3);omega
       refine go 2 ?_;refine tt (t_clr (zv:= .bool false) (i:=82) (z:=0) (a-1) J J J J O3 (Zzj O) O O Po pU (λw=>zeroValue125 w) J J p.h) λ_ _=>go 6 ?_;refine tt (t_cpy 82 9 (a-1) J J J J J J O3 J Zk (Zzj (by rw [Ii (by rw [aT];omega)];omega)) b5 (by rw [Ii (by rw [aT];omega)];omega) (by rw [Ii (by rw [aT];omega)];omega) Po pU J p.h) λ_ _=>go 2 ?_;have c0:a-1+(List.replicate (a-1+k+1-(a-1)) 0).length<=R.length:=by rw [aT];omega
       have c8:=Ii (xs:=R) (lo:=a-1) c0;have c1:a-1+(dg U (val U R/U^(a-1)-D*g)).length<=(spl R (a-1) (List.replicate (a-1+k+1-(a-1)) 0)).length:=O;have F:=Yj2 e (j:=a-1) (n:=a-1+k+1-(a-1)) O (by rw [show a-1+(a-1+k+1-(a-1))=a-1+k+1 by omega];exact P) b5;rw [Hi Xm]at F;have b6:=Yhq (j:=a-1) (N:=x*2^b) (Vq:=val U (q.drop a)) l hQ (by rw [show a-1+1=a by omega];exact hN);have a8:=b6.1;have I:=b6.2;rw [<-F]at a8 I;have c5:val U ((q.set (a-1) g).drop (a-1))=g+U*val U (q.drop a):=by rw [drop_set O,show a-1+1=a by omega];rfl
       rw [<-c5]at I;refine go 4 ?_;refine dt (Yn 6 (a-1) J J J J (Yp pU) Po Kh)<|tt (Lo 6 (enc:=Md) J J J J J J pU J p.h O3 O2) (λ_ _=>?_);refine go 8 ⟨O,?_⟩;exact Ym (a-1,_,_) ⟨O1,(Ii c1).trans (c8.trans a7),Zqs (Zqs e (Ld Xs) _) (Gs Xm _) _,O9,Il Q _ _ f,a8,I⟩ O1 ⟨by rw [show(((a-1:Nat):Int)-1)=(a:Int)-1-1 by omega];rfl,aA⟩ K2
    .refine go 6 ?_;obtain rfl:a=0:=O;rw [gX,jU]at M;have c4:bl (val U R)<=8589934592:=by have:=Ll (eU M);omega
     refine go 2 ?_;refine cl 9 [6] Pu λ_ _=>?_;refine Nm (Zj4 6 J J pU)<|go 1 ?_;refine cl 9 [82] Pu λ_ _=>?_;refine Nm (Zj4 82 J J pU)<|Nm (Yd9 82 (Cm Xm R e).symm J J)<|go 1 ?_;refine cl 10 [82] (Ylq c4 O) λd8 _=>go 5 ?_;rw [lL,gX,jU]at hN;have d1:tz q=dg U (x/y):=by rw [<-Cm Xm _ Q,<-Zmu x y b,<-c,<-hN,aR,gW l,dI M,fR]
     have d2:val U R/2^b=x%y:=by rw [<-Zmt x y b,<-c,<-hN,aR,iU,aU M]
     exact Oy S (_,_) results301 J aA (gow 6 (Kf 10 Za (by rw [d2])) d1)
theorem Zo5(l:bl x<=4000000000:=by omega)(m:bl y<=4000000000:=by omega):Cal prog 297 #[v,w] [Eu v x,Eu w y] true (G:=Value) (λr=>True) (λr=>r) (λr=>[Eu r (Nat.gcd x y)]):=by
 refine Zd func297 ntmps297 λD u p j=>?_;have n:=Nv x;have o:=Nv y;refine go 7<|Zr (Kj 1 91 J J J)<|Zr (Kj 2 92 J J J) ?_;refine lp (G:=Value×Value×Nat×Nat) [] [0,1,2] (λq=>[(0,q.1),(1,q.2.1)]) (λq=>[(91,Eu q.1 q.2.2.1),(92,Eu q.2.1 q.2.2.2)]) (λq=>(Nat.gcd q.2.2.1 q.2.2.2=Nat.gcd x y)/\(bl q.2.2.1<=4000000000)/\(bl q.2.2.2<=4000000000)) (λq=>q.2.2.2) (v,w,x,y) ⟨J,l,m⟩ K2 K2 ?_;rintro⟨z,B,a,b⟩ ⟨i,k,f⟩;dsimp only at i k f;dsimp only;refine go 8<|Zc J (λd=>?_) (λd=>?_)
 .have c:0<b:=by rcases aV b with h|h;(subst h;simp [Ej]at d);exact h
  refine go 7 ?_;refine cl 3 [91,92] (Zyl k f c) λg _=>go 14 ?_;have e:a%b<b:=bO _ c;exact Xg (Kj 92 91 J J J)<|Xg (Kj 4 92 J J J)<|Ym (_,_,b,a%b) ⟨by dsimp only;rw [<-i,Nat.gcd_comm b,<-Nat.gcd_rec,Nat.gcd_comm],f,aB (Ll (eU e)) f⟩ e K2 K2
 .have c:b=0:=(Nu Xm b).1 O;refine go 12 ?_;exact Yx j _ results297 J aA (Kf 91 Za (by rw [<-i,c,Nat.gcd_zero_right]))
theorem Zoz{x:Int}(hs:sg s x):Cal prog 203 #[.agg #[.bool s,v]] [Eu v x.natAbs] true (G:=Bool×Value) (λr=>sg r.1 (-x)) (λr=> .agg #[.bool r.1,r.2]) (λr=>[Eu r.2 (-x).natAbs]):=by refine Zd func203 ntmps203 λg f e c=>go 2 ?_;refine Zz (Zu 2) λb _=>Zz (Zw 3) λd _=>go 9 ?_;refine dt (Xt [(0,_),(1,_)] J K4 (λa w hs=>Kp ((Zl J) a w hs) ((Om 1 J Zk) a w hs)))<|go 4 ?_;exact Yx c (!s,v) results203 J (sg_neg hs) (Kf 1 Za (by rw [iH]))
theorem Zdo{x y:Int}(hs:sg s x)(f:sg t y)(g:bl x.natAbs<=4294967296:=by omega)(h:bl y.natAbs<=4294967296:=by omega):Cal prog 270 #[.agg #[.bool s,v],.agg #[.bool t,w]] [Eu v x.natAbs,Eu w y.natAbs] true (G:=Bool×Value) (λr=>sg r.1 (x*y)) (λr=> .agg #[.bool r.1,r.2]) (λr=>[Eu r.2 (x*y).natAbs]):=by refine Zd func270 ntmps270 λk j i c=>go 2 ?_;refine Zz (Zu 3) λb _=>Zz (Zu 4) λd _=>Zz (Zw 5) λe _=>go 3<|Ph (λ_=>False) [(0,0),(1,0),(2,0),(3,0),(4,0),(5,0),(6,0),(7,0),(8,0),(9,1),(10,0),(11,3)]<|go 9<|Qn (Zx 6 [1,2] (Zyk g h)) λv _=>?_;refine Qd J J (Pt (Xt [(0,_),(1,_)] J K4 (λa w hs=>Kp ((Zl J) a w hs) ((Om 6 J Zk) a w hs))))<|go 4 ?_;exact Yx c (_,_) results270 J (sg_mul hs f) (Kf 6 Za (by rw [cH]))
theorem Zkj{x:Int}(hs:sg s x)(g:bl x.natAbs<=4294967296:=by omega):Cal prog 204 #[.agg #[.bool s,v]] [Eu v x.natAbs] true (G:=Unit) (λ_=>True) (λ_=> .int .i64 x.sign) (λ_=>[]):=by
 refine Zd func204 ntmps204 λi h f d=>?_;have e:=Nv x.natAbs;refine go 2<|Zz (Zu 2) λb _=>go 14<|Zc J (λa=>?_) (λa=>?_)
 .refine go 8 ?_;exact Yx d () results204 (Yaz a) aA Za
 .refine go 7<|Yq J (λc=>?_) (λc=>?_)
  .refine go 8 ?_;exact Yx d () results204 (Ydy hs c a) aA Za
  .refine go 9 ?_;exact Yx d () results204 (Ydx hs c a) aA Za
theorem Zfy{x y:Int}(hs:sg s x)(g:sg t y)(i:bl x.natAbs<=4294967296:=by omega)(j:bl y.natAbs<=4294967296:=by omega):Cal prog 202 #[.agg #[.bool s,v],.agg #[.bool t,w]] [Eu v x.natAbs,Eu w y.natAbs] true (G:=Bool×Value) (λr=>sg r.1 (x+y)) (λr=> .agg #[.bool r.1,r.2]) (λr=>[Eu r.2 (x+y).natAbs]):=by
 refine Zd func202 ntmps202 λu q p f=>go 2 ?_;refine Zz (Zu 3) λb _=>Zz (Zu 4) λl _=>Zz (Zw 5) λm _=>go 14<|Yq J (λd=>?_) (λd=>?_)
 .have c:s=t:=by simpa using d
  refine go 1<|Ph (λ_=>False) [(0,0),(1,0),(2,0),(3,0),(4,0),(5,0),(6,1),(7,0),(8,3)]<|go 6<|Qn (Zx 6 [1,2] (Zym i j)) λv _=>?_;refine Qd J J (Pt (Xt [(0,_),(1,_)] J K4 (λa w hs=>Kp ((Zl J) a w hs) ((Om 6 J Zk) a w hs))))<|go 6 ?_;exact Yx f (_,_) results202 J (Ykp hs (c▸g)) (Kf 6 Za (by rw [Yi9 hs (c▸g)]))
 .have c:s≠t:=by simpa using d
  refine go 6 ?_;refine cl 6 [1,2] (Zcn i j) λr k=>go 4<|Zc J (λh=>?_) (λh=>?_)
  .have e:y.natAbs<=x.natAbs:=by have:=k.1;omega
   refine go 1<|Ph (λ_=>False) [(0,0),(1,0),(2,0),(3,0),(4,0),(5,0),(6,1),(7,0),(8,3)]<|go 6<|Qn (Zx 7 [1,2] (Zfz i)) λn _=>?_;refine Qd J J (Pt (Xt [(0,_),(1,_)] J K4 (λa w hs=>Kp ((Zl J) a w hs) ((Om 7 J Zk) a w hs))))<|go 6 ?_;exact Yx f (_,_) results202 J (Zxp hs g c e) (Kf 7 Za (by rw [Zum hs g c e]))
  .have e:x.natAbs<=y.natAbs:=by have:=k.1;omega
   refine go 4<|Ph (λ_=>False) [(0,0),(1,0),(2,0),(3,0),(4,0),(5,0),(6,1),(7,0),(8,3)]<|go 6<|Qn (Zx 8 [2,1] (Zfz j)) λo _=>?_;refine Qd J J (Pt (Xt [(0,_),(1,_)] J K4 (λa w hs=>Kp ((Zl J) a w hs) ((Om 8 J Zk) a w hs))))<|go 4 ?_;exact Yx f (_,_) results202 J (by rw [mD];exact Zxp g hs (jG c) e) (Kf 8 Za (by rw [mD,Zum g hs (jG c) e]))
theorem Oj{x:Int}(hs:sg s x)(e:bl x.natAbs<=4294967296:=by omega):Cal prog 177 #[.agg #[.bool s,.string (Xo x.natAbs)]] [] true (G:=Bool×Value) (λr=>sg r.1 x) (λr=> .agg #[.bool r.1,r.2]) (λr=>[Eu r.2 x.natAbs]):=by refine Zd func177 ntmps177 λh g f c=>go 2 ?_;refine Zz (Zu 1) λb _=>Zz (Zw 2) λd _=>go 3<|Ph (λ_=>False) [(0,0),(1,0),(2,0),(3,0),(4,1),(5,0),(6,3)]<|go 4<|Qn (Zx 3 [] (Zdf e)) λv _=>?_;refine Qd J J (Pt (Xt [(0,_),(1,_)] J K4 (λa w hs=>Kp ((Zl J) a w hs) ((Om 3 J Zk) a w hs))))<|go 4 ?_;exact Yx c (_,_) results177 J hs (Kf 3 Za J)
theorem Ht{x:Int}(hs:sg s x)(g:bl x.natAbs<=4294967296:=by omega):Xk prog 173 #[.agg #[.bool s,v]] [Eu v x.natAbs] (Zb9 x):=by
 refine Zd func173 ntmps173 λi h f d=>go 2 ?_;refine Zz (Zu 2) λb _=>Zz (Zw 3) λe _=>go 8 ?_;refine cl 3 [1] Zko λ_ _=>go 3<|Zc J (λc=>?_) (λc=>?_)
 .refine go 2 ?_;refine dt (Xt [] J aA (λa w hs=>Yiy))<|go 6 ?_;exact Oy d () results173 (Yan c) aA Za
 .refine go 3 ?_;cases s
  .refine Ph (λ_=>False) [(0,0),(1,0),(2,0),(3,2),(4,2),(5,2),(6,2),(7,0),(8,0),(9,0),(10,1),(11,0),(12,3),(13,3)]<|go 10<|Qn (Zx 3 [1] Zm7) λ_ _=>?_;refine Qd J J (Pt (Xt [(0,_),(1,_)] J K4 (λa w hs=>Yah ((Zl J) a w hs) ((Zl J) a w hs))))<|go 5 ?_;exact Oy d () results173 (by first|exact Zqy hs c|exact Zqx hs c) aA Za
  .refine Ph (λ_=>False) [(0,0),(1,0),(2,0),(3,0),(4,0),(5,0),(6,0),(7,0),(8,0),(9,0),(10,1),(11,0),(12,3),(13,3)]<|go 10<|Qn (Zx 3 [1] Zm7) λ_ _=>?_;refine Qd J J (Pt (Xt [(0,_),(1,_)] J K4 (λa w hs=>Yah ((Zl J) a w hs) ((Zl J) a w hs))))<|go 5 ?_;exact Oy d () results173 (by first|exact Zqy hs c|exact Zqx hs c) aA Za
theorem Zfx(x y:Int)(hs:sg s x)(m:sg t y)(M:bl y.natAbs<=3000000000)(i:y≠0)(I:bl x.natAbs<=3000000000:=by omega):Cal prog 244 #[.agg #[.bool s,v],.agg #[.bool t,w]] [Eu v x.natAbs,Eu w y.natAbs] true (G:=Bool×Value×Value) (λr=>sg r.1 (x/y)) (λr=> .tuple #[.agg #[.bool r.1,r.2.1],.agg #[.bool false,r.2.2]]) (λr=>[Eu r.2.1 (x/y).natAbs,Eu r.2.2 (x%y).natAbs]):=by
 refine Zd func244 ntmps244 λP N z f=>?_;have F:=Nv x.natAbs;have H:=Nv y.natAbs;have j:0<y.natAbs:=O;have l:x.natAbs%y.natAbs<y.natAbs:=bO _ j;have u:=Ll (eU l);have q:=Ll (fV x.natAbs y.natAbs);refine go 2<|Zz (Zu 3) λb _=>Zz (Zu 4) λn _=>Zz (Zw 5) λo _=>Zz (Zw 6) λp _=>go 8 ?_;refine cl 7 [1,2] (Zyl O O j) λg _=>go 13<|Xx 18 J (λe=>?_) (λe=>?_)
 .refine go 6<|Zc J (λc=>?_) (λc=>?_)
  .subst e;have k:0<x.natAbs%y.natAbs:=by rcases aV (x.natAbs%y.natAbs)with h|h;(rw [h]at c;simp [Ej]at c);exact h
   have d:=divA hs m i k;refine Ph (λ_=>False) [(0,0),(3,0),(4,0),(5,0),(1,1),(2,1),(6,1),(7,0),(8,3)]<|go 4 ?_;refine Bp J (Oe [(0,_)] 9 (enc:=Md) (dg U 1) J J K2 Po ti125 J J J J J pU.cells J J z.h) λv _=>Qn (Zx 10 [7,9] (Zym O (show bl 1<=4294967296 by decide))) λB _=>Qn (Zx 11 [2,8] (Zfz O)) λD _=>go 12 ?_;refine dt (Xt [(0,_),(1,_)] J K4 (λa w hs=>Kp ((Zl J) a w hs) ((Om 10 J Zk) a w hs)))<|go 1 ?_;refine dt (Xt [(0,_),(1,_)] J K4 (λa w hs=>Kp ((Zl J) a w hs) ((Om 11 J Zk) a w hs)))<|go 5 ?_;exact Oy f (_,_,_) results244 J d.1 (Kf 10 (Kf 11 Za (by rw [d.2.2]<;>rfl)) (by rw [d.2.1]<;>rfl))
  .have d:=divB hs m i (.inr ((Nu Xm _).1 O));refine go 10 ?_;refine dt (Xt [(0,_),(1,_)] J K4 (λa w hs=>Kp ((Zl J) a w hs) ((Om 7 J Zk) a w hs)))<|go 1 ?_;refine dt (Xt [(0,_),(1,_)] J K4 (λa w hs=>Kp ((Zl J) a w hs) ((Om 8 J Zk) a w hs)))<|go 5 ?_;exact Oy f (_,_,_) results244 J d.1 (Kf 7 (Kf 8 Za (by rw [d.2.2]<;>rfl)) (by rw [d.2.1]<;>rfl))
 .have d:=divB hs m i (.inl e);refine go 17 ?_;refine dt (Xt [(0,_),(1,_)] J K4 (λa w hs=>Kp ((Zl J) a w hs) ((Om 7 J Zk) a w hs)))<|go 1 ?_;refine dt (Xt [(0,_),(1,_)] J K4 (λa w hs=>Kp ((Zl J) a w hs) ((Om 8 J Zk) a w hs)))<|go 5 ?_;exact Oy f (_,_,_) results244 J d.1 (Kf 7 (Kf 8 Za (by rw [d.2.2]<;>rfl)) (by rw [d.2.1]<;>rfl))
variable {P:Program} {N:Nat} {sc:Nat->Prop} {M:Nat->Prop} {env:Qi} {H:Hp} {Q:Exit->Act->World->Prop}
structure BAct (i:Nat) (A:Prop):Prop where h:A
def bq(i:Nat){A:Prop}(h:A):BAct i A:=⟨h⟩
theorem Yal {l:List Oper}  {n:Nat}  (i k:Nat) (a:(Region.noSelect l.toArray && Ff l.toArray ts [(i,k)] listed)=true)
  (h:LD P N sc M l.toArray (A P N sc M l.toArray ts Q n (Fy [(i,k)] listed)) [(i,k)] env H):A P N sc M l.toArray ts Q (n+1) listed env H:=
 Zv _ [(i,k)] h (by rw [a,fJ];show Nat.beq (1+n) (n+1)=true;rw [iB];exact Nat.beq_refl _)
theorem Yck    {n:Nat} (i:Nat) (c:((Region.ready .any ops listed == [i]) && !(Fc ops ts listed) && !([i]:List Nat).isEmpty)=true)
  (a:BAct i (Ze7 P N sc M ops ts Q n listed env H i)):A P N sc M ops ts Q (n+1) listed env H:=Yje [i] c λq b=>by
 rw [bZ.1 b];exact a.h
theorem Zw6    {n:Nat} (i j:Nat) (d:((Region.ready .any ops listed == [i,j]) && !(Fc ops ts listed) && !([i,j]:List Nat).isEmpty)=true)
  (b:BAct i (Ze7 P N sc M ops ts Q n listed env H i)) (c:BAct j (Ze7 P N sc M ops ts Q n listed env H j)):A P N sc M ops ts Q (n+1) listed env H:=Yje [i,j] d λq a=>by
 simp only [aZ,dJ,gG]at a;rcases a with rfl|rfl
 .exact b.h
 .exact c.h
theorem a_b3    {n:Nat} (i j k:Nat) (e:((Region.ready .any ops listed == [i,j,k]) && !(Fc ops ts listed) && !([i,j,k]:List Nat).isEmpty)=true)
  (b:BAct i (Ze7 P N sc M ops ts Q n listed env H i)) (c:BAct j (Ze7 P N sc M ops ts Q n listed env H j)) (d:BAct k (Ze7 P N sc M ops ts Q n listed env H k)):A P N sc M ops ts Q (n+1) listed env H:=Yje [i,j,k] e λq a=>by
 simp only [aZ,dJ,gG]at a;rcases a with rfl|rfl|rfl
 .exact b.h
 .exact c.h
 .exact d.h
end Go.Sky

