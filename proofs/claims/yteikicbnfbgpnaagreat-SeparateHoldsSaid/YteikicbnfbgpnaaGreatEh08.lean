/- Rules, arithmetic and contracts: part 9. No conditions but those that each theorem names. -/
import Derived.Test.YteikicbnfbgpnaaGreatEh07
set_option linter.all false
set_option maxHeartbeats 4000000
namespace Go.Sky
open Go.Proofs
set_option linter.all false
set_option synthInstance.maxHeartbeats 0
variable{v w:Value}{xs ts:List Nat}{x y:Nat}{s t:Bool}{listed:Array Bool}{ops:Array Oper}
@[reducible,instance]def iUnd3:=Und.mk Tryz.underlying3
@[reducible,instance]def iUnd4:=Und.mk Tryz.underlying4
@[reducible,instance]def iUnd5:=Und.mk Tryz.underlying5
@[reducible,instance]def iUnd9:=Und.mk Tryz.underlying9
@[reducible,instance]def iUnd33:=Und.mk Tryz.underlying33
@[reducible,instance]def iUnd39:=Und.mk Tryz.underlying39
@[reducible,instance]def iUnd40:=Und.mk Tryz.underlying40
@[reducible,instance]def iUnd47:=Und.mk Tryz.underlying47
@[reducible,instance]def iUnd80:=Und.mk Tryz.underlying80
@[reducible,instance]def iUnd82:=Und.mk Tryz.underlying82
@[reducible,instance]def iUnd89:=Und.mk Tryz.underlying89
@[reducible,instance]def iUnd91:=Und.mk Tryz.underlying91
@[reducible,instance]def iUnd121:=Und.mk Tryz.underlying121
@[reducible,instance]def iUnd197:=Und.mk Tryz.underlying197
@[reducible,instance]def iUnd217:=Und.mk Tryz.underlying217
@[reducible,instance]def iUnd219:=Und.mk Tryz.underlying219
@[reducible,instance]def iUnd230:=Und.mk Tryz.underlying230
@[reducible,instance]def iUnd232:=Und.mk Tryz.underlying232
@[reducible,instance]def iUnd248:=Und.mk Tryz.underlying248
@[reducible,instance]def iUnd250:=Und.mk Tryz.underlying250
@[reducible,instance]def iUnd268:=Und.mk Tryz.underlying268
@[reducible,instance]def iUnd270:=Und.mk Tryz.underlying270
@[reducible,instance]def iUnd274:=Und.mk Tryz.underlying274
@[reducible,instance]def iUnd276:=Und.mk Tryz.underlying276
@[reducible,instance]def iUnd280:=Und.mk Tryz.underlying280
@[reducible,instance]def iUnd316:=Und.mk Tryz.underlying316
@[reducible,instance]def iSiz3:=Siz.mk Tryz.sizeOf3
@[reducible,instance]def iSiz4:=Siz.mk Tryz.sizeOf4
@[reducible,instance]def iSiz5:=Siz.mk Tryz.sizeOf5
@[reducible,instance]def iSiz9:=Siz.mk Tryz.sizeOf9
@[reducible,instance]def iSiz26:=Siz.mk Tryz.sizeOf26
@[reducible,instance]def iSiz33:=Siz.mk Tryz.sizeOf33
@[reducible,instance]def iSiz40:=Siz.mk Tryz.sizeOf40
@[reducible,instance]def iSiz47:=Siz.mk Tryz.sizeOf47
@[reducible,instance]def iSiz80:=Siz.mk Tryz.sizeOf80
@[reducible,instance]def iSiz82:=Siz.mk Tryz.sizeOf82
@[reducible,instance]def iSiz89:=Siz.mk Tryz.sizeOf89
@[reducible,instance]def iSiz91:=Siz.mk Tryz.sizeOf91
@[reducible,instance]def iSiz217:=Siz.mk Tryz.sizeOf217
@[reducible,instance]def iSiz219:=Siz.mk Tryz.sizeOf219
@[reducible,instance]def iSiz232:=Siz.mk Tryz.sizeOf232
@[reducible,instance]def iSiz248:=Siz.mk Tryz.sizeOf248
@[reducible,instance]def iSiz268:=Siz.mk Tryz.sizeOf268
@[reducible,instance]def iSiz270:=Siz.mk Tryz.sizeOf270
@[reducible,instance]def iSiz276:=Siz.mk Tryz.sizeOf276
@[reducible,instance]def iAgg4:=Agg.mk Tryz.isAgg4
@[reducible,instance]def iAgg9:=Agg.mk Tryz.isAgg9
@[reducible,instance]def iAgg26:=Agg.mk Tryz.isAgg26
@[reducible,instance]def iAgg33:=Agg.mk Tryz.isAgg33
@[reducible,instance]def iAgg80:=Agg.mk Tryz.isAgg80
@[reducible,instance]def iAgg82:=Agg.mk Tryz.isAgg82
@[reducible,instance]def iAgg89:=Agg.mk Tryz.isAgg89
@[reducible,instance]def iAgg91:=Agg.mk Tryz.isAgg91
@[reducible,instance]def iAgg217:=Agg.mk Tryz.isAgg217
@[reducible,instance]def iAgg219:=Agg.mk Tryz.isAgg219
@[reducible,instance]def iAgg268:=Agg.mk Tryz.isAgg268
@[reducible,instance]def iAgg270:=Agg.mk Tryz.isAgg270
@[reducible,instance]def iAgg276:=Agg.mk Tryz.isAgg276
@[reducible,instance]def iZer80:=Zer.mk Tryz.zeroValue80
@[reducible,instance]def iZer82:=Zer.mk Tryz.zeroValue82
@[reducible,instance]def iZer89:=Zer.mk Tryz.zeroValue89
@[reducible,instance]def iZer91:=Zer.mk Tryz.zeroValue91
@[reducible,instance]def iZer219:=Zer.mk Tryz.zeroValue219
@[reducible,instance]def iZer232:=Zer.mk Tryz.zeroValue232
@[reducible,instance]def iZer250:=Zer.mk Tryz.zeroValue250
@[reducible,instance]def iZer270:=Zer.mk Tryz.zeroValue270
@[reducible,instance]def iZer274:=Zer.mk Tryz.zeroValue274
@[reducible,instance]def iZer276:=Zer.mk Tryz.zeroValue276
abbrev cGa(f:Nat):=CalF Go.Proofs.Tryz.prog f
open Go.Proofs.Tryz
instance:cGa 57:=.mk call57
instance:cGa 67:=.mk call67
instance:cGa 69:=.mk call69
instance:cGa 70:=.mk call70
instance:cGa 72:=.mk call72
instance:cGa 76:=.mk call76
instance:cGa 82:=.mk call82
instance:cGa 97:=.mk call97
instance:cGa 99:=.mk call99
instance:cGa 105:=.mk call105
instance:cGa 117:=.mk call117
instance:cGa 118:=.mk call118
instance:cGa 119:=.mk call119
instance:cGa 126:=.mk call126
instance:cGa 127:=.mk call127
instance:cGa 128:=.mk call128
instance:cGa 129:=.mk call129
instance:cGa 130:=.mk call130
instance:cGa 131:=.mk call131
instance:cGa 135:=.mk call135
instance:cGa 136:=.mk call136
instance:cGa 138:=.mk call138
instance:cGa 140:=.mk call140
instance:cGa 143:=.mk call143
instance:cGa 144:=.mk call144
instance:cGa 164:=.mk call164
instance:cGa 165:=.mk call165
instance:cGa 166:=.mk call166
instance:cGa 167:=.mk call167
instance:cGa 169:=.mk call169
instance:cGa 170:=.mk call170
instance:cGa 172:=.mk call172
instance:cGa 173:=.mk call173
instance:cGa 178:=.mk call178
instance:cGa 179:=.mk call179
instance:cGa 180:=.mk call180
instance:cGa 183:=.mk call183
instance:cGa 184:=.mk call184
instance:cGa 188:=.mk call188
instance:cGa 189:=.mk call189
instance:cGa 190:=.mk call190
instance:cGa 191:=.mk call191
instance:cGa 192:=.mk call192
instance:cGa 193:=.mk call193
instance:cGa 194:=.mk call194
instance:cGa 195:=.mk call195
instance:cGa 196:=.mk call196
instance:cGa 197:=.mk call197
instance:cGa 198:=.mk call198
instance:cGa 200:=.mk call200
instance:cGa 202:=.mk call202
instance:cGa 209:=.mk call209
instance:cGa 210:=.mk call210
instance:cGa 211:=.mk call211
instance:cGa 212:=.mk call212
instance:cGa 213:=.mk call213
instance:cGa 214:=.mk call214
instance:cGa 215:=.mk call215
instance:cGa 216:=.mk call216
instance:cGa 217:=.mk call217
instance:cGa 218:=.mk call218
instance:cGa 219:=.mk call219
instance:cGa 220:=.mk call220
instance:cGa 221:=.mk call221
instance:cGa 222:=.mk call222
instance:cGa 223:=.mk call223
instance:cGa 224:=.mk call224
instance:cGa 225:=.mk call225
instance:cGa 226:=.mk call226
instance:cGa 228:=.mk call228
instance:cGa 232:=.mk call232
instance:cGa 233:=.mk call233
instance:cGa 234:=.mk call234
instance:cGa 235:=.mk call235
instance:cGa 236:=.mk call236
instance:cGa 237:=.mk call237
instance:cGa 238:=.mk call238
instance:cGa 239:=.mk call239
instance:cGa 240:=.mk call240
instance:cGa 251:=.mk call251
instance:cGa 257:=.mk call257
instance:cGa 258:=.mk call258
instance:cGa 259:=.mk call259
instance:cGa 260:=.mk call260
instance:cGa 261:=.mk call261
instance:cGa 262:=.mk call262
instance:cGa 263:=.mk call263
instance:cGa 264:=.mk call264
instance:cGa 265:=.mk call265
instance:cGa 266:=.mk call266
instance:cGa 267:=.mk call267
instance:cGa 268:=.mk call268
instance:cGa 272:=.mk call272
instance:cGa 283:=.mk call283
instance:cGa 284:=.mk call284
instance:cGa 285:=.mk call285
instance:cGa 286:=.mk call286
instance:cGa 287:=.mk call287
instance:cGa 288:=.mk call288
instance:cGa 289:=.mk call289
instance:cGa 290:=.mk call290
instance:cGa 291:=.mk call291
instance:cGa 292:=.mk call292
instance:cGa 293:=.mk call293
instance:cGa 294:=.mk call294
instance:cGa 295:=.mk call295
instance:cGa 301:=.mk call301
instance:cGa 302:=.mk call302
instance:cGa 303:=.mk call303
instance:cGa 304:=.mk call304
instance:cGa 305:=.mk call305
instance:cGa 306:=.mk call306
instance:cGa 307:=.mk call307
instance:cGa 308:=.mk call308
instance:cGa 309:=.mk call309
instance:cGa 314:=.mk call314
instance:EncT Tryz.prog 232 1 Mj:=⟨pU⟩
instance:EncE 1 Mj:=⟨_,_,pU⟩
instance:EncT Tryz.prog 5 1 Ziv:=⟨pB⟩
instance:EncE 1 Ziv:=⟨_,_,pB⟩
instance:EncT Tryz.prog 3 1 Hb:=⟨pN⟩
instance:EncE 1 Hb:=⟨_,_,pN⟩
instance:EncT Tryz.prog 3 1 Yq:=⟨pZ⟩
instance:EncE 1 Yq:=⟨_,_,pZ⟩
instance:EncT Tryz.prog 80 2 Zxc:=⟨pW⟩
instance:EncE 2 Zxc:=⟨_,_,pW⟩
instance:EncT Tryz.prog 80 2 wv:=⟨pV⟩
instance:EncE 2 wv:=⟨_,_,pV⟩
instance:EncT Tryz.prog 89 2 Zbk:=⟨pI⟩
instance:EncE 2 Zbk:=⟨_,_,pI⟩
instance {α:Type} : EncT Tryz.prog 40 1 (Ij (α:=α)):=⟨pS⟩
instance {α:Type} : EncE 1 (Ij (α:=α)):=⟨_,_,pS⟩
instance:EncT Tryz.prog 276 8 iq:=⟨pY⟩
instance:EncE 8 iq:=⟨_,_,pY⟩
instance:EncT Tryz.prog 82 4 rq:=⟨pQ⟩
instance:EncE 4 rq:=⟨_,_,pQ⟩
instance:EncT Tryz.prog 82 4 encQ:=⟨pR⟩
instance:EncE 4 encQ:=⟨_,_,pR⟩
@[reducible,instance]def iUnd23:=Und.mk Tryz.underlying23
@[reducible,instance]def iUnd25:=Und.mk Tryz.underlying25
@[reducible,instance]def iUnd35:=Und.mk Tryz.underlying35
@[reducible,instance]def iUnd38:=Und.mk Tryz.underlying38
@[reducible,instance]def iUnd46:=Und.mk Tryz.underlying46
@[reducible,instance]def iUnd50:=Und.mk Tryz.underlying50
@[reducible,instance]def iUnd61:=Und.mk Tryz.underlying61
@[reducible,instance]def iUnd130:=Und.mk Tryz.underlying130
@[reducible,instance]def iUnd135:=Und.mk Tryz.underlying135
@[reducible,instance]def iUnd140:=Und.mk Tryz.underlying140
@[reducible,instance]def iUnd150:=Und.mk Tryz.underlying150
@[reducible,instance]def iUnd162:=Und.mk Tryz.underlying162
@[reducible,instance]def iUnd165:=Und.mk Tryz.underlying165
@[reducible,instance]def iUnd166:=Und.mk Tryz.underlying166
@[reducible,instance]def iUnd182:=Und.mk Tryz.underlying182
@[reducible,instance]def iUnd186:=Und.mk Tryz.underlying186
@[reducible,instance]def iUnd189:=Und.mk Tryz.underlying189
@[reducible,instance]def iUnd190:=Und.mk Tryz.underlying190
@[reducible,instance]def iUnd193:=Und.mk Tryz.underlying193
@[reducible,instance]def iUnd210:=Und.mk Tryz.underlying210
@[reducible,instance]def iUnd242:=Und.mk Tryz.underlying242
@[reducible,instance]def iUnd243:=Und.mk Tryz.underlying243
@[reducible,instance]def iUnd331:=Und.mk Tryz.underlying331
@[reducible,instance]def iSiz23:=Siz.mk Tryz.sizeOf23
@[reducible,instance]def iSiz25:=Siz.mk Tryz.sizeOf25
@[reducible,instance]def iSiz35:=Siz.mk Tryz.sizeOf35
@[reducible,instance]def iSiz38:=Siz.mk Tryz.sizeOf38
@[reducible,instance]def iSiz46:=Siz.mk Tryz.sizeOf46
@[reducible,instance]def iSiz64:=Siz.mk Tryz.sizeOf64
@[reducible,instance]def iSiz130:=Siz.mk Tryz.sizeOf130
@[reducible,instance]def iSiz135:=Siz.mk Tryz.sizeOf135
@[reducible,instance]def iSiz162:=Siz.mk Tryz.sizeOf162
@[reducible,instance]def iSiz182:=Siz.mk Tryz.sizeOf182
@[reducible,instance]def iSiz189:=Siz.mk Tryz.sizeOf189
@[reducible,instance]def iSiz210:=Siz.mk Tryz.sizeOf210
@[reducible,instance]def iSiz242:=Siz.mk Tryz.sizeOf242
@[reducible,instance]def iSiz243:=Siz.mk Tryz.sizeOf243
@[reducible,instance]def iSiz330:=Siz.mk Tryz.sizeOf330
@[reducible,instance]def iAgg3:=Agg.mk Tryz.isAgg3
@[reducible,instance]def iAgg23:=Agg.mk Tryz.isAgg23
@[reducible,instance]def iAgg25:=Agg.mk Tryz.isAgg25
@[reducible,instance]def iAgg35:=Agg.mk Tryz.isAgg35
@[reducible,instance]def iAgg38:=Agg.mk Tryz.isAgg38
@[reducible,instance]def iAgg40:=Agg.mk Tryz.isAgg40
@[reducible,instance]def iAgg46:=Agg.mk Tryz.isAgg46
@[reducible,instance]def iAgg50:=Agg.mk Tryz.isAgg50
@[reducible,instance]def iAgg61:=Agg.mk Tryz.isAgg61
@[reducible,instance]def iAgg64:=Agg.mk Tryz.isAgg64
@[reducible,instance]def iAgg130:=Agg.mk Tryz.isAgg130
@[reducible,instance]def iAgg135:=Agg.mk Tryz.isAgg135
@[reducible,instance]def iAgg162:=Agg.mk Tryz.isAgg162
@[reducible,instance]def iAgg182:=Agg.mk Tryz.isAgg182
@[reducible,instance]def iAgg189:=Agg.mk Tryz.isAgg189
@[reducible,instance]def iAgg210:=Agg.mk Tryz.isAgg210
@[reducible,instance]def iAgg243:=Agg.mk Tryz.isAgg243
@[reducible,instance]def iAgg330:=Agg.mk Tryz.isAgg330
@[reducible,instance]def iZer3:=Zer.mk Tryz.zeroValue3
@[reducible,instance]def iZer4:=Zer.mk Tryz.zeroValue4
@[reducible,instance]def iZer23:=Zer.mk Tryz.zeroValue23
@[reducible,instance]def iZer25:=Zer.mk Tryz.zeroValue25
@[reducible,instance]def iZer26:=Zer.mk Tryz.zeroValue26
@[reducible,instance]def iZer35:=Zer.mk Tryz.zeroValue35
@[reducible,instance]def iZer38:=Zer.mk Tryz.zeroValue38
@[reducible,instance]def iZer64:=Zer.mk Tryz.zeroValue64
@[reducible,instance]def iZer130:=Zer.mk Tryz.zeroValue130
@[reducible,instance]def iZer135:=Zer.mk Tryz.zeroValue135
@[reducible,instance]def iZer162:=Zer.mk Tryz.zeroValue162
@[reducible,instance]def iZer165:=Zer.mk Tryz.zeroValue165
@[reducible,instance]def iZer166:=Zer.mk Tryz.zeroValue166
@[reducible,instance]def iZer182:=Zer.mk Tryz.zeroValue182
@[reducible,instance]def iZer189:=Zer.mk Tryz.zeroValue189
@[reducible,instance]def iZer210:=Zer.mk Tryz.zeroValue210
@[reducible,instance]def iZer243:=Zer.mk Tryz.zeroValue243
open Go.Proofs.Tryz
instance:cGa 20:=.mk call20
instance:cGa 23:=.mk call23
instance:cGa 24:=.mk call24
instance:cGa 28:=.mk call28
instance:cGa 31:=.mk call31
instance:cGa 36:=.mk call36
instance:cGa 37:=.mk call37
instance:cGa 40:=.mk call40
instance:cGa 42:=.mk call42
instance:cGa 43:=.mk call43
instance:cGa 46:=.mk call46
instance:cGa 48:=.mk call48
instance:cGa 50:=.mk call50
instance:cGa 52:=.mk call52
instance:cGa 53:=.mk call53
instance:cGa 54:=.mk call54
instance:cGa 58:=.mk call58
instance:cGa 59:=.mk call59
instance:cGa 60:=.mk call60
instance:cGa 68:=.mk call68
instance:cGa 73:=.mk call73
instance:cGa 75:=.mk call75
instance:cGa 83:=.mk call83
instance:cGa 85:=.mk call85
instance:cGa 86:=.mk call86
instance:cGa 89:=.mk call89
instance:cGa 90:=.mk call90
instance:cGa 91:=.mk call91
instance:cGa 92:=.mk call92
instance:cGa 93:=.mk call93
instance:cGa 94:=.mk call94
instance:cGa 95:=.mk call95
instance:cGa 96:=.mk call96
instance:cGa 98:=.mk call98
instance:cGa 101:=.mk call101
instance:cGa 102:=.mk call102
instance:cGa 103:=.mk call103
instance:cGa 104:=.mk call104
instance:cGa 107:=.mk call107
instance:cGa 108:=.mk call108
instance:cGa 109:=.mk call109
instance:cGa 110:=.mk call110
instance:cGa 111:=.mk call111
instance:cGa 113:=.mk call113
instance:cGa 114:=.mk call114
instance:cGa 115:=.mk call115
instance:cGa 120:=.mk call120
instance:cGa 121:=.mk call121
instance:cGa 122:=.mk call122
instance:cGa 123:=.mk call123
instance:cGa 124:=.mk call124
instance:cGa 125:=.mk call125
instance:cGa 132:=.mk call132
instance:cGa 133:=.mk call133
instance:cGa 134:=.mk call134
instance:cGa 137:=.mk call137
instance:cGa 139:=.mk call139
instance:cGa 141:=.mk call141
instance:cGa 142:=.mk call142
instance:cGa 145:=.mk call145
instance:cGa 150:=.mk call150
instance:cGa 151:=.mk call151
instance:cGa 153:=.mk call153
instance:cGa 154:=.mk call154
instance:cGa 155:=.mk call155
instance:cGa 159:=.mk call159
instance:cGa 160:=.mk call160
instance:cGa 161:=.mk call161
instance:cGa 162:=.mk call162
instance:cGa 163:=.mk call163
instance:cGa 168:=.mk call168
instance:cGa 171:=.mk call171
instance:cGa 174:=.mk call174
instance:cGa 175:=.mk call175
instance:cGa 177:=.mk call177
instance:cGa 181:=.mk call181
instance:cGa 182:=.mk call182
instance:cGa 185:=.mk call185
instance:cGa 186:=.mk call186
instance:cGa 187:=.mk call187
instance:cGa 199:=.mk call199
instance:cGa 203:=.mk call203
instance:cGa 204:=.mk call204
instance:cGa 227:=.mk call227
instance:cGa 229:=.mk call229
instance:cGa 230:=.mk call230
instance:cGa 231:=.mk call231
instance:cGa 241:=.mk call241
instance:cGa 247:=.mk call247
instance:cGa 271:=.mk call271
instance:cGa 278:=.mk call278
open Go.Proofs.Tryz
set_option synthInstance.maxSize 100000
set_option maxRecDepth 20000
set_option linter.unusedSimpArgs false
theorem Yht(v:Value)(xs:List Nat):Cal prog 183 #[v] [Yw 1 Mj v xs] true (G:=Unit) (λ_=>True) (λ_=>Kb v (tz xs).length) (λ_=>[Yw 1 Mj (Kb v (tz xs).length) (tz xs)]):=by
 refine Zg func183 ntmps183 λo n m c=>?_;refine Of (Zw6 (i:=1) J Zl) (λa=>?_);refine Of (Ir (i:=1) J Zl) λl=>go 7 ?_;refine lp (G:=Nat) [] [0] (λk=>[(0,Kb v k)]) (λk=>[(1,Yw 1 Mj (Kb v k) (xs.take k))]) (λk=>(k<=xs.length)/\(tz (xs.take k)=tz xs)) (λk=>k) xs.length ⟨aI _,by rw [bO]⟩ ⟨by rw [a];rfl,aA⟩ ⟨by rw [a,bO];rfl,aA⟩ ?_;rintro k ⟨g,h⟩;have e:(xs.take k).length=k:=by rw [aR];omega
 refine go 7 ?_;refine Xf 6 J (λj=>?_) (λj=>?_)
 .refine go 4 ⟨O1,?_⟩;refine Kl (Zq 1 (k-1) J J J J Zl Ps Kg) J J<|go 5 ⟨O1,?_⟩;refine Zc J (λf=>?_) (λf=>?_)
  .have b:=Zyf g O1 (by omega:(xs.take k).getD (k-1) 0=0);refine go 8 ⟨O1,?_⟩;refine dt (Ya5 1 (k-1) J J J J Zl Ps Kg)<|go 3 ?_;exact Zv (Yga 1 1 (k-1) J J)<|Yu (k-1) ⟨O2,by rw [<-h,<-b]⟩ O2 ⟨by rw [<-Fe v k (k-1)];rfl,aA⟩ ⟨by rw [Fe,jB,dM O1];rfl,aA⟩
  .refine go 12 ?_;have d:tz xs=xs.take k:=by rw [<-h];exact Ze8 g O1
   exact Xn c () results183 (by rw [d,e]) aA (Oi 1 Za (by rw [d,e]))
 .refine go 23 ?_;have d:tz xs=xs.take k:=by rw [<-h];exact Ze8 g O1
  exact Xn c () results183 (by rw [d,e]) aA (Oi 1 Za (by rw [d,e]))
def Py:Cal prog 183 #[v] [Yw 1 Mj v xs] false (G:=Unit) (λ_=>True) (λ_=>Kb v (tz xs).length) (λ_=>[]):=(Yht v xs).bare
theorem Zzw(z:bl x<=4294967296)(N:bl y<=4294967296):Cal prog 222 #[v,w] [Ek v x,Ek w y] false (G:=Value) (λr=>True) (λr=>r) (λr=>[Ek r (x+y)]):=by
 refine Zg func222 ntmps222 λS P n m=>?_;have I:=Nw x;have M:=Nw y;refine go 5 ?_;refine jn (G:=Value×Value×Nat×Nat) [] [0,1,2] (λq=>[(0,q.1),(1,q.2.1)]) (λq=>[(91,Ek q.1 q.2.2.1),(92,Ek q.2.1 q.2.2.2)]) (λq=>(q.2.2.1+q.2.2.2=x+y)/\((dg U q.2.2.2).length<=(dg U q.2.2.1).length)/\((dg U q.2.2.1).length<=1099511627776)) ?_ ?_
 .refine go 9 ?_;refine Zc J (λg=>?_) (λg=>?_)
  .refine go 6 ?_;exact Zv (Qz 2 91 J J J)<|Zv (Qz 1 92 J J J)<|Nb (w,v,y,x) ⟨O2,O2,O2⟩ K2 K2
  .refine go 1 ?_;exact Zv (Qz 1 91 J J J)<|Zv (Qz 2 92 J J J)<|Nb (v,w,x,y) ⟨O2,O2,O2⟩ K2 K2
 .rintro⟨Q,R,a,b⟩ ⟨hs,u,j⟩;dsimp only at hs u j;dsimp only;refine go 5 ⟨O1,?_⟩;refine tt (Fc 3 ((dg U a).length+1) 8 (enc:=Mj) 0 J J J J Ps ti232 J pU.cells pU.pos J J J n.h) λv _=>go 17 ?_;refine lp (G:=Nat×List Nat×Nat) [0,1,5,21] [0,91,92,1,2] (λq=>[(22,.int .i64 (q.1:Int)),(6,.int .u64 (q.2.2:Int))]) (λq=>[(3,Pz 1 232 Mj v q.2.1)]) (λq=>(q.1<=(dg U a).length)/\(q.2.1.length=(dg U a).length+1)/\(∀d∈q.2.1,d<U)/\(q.2.2<=1)/\(Yj U (q.2.1.take q.1)+q.2.2*U^q.1=Yj U ((dg U a).take q.1)+Yj U ((dg U b).take q.1))) (λq=>(dg U a).length-q.1) (0,List.replicate ((dg U a).length+1) 0,0) ⟨O2,O8,Ou Xr,O2,by simp [Yj]⟩ K2 K1 ?_;rintro⟨k,o,c⟩ ⟨D,l,e,B,f⟩;dsimp only at D l e B f;dsimp only;refine go 6 ?_;refine Zc J (λh=>?_) (λh=>?_)
  .refine go 15 ?_;refine jn (G:=Unit) [0,1,5,6,7,21,22] [0,3,91,92,1,2] (λ_=>[(8,.int .u64 ((dg U b).getD k 0:Int))]) (λ_=>[]) (λ_=>True) ?_ ?_
   .refine go 8 ?_;refine Zc J (λi=>?_) (λi=>?_)
    .refine go 7 ⟨O4,O4,?_⟩
     try (have p:(dg U b).getD k 0=0:=by simp [List.getD,bF (by omega:(dg U b).length<=k)])
     exact Nb () aA ⟨by first|rfl|(rw [p];rfl),aA⟩ aA
    .refine go 1 ?_
     try (have p:(dg U b).getD k 0=0:=by simp [List.getD,bF (by omega:(dg U b).length<=k)])
     exact Nb () aA ⟨by first|rfl|(rw [p];rfl),aA⟩ aA
   .rintro _ -;refine go 9 ⟨O4,O4,?_⟩;refine dt (Zq1 _ J J J J O1 Zhx)<|go 4 ⟨O4,?_⟩;refine tt (Lp 3 (enc:=Mj) J J J J J J pU J n.h O3 O4) (λ_ _=>?_);refine go 8 ⟨O1,?_⟩;exact Yu (k+1,_,_) ⟨O2,O9,Ll e _ (bP _ Xr),by have F:=Xl Xr (Nd Xm a) k;have H:=Xl Xr (Nd Xm b) k;simp only [U]at *;omega,Yla f O1⟩ O2 K2 K1
  .refine go 6 ?_;obtain rfl:k=(dg U a).length:=O1;refine go 6 ⟨O4,?_⟩;refine tt (Lp 3 (enc:=Mj) J J J J J J pU J n.h O3 O4) λ_ _=>go 5 ?_;refine cl 3 [3] Py λ_ _=>?_;refine Xh (Zbz 3 J J pU)<|go 4 ?_;have z:tz (o.set (dg U a).length c)=dg U (x+y):=by
    rw [<-Ky Xm _ (Ll e _ (by simp only [U];omega)),<-hs];congr 1
    conv=>rhs;rw [<-Mb Xm a,<-Mb Xm b]
    rw [cE (aI (dg U a).length),Nu U (dg U b) u]at f;rw [<-f,<-Cf U o c O1,Nu _ _ O9]
   exact Xn m _ results222 J aA (gow 3 Za z)
theorem Zf4(p:bl x<=4294967296)(j:y<=x:=by omega):Cal prog 224 #[v,w] [Ek v x,Ek w y] false (G:=Value) (λr=>True) (λr=>r) (λr=>[Ek r (x-y)]):=by
 refine Zg func224 ntmps224 λM I n h=>?_;have D:=Nw x;have F:=Nw y;have H:=Pr j;refine go 9 ?_;refine tt (Fc 3 ((dg U x).length) 8 (enc:=Mj) 0 J J J J Ps ti232 J pU.cells pU.pos J J J n.h) λv _=>go 17 ?_;refine lp (G:=Nat×List Nat×Nat) [0,1,5,13] [0,1,2] (λq=>[(14,.int .i64 (q.1:Int)),(6,.int .u64 (q.2.2:Int))]) (λq=>[(3,Pz 1 232 Mj v q.2.1)]) (λq=>(q.1<=(dg U x).length)/\(q.2.1.length=(dg U x).length)/\(∀d∈q.2.1,d<U)/\(q.2.2<=1)/\(Yj U (q.2.1.take q.1)+Yj U ((dg U y).take q.1)=Yj U ((dg U x).take q.1)+q.2.2*U^q.1)) (λq=>(dg U x).length-q.1) (0,List.replicate ((dg U x).length) 0,0) ⟨O2,O8,Ou Xr,O2,by simp [Yj]⟩ K2 K1 ?_;rintro⟨k,o,c⟩ ⟨B,b,a,m,i⟩;dsimp only at B b a m i;dsimp only;refine go 6 ?_;refine Zc J (λe=>?_) (λe=>?_)
 .refine go 15 ?_;refine jn (G:=Unit) [0,1,5,6,7,13,14] [0,3,1,2] (λ_=>[(8,.int .u64 ((dg U y).getD k 0:Int))]) (λ_=>[]) (λ_=>True) ?_ ?_
  .refine go 8 ?_;refine Zc J (λf=>?_) (λf=>?_)
   .refine go 7 ⟨O4,O4,?_⟩
    try (have l:(dg U y).getD k 0=0:=by simp [List.getD,bF (by omega:(dg U y).length<=k)])
    exact Nb () aA ⟨by first|rfl|(rw [l];rfl),aA⟩ aA
   .refine go 1 ?_
    try (have l:(dg U y).getD k 0=0:=by simp [List.getD,bF (by omega:(dg U y).length<=k)])
    exact Nb () aA ⟨by first|rfl|(rw [l];rfl),aA⟩ aA
  .rintro _ -;refine go 9 ⟨O4,O4,?_⟩;refine dt (Yo2 J J J J O1 Yci)<|go 4 ⟨O4,?_⟩;refine tt (Lp 3 (enc:=Mj) J J J J J J pU J n.h O3 O4) (λ_ _=>?_);refine go 8 ⟨O1,?_⟩;exact Yu (k+1,_,_) ⟨O2,O9,Ll a _ (bP _ Xr),Ykv,Ye6 m (Xl Xr (Nd Xm x) k) (Xl Xr (Nd Xm y) k) i O1⟩ O2 K2 K1
 .refine go 8 ?_;refine cl 3 [3] Py λ_ _=>?_;refine Xh (Zbz 3 J J pU)<|go 4 ?_;obtain rfl:k=(dg U x).length:=O1;have p:tz o=dg U (x-y):=by rw [<-Ky Xm _ a];congr 1;have g:(dg U y).length<=(dg U x).length:=O1;rw [Nu U o O1,Nu U (dg U y) g,Nu U (dg U x) (aI _),Mb Xm,Mb Xm]at i;have z:=Zgv Xr o a;rw [b]at z;have u:c=0\/c=1:=O1;rcases u with rfl|rfl<;>omega
  exact Xn h _ results224 J aA (gow 3 Za p)
theorem Zce(p:bl x<=4294967296)(q:bl y<=4294967296):Cal prog 223 #[v,w] [Ek v x,Ek w y] false (G:=Int) (λr=>(r<0↔x<y)/\(0<r↔y<x)) (λr=> .int .i64 r) (λr=>[]):=by
 refine Zg func223 ntmps223 λz u o a=>?_;have l:=Nw x;have m:=Nw y;refine go 15 ?_;refine Zc J (λe=>?_) (λe=>?_)
 .refine go 12 ⟨O1,?_⟩;exact Xn a _ results223 J ⟨⟨λh=>Zar Xm O1,λh=>by have:=Pr (eK h);omega⟩,⟨λh=>Zar Xm O1,λh=>by have:=Pr (eK h);omega⟩⟩ Za
 .have c:(dg U x).length=(dg U y).length:=O1;refine go 12 ⟨O1,?_⟩;refine lp (G:=Nat) [0,1] [0,1,2] (λk=>[(5,.int .i64 ((k:Int)-1))]) (λk=>[]) (λk=>(k<=(dg U x).length)/\((dg U x).drop k=(dg U y).drop k)) (λk=>k) (dg U x).length ⟨O2,by rw [jE,c,jE]⟩ K1 aA ?_;rintro k ⟨n,d⟩;refine go 7 ?_;refine Zc J (λf=>?_) (λf=>?_)
  .refine go 6 ?_;refine Xu (λ_=>False) [(0,0),(1,0),(2,0),(3,0),(4,0),(5,0),(6,0),(7,0),(8,0),(9,0)]<|go 2 ?_;refine Xg J J (Xd (Zq 1 (k-1) J J J J Zl Ps Kg))<|go 3 ⟨O4,?_⟩;refine Xg J J (Xd (Zq 2 (k-1) J J J J Zl Ps Kg))<|go 5 ⟨O4,?_⟩;refine Zc J (λg=>?_) (λg=>?_)
   .refine go 12 ?_;have b:=Zra Xr (xs:=dg U x) (ys:=dg U y) (Nd Xm x) (k:=k-1) O1 O1 (by rw [show k-1+1=k by omega];exact d) O1;rw [Mb Xm,Mb Xm]at b;exact Xn a (-1) results223 J O1 Za
   .refine go 1 ?_;refine Xu (λ_=>False) [(0,0),(1,0),(2,0),(3,0),(4,0),(5,0),(6,0),(7,0),(8,0),(9,0)]<|go 2 ?_;refine Xg J J (Xd (Zq 1 (k-1) J J J J Zl Ps Kg))<|go 3 ⟨O4,?_⟩;refine Xg J J (Xd (Zq 2 (k-1) J J J J Zl Ps Kg))<|go 5 ⟨O4,?_⟩;refine Zc J (λi=>?_) (λi=>?_)
    .refine go 12 ?_;have b:=Zra Xr (xs:=dg U y) (ys:=dg U x) (Nd Xm y) (k:=k-1) O1 O1 (by rw [show k-1+1=k by omega];exact d.symm) O1;rw [Mb Xm,Mb Xm]at b;exact Xn a 1 results223 J O1 Za
    .refine go 9 ⟨O1,?_⟩;exact Yu (k-1) ⟨O2,by have:=Zgg (dg U x) (dg U y) (k:=k-1) O1 O1 (by rw [show k-1+1=k by omega];exact d) O1;exact this⟩ O2 ⟨by rw [show(((k-1:Nat):Int)-1)=(k:Int)-1-1 by omega];rfl,aA⟩ aA
  .refine go 11 ?_;obtain rfl:k=0:=O1;have j:x=y:=(Zht Xm).1 (by simpa using d);exact Xn a 0 results223 J O1 Za
theorem Yky(b:x<U)(c:y<U):Xy prog 268 #[.int .u64 (x:Int),.int .u64 (y:Int)] [] (.tuple #[.int .u64 ((x*y/U:Nat):Int),.int .u64 ((x*y%U:Nat):Int)]):=by refine Zg func268 ntmps268 λf e d a=>?_;simp only [U]at b c;refine go 9 ?_;refine dt (Zr6 J J J b)<|go 6 ?_;refine dt (Gq 4294967296 (n:=32) J J J J J)<|go 6 ?_;refine dt (Zr6 J J J c)<|go 6 ?_;refine dt (Gq 4294967296 (n:=32) J J J J J)<|go 7 ?_;refine dt (Cb J J J)<|go 7 ?_;refine dt (Cb J J J)<|go 1 ?_;refine dt (Gq 4294967296 (n:=32) J J J J J)<|dt (Ba J J J)<|go 6 ?_;refine dt (Zr6 J J J (bP _ Xr))<|go 6 ?_;refine dt (Gq 4294967296 (n:=32) J J J J J)<|go 8 ?_;refine dt (Cb J J J)<|dt (Ba J J J)<|go 7 ?_;refine dt (Cb J J J)<|go 1 ?_;refine dt (Ba J J J)<|go 1 ?_;refine dt (Gq 4294967296 (n:=32) J J J J J)<|dt (Ba J J J)<|go 7 ?_;refine dt (Cb J J J)<|go 4 ?_;exact Ma a () results268 (by rw [Yhz b c rfl rfl]) aA Za
theorem Zzu(I:bl x<=4294967296)(R:bl y<=4294967296):Cal prog 220 #[v,w] [Ek v x,Ek w y] false (G:=Value) (λr=>True) (λr=>r) (λr=>[Ek r (x*y)]):=by
 refine Zg func220 ntmps220 λV S F D=>?_;have P:=Nw x;have Q:=Nw y;refine go 12 ⟨O1,?_⟩;refine tt (Fc 3 ((dg U x).length+(dg U y).length) 8 (enc:=Mj) 0 J J J J Ps ti232 J pU.cells pU.pos J J J F.h) λv _=>go 12 ?_;refine lp (G:=Nat×List Nat) [1,5,20,21] [0,1,2] (λq=>[(22,.int .i64 (q.1:Int))]) (λq=>[(3,Pz 1 232 Mj v q.2)]) (λq=>(q.1<=(dg U x).length)/\(q.2.length=(dg U x).length+(dg U y).length)/\(∀d∈q.2,d<U)/\(∀j,q.1+(dg U y).length<=j->q.2.getD j 0=0)/\(Yj U (q.2.take (q.1+(dg U y).length))=Yj U ((dg U x).take q.1)*y)) (λq=>(dg U x).length-q.1) (0,List.replicate ((dg U x).length+(dg U y).length) 0) ⟨O2,O8,Ou Xr,λj _=>Kx _ j,by simp [Yj,oJ,Ge]⟩ K1 K1 ?_;rintro⟨i,o⟩ ⟨hi,u,g,M,z⟩;dsimp only at hi u g M z;dsimp only;refine go 6 ?_;refine Zc J (λm=>?_) (λm=>?_)
 .refine go 27 ⟨O4,O4,?_⟩;refine lp (G:=Nat×List Nat×Nat) [1,5,6,7,20,21,22,27,28] [0,1,2] (λq=>[(29,.int .i64 (q.1:Int)),(8,.int .u64 (q.2.2:Int))]) (λq=>[(3,Pz 1 232 Mj v q.2.1)]) (λq=>(q.1<=(dg U y).length)/\(q.2.1.length=(dg U x).length+(dg U y).length)/\(∀d∈q.2.1,d<U)/\(∀j,i+(dg U y).length<=j->q.2.1.getD j 0=0)/\(q.2.2<U)/\(Yj U (q.2.1.take (i+(dg U y).length))+q.2.2*U^(i+q.1)=Yj U ((dg U x).take i)*y+(dg U x).getD i 0*U^i*Yj U ((dg U y).take q.1))) (λq=>(dg U y).length-q.1) (0,o,0) ⟨O2,u,g,M,Xr,by rw [z];simp [Yj]⟩ K2 K1 ?_;rintro⟨k,p,c⟩ ⟨N,B,a,l,f,h⟩;dsimp only at N B a l f h;dsimp only;have b:=Yda (Xl Xr (Nd Xm x) i) (Xl Xr (Nd Xm y) k) (Xl Xr a (i+k)) f;refine go 6 ?_;refine Zc J (λn=>?_) (λn=>?_)
  .refine go 17 ⟨O4,O4,?_⟩;refine cl 3 [] (Yky (Xl Xr (Nd Xm _) _) (Xl Xr (Nd Xm _) _)) λ_ _=>?_;refine go 14 ⟨O1,?_⟩;refine dt (Zq 3 (i+k) J J J J (Zy pU) Ps Kg)<|go 1 ⟨O4,?_⟩;refine dt (Zq1 0 J J J J O1 Zhx)<|go 11 ?_;refine dt (Ba J J J)<|go 7 ?_;refine dt (Zq1 0 J J J J O1 Zhx)<|go 15 ⟨O1,?_⟩;refine dt (Ba J J J)<|dt (Zq 3 (i+k) J J J J (Zy pU) Ps Kg)<|tt (Lp 3 (enc:=Mj) J J J J J J pU J F.h O3 O4) (λ_ _=>?_);refine go 8 ⟨O1,?_⟩;exact Yu (k+1,_,_) ⟨O2,O9,Ll a _ (bP _ Xr),λj H=>by rw [Ok O1,aH O1];exact l j H,b.2,Yhy h O1 O1 b.1⟩ O2 K2 K1
  .refine go 5 ?_;obtain rfl:k=(dg U y).length:=O1;have e:=h;rw [cE (aI (dg U y).length),Mb Xm]at e;refine go 7 ⟨O1,?_⟩;refine dt (Zq 3 (i+(dg U y).length) J J J J (Zy pU) Ps Kg)<|tt (Lp 3 (enc:=Mj) J J J J J J pU J F.h O3 O4) (λ_ _=>?_);refine go 7 ⟨O1,?_⟩;exact Yu (i+1,_) ⟨O2,O9,Ll a _ f,λj H=>by rw [Ok O1,aH O1];exact l j O1,by dsimp only;rw [show i+1+(dg U y).length=i+(dg U y).length+1 by omega,Cf _ _ _ O1,Qc,bK,<-e]⟩ O2 K1 K1
 .refine go 8 ?_;refine cl 3 [3] Py λ_ _=>?_;refine Xh (Zbz 3 J J pU)<|go 4 ?_;obtain rfl:i=(dg U x).length:=O1;have I:tz o=dg U (x*y):=by rw [<-Ky Xm _ g];congr 1;rw [Nu U o O1,cE (aI _),Mb Xm]at z;exact z
  exact Xn D _ results220 J aA (gow 3 Za I)
theorem Zva(q:x<U):Xy prog 251 #[.int .u64 (x:Int)] [] (.int .i64 (bl x:Int)):=by
 refine Zg func251 ntmps251 λH G F g=>?_;simp only [U]at q;have c:=Hm x 32;have a:=Hm x 16;have l:=Hm x 8;have b:=Hm x 24;have d:=Hm x 40;have e:=Hm x 48;have f:=Hm x 56;have f32:=Zbw 32 x;have f16:=Zbw 16 x;have f8:=Zbw 8 x;have f24:=Zbw 24 x;have f40:=Zbw 40 x;have f48:=Zbw 48 x;have f56:=Zbw 56 x;have r:=aY x (2^32) (2^16);have u:=aY x (2^32) (2^8);have z:=aY x (2^16) (2^8);have B:=aY (x/2^32) (2^16) (2^8);have D:=aY x (2^32) (2^16*2^8);simp only [Nat.reducePow,Nat.reduceMul]at *;refine go 12 ?_;refine Zc J (λm=>?_) (λm=>?_)
 .refine go 3 ?_;refine dt (Gq 4294967296 (n:=32) J J J J J)<|go 14 ?_;refine Zc J (λo=>?_) (λo=>?_)
  .refine go 3 ?_;refine dt (Gq 65536 (n:=16) J J J J J)<|go 16 ⟨O1,?_⟩;refine Zc J (λp=>?_) (λp=>?_)
   .refine go 3 ?_;refine dt (Gq 256 (n:=8) J J J J J)<|go 13 ⟨O1,?_⟩;refine dt (Zd4 J J Zab uT5)<|dt (Zii J J J uT9 J O1 O3 O6)<|dt (Zbn J J uT5 uT3 Ak)<|go 5 ⟨Du O1 O1,?_⟩;exact Xn g () results251 (Aj x O1 (by first|omega|(simp only [aY,Nat.reduceMul,c,a,l,b,d,e,f];omega))).symm aA Za
   .refine go 6 ?_;refine dt (Zd4 J J Zab uT5)<|dt (Zii J J J uT9 J O1 O3 O6)<|dt (Zbn J J uT5 uT3 Ak)<|go 5 ⟨Du O1 O1,?_⟩;exact Xn g () results251 (Aj x O1 (by first|omega|(simp only [aY,Nat.reduceMul,c,a,l,b,d,e,f];omega))).symm aA Za
  .refine go 9 ?_;refine Zc J (λi=>?_) (λi=>?_)
   .refine go 3 ?_;refine dt (Gq 256 (n:=8) J J J J J)<|go 13 ⟨O1,?_⟩;refine dt (Zd4 J J Zab uT5)<|dt (Zii J J J uT9 J O1 O3 O6)<|dt (Zbn J J uT5 uT3 Ak)<|go 5 ⟨Du O1 O1,?_⟩;exact Xn g () results251 (Aj x O1 (by first|omega|(simp only [aY,Nat.reduceMul,c,a,l,b,d,e,f];omega))).symm aA Za
   .refine go 6 ?_;refine dt (Zd4 J J Zab uT5)<|dt (Zii J J J uT9 J O1 O3 O6)<|dt (Zbn J J uT5 uT3 Ak)<|go 5 ⟨Du O1 O1,?_⟩;exact Xn g () results251 (Aj x O1 (by first|omega|(simp only [aY,Nat.reduceMul,c,a,l,b,d,e,f];omega))).symm aA Za
 .refine go 9 ?_;refine Zc J (λh=>?_) (λh=>?_)
  .refine go 3 ?_;refine dt (Gq 65536 (n:=16) J J J J J)<|go 16 ⟨O1,?_⟩;refine Zc J (λj=>?_) (λj=>?_)
   .refine go 3 ?_;refine dt (Gq 256 (n:=8) J J J J J)<|go 13 ⟨O1,?_⟩;refine dt (Zd4 J J Zab uT5)<|dt (Zii J J J uT9 J O1 O3 O6)<|dt (Zbn J J uT5 uT3 Ak)<|go 5 ⟨Du O1 O1,?_⟩;exact Xn g () results251 (Aj x O1 (by first|omega|(simp only [aY,Nat.reduceMul,c,a,l,b,d,e,f];omega))).symm aA Za
   .refine go 6 ?_;refine dt (Zd4 J J Zab uT5)<|dt (Zii J J J uT9 J O1 O3 O6)<|dt (Zbn J J uT5 uT3 Ak)<|go 5 ⟨Du O1 O1,?_⟩;exact Xn g () results251 (Aj x O1 (by first|omega|(simp only [aY,Nat.reduceMul,c,a,l,b,d,e,f];omega))).symm aA Za
  .refine go 9 ?_;refine Zc J (λk=>?_) (λk=>?_)
   .refine go 3 ?_;refine dt (Gq 256 (n:=8) J J J J J)<|go 13 ⟨O1,?_⟩;refine dt (Zd4 J J Zab uT5)<|dt (Zii J J J uT9 J O1 O3 O6)<|dt (Zbn J J uT5 uT3 Ak)<|go 5 ⟨Du O1 O1,?_⟩;exact Xn g () results251 (Aj x O1 (by first|omega|(simp only [aY,Nat.reduceMul,c,a,l,b,d,e,f];omega))).symm aA Za
   .refine go 6 ?_;refine dt (Zd4 J J Zab uT5)<|dt (Zii J J J uT9 J O1 O3 O6)<|dt (Zbn J J uT5 uT3 Ak)<|go 5 ⟨Du O1 O1,?_⟩;exact Xn g () results251 (Aj x O1 (by first|omega|(simp only [aY,Nat.reduceMul,c,a,l,b,d,e,f];omega))).symm aA Za
theorem Zro(b:x<U):Xy prog 272 #[.int .u64 (x:Int)] [] (.int .i64 ((64-bl x:Nat):Int)):=by refine Zg func272 ntmps272 λf e d a=>?_;have c:bl x<=64:=(Qi 64 x).2 b;refine go 8 ?_;refine cl 0 [] (Zva b) λ_ _=>?_;refine go 5 ⟨O1,?_⟩;exact Xn a () results272 (by congr 1;omega) aA Za
theorem Zk4(g:bl x<=1099511627776:=by omega):Xy prog 232 #[v] [Ek v x] (.int .i64 (bl x:Int)):=by
 refine Zg func232 ntmps232 λj i f b=>?_;have e:=Nw x;refine go 13 ?_;refine Zc J (λa=>?_) (λa=>?_)
 .refine go 7 ?_;have c:x=0:=(Pv Xm x).1 O1;exact Xn b () results232 (by rw [c];rfl) aA Za
 .have d:0<x:=by rcases aS x with rfl|h;(simp [Ga]at a);exact h
  obtain⟨k,l,m,n⟩:=Zyr d;refine go 11 ⟨O1,O1,?_⟩;refine dt (Zq 1 ((dg U x).length-1) J J J J Zl Ps Kg)<|go 1 ⟨O4,?_⟩;refine cl 1 [] (Zro (Xl Xr (Nd Xm _) _)) λ_ _=>?_;refine go 5 ⟨O1,?_⟩;exact Xn b () results232 (by congr 1;omega) aA Za
theorem Yd2(g:xs.length*8<=140737488355328):Yeb prog 309 #[v] [Yw 1 Mj v xs] (G:=Value) (λr=>True) (λr=>r) (λr=>Pz 1 232 Mj r xs):=by
 refine Zjq func309 J ntmps309 J K1 ?_;intro j h d e;have d:=Hw.mk d;simp only [Qq,Yt];refine Of (Yje (i:=1) J Zl) λc=>go 9 ?_;refine dt (Zq0 J J J (i:=1) J Zl Ps)<|go 2 ?_;refine Nh J (λb=>?_) (λb=>?_)
 .refine go 7 ?_;obtain rfl:xs=[]:=c (by simpa using b);exact Zv (Pt 9 1 232 Mj)<|Zd6 (.inl J) (.slice none 0 0) (λa w hs=>Za6 hs results309 J) J aA J 9 J J J
 .refine go 4 ?_;refine tt (Ye0 2 (enc:=Mj) J J J Ps pU J d.h) λv _=>go 1 ?_;refine tt (My 2 1 8 J J J J J J O3 J Zl Ps ti232 J pU J J J O9 O3 J d.h) λf _=>go 4 ?_;exact Zd6 (.inl J) _ (λa w hs=>Za6 hs results309 J) J aA J 2 J (by rfl) J
theorem Zvb{h l:Nat}(hl:l<U)(hy:y<U)(hh:h<y):Xy prog 294 #[.int .u64 (h:Int),.int .u64 (l:Int),.int .u64 (y:Int)] [] (.tuple #[.int .u64 (((h*U+l)/y:Nat):Int),.int .u64 (((h*U+l)%y:Nat):Int)]):=by
 refine Zg func294 ntmps294 λw0 sc hw a8=>?_;have c0:U=18446744073709551616:=rfl;have hp:0<y:=O1;have c1:bl y<=64:=(Qi 64 y).2 hy;obtain⟨s,hs⟩:∃s,s=64-bl y:=⟨_,rfl⟩;obtain⟨Y,g⟩:∃Y,Y=y*2^s:=⟨_,rfl⟩;obtain⟨b6,S⟩:=Yhp hp hy hs;rw [<-g]at b6 S;have V:=S;obtain⟨D,hD⟩:∃D,D=(h*U+l)*2^s:=⟨_,rfl⟩;obtain⟨u,Z⟩:∃u,u=D/U:=⟨_,rfl⟩;obtain⟨v,a0⟩:∃v,v=D%U:=⟨_,rfl⟩;obtain⟨v1,Q⟩:∃x,x=v/4294967296:=⟨_,rfl⟩;obtain⟨v0,P⟩:∃x,x=v%4294967296:=⟨_,rfl⟩;obtain⟨d,b1⟩:∃x,x=Y/4294967296:=⟨_,rfl⟩;obtain⟨N,a9⟩:∃x,x=Y%4294967296:=⟨_,rfl⟩;have e:Y=d*4294967296+N:=O1;have b7:=shl_lt hh (show y*2^s<U by rw [<-g];exact S);have c3:u<Y:=by rw [Z,hD,g];exact top_lt hl hh
 have hu:u<d*4294967296+N:=O1;have c4:v<U:=by rw [a0];exact bP _ Xr
 have b0:2147483648<=d:=O1;have i:d<4294967296:=O1;have f:N<4294967296:=O1;have M:v1<4294967296:=O1;have I:v0<4294967296:=O1;obtain⟨Q1,m⟩:∃x,x=(u*4294967296+v1)/Y:=⟨_,rfl⟩;obtain⟨t,H⟩:∃x,x=(u*4294967296+v1)%Y:=⟨_,rfl⟩;have c2:t<Y:=by rw [H];exact bP _ O1
 have ht:t<d*4294967296+N:=O1;obtain⟨Q0,k⟩:∃x,x=(t*4294967296+v0)/Y:=⟨_,rfl⟩;have R:0<Y:=O1;obtain⟨a6,a7⟩:=dv_two (D:=D) R Z a0 Q P;rw [<-m,<-H,<-k]at a6;rw [<-H]at a7;have b8:Q0<4294967296:=by rw [k,e];exact dv_Q I ht
 have b9:Q1<4294967296:=by rw [m,e];exact dv_Q M hu
 refine go 13 ?_;refine Zc J (λa1=>?_) (λa1=>?_)
 .exfalso;omega
 .refine go 10 ?_;refine Zc J (λa2=>?_) (λa2=>?_)
  .exfalso;omega
  .refine go 9 ?_;refine Zc J (λa3=>?_) (λa3=>?_)
   .refine go 1 ?_;refine Xu (λ_=>False) [(0,0),(1,0),(2,0),(3,0),(4,0),(5,0),(6,0),(7,3)]<|go 2 ?_;refine Xg J J (Xd (Yeq J J J))<|go 2 ?_;refine Xg J J (Xd (u_rem J J J O1))<|go 6 ?_;exact Ma a8 () results294 (by have h0:h=0:=O1;rw [h0];simp) aA Za
   .refine go 5 ?_;refine cl 0 [] (Zro hy) λ_ _=>?_;refine dt (Zq3 J J uT3 Zye (by simp only [U];omega))<|go 4 ?_;refine Zh (Lt 8 (v':= .int .u64 (s:Int)) J (by rw [hs]))<|go 3 ?_;refine dt (Zm4 J J J J)<|go 4 ?_;refine Zh (Lt 2 (v':= .int .u64 (Y:Int)) J (by rw [g,aU (by rw [<-g];exact V)]))<|go 2 ?_;refine dt (Gq 4294967296 (n:=32) J J J J J)<|go 6 ?_;refine dt (Zr6 J J J)<|go 7 ?_;refine dt (Zm4 J J J J)<|go 2 ?_;refine dt (Zdu J J J (by first|exact bP _ Xr|omega))<|dt (Zm3 J J (n:=64-s) J (by simp only [U];omega))<|dt (Yly J J J (bP _ Xr) (bD (fM _ _) hl))<|go 4 ?_;refine Zh (Lt 11 (v':= .int .u64 (u:Int)) J (by rw [Z,hD,Yhk O1 b7 hl]))<|go 3 ?_;refine dt (Zm4 J J J J)<|go 4 ?_;refine Zh (Lt 12 (v':= .int .u64 (v:Int)) J (by rw [a0,hD,Ydc h l s]))<|go 2 ?_;refine dt (Gq 4294967296 (n:=32) J J J J J)<|go 4 ?_;refine Zh (Lt 13 (v':= .int .u64 (v1:Int)) J (by rw [Q]))<|go 2 ?_;refine dt (Zr6 J J J)<|go 4 ?_;refine Zh (Lt 14 (v':= .int .u64 (v0:Int)) J (by rw [Zve,P]))<|Zh (Lt 9 (v':= .int .u64 (d:Int)) J (by rw [b1]))<|Zh (Lt 10 (v':= .int .u64 (N:Int)) J (by rw [Zve,a9]))<|go 3 ?_;refine dt (Yeq J J J)<|go 8 ?_;refine dt (Cb J J J)<|dt (Zdu J J J (by first|exact bP _ Xr|omega))<|go 3 ?_;refine jn (G:=Unit) [2,8,9,10,11,13,14] [0] (λ_=>[(15,.int .u64 ((Q1:Nat):Int))]) (λ_=>[]) (λ_=>True) ?_ ?_
    .refine go 1 ?_;refine Zh (Lt 16 (v':= .int .u64 ((u%d:Nat):Int)) J (by rw [rsub O1 O1]))<|lp (G:=Nat×Nat) [2,8,9,10,11,13,14] [0] (λq=>[(15,.int .u64 (q.1:Int)),(16,.int .u64 (q.2:Int))]) (λq=>[]) (λq=>(dvI u v1 d N q.1 q.2)/\(q.2<4294967296)) (λq=>q.1) (u/d,u%d) ⟨dv0 b0 i f M hu,jQ (bP _ O1) i⟩ K2 aA ?_;rintro⟨a,r⟩ ⟨j,hr⟩;dsimp only at j hr;dsimp only;have b4:=j.1;have b5:=j.2.1;refine go 6 ?_;refine Xf 69 J (λb2=>?_) (λb2=>?_)
     .refine go 16 ?_;have b:=Zjl O1 j M hu O1;have c:=b.1;refine go 2 ?_;refine dt (Zdu (n:=1) J J J)<|go 4 ?_;refine Zh (Lt 15 (v':= .int .u64 ((a-1:Nat):Int)) J (Za3 (Zup c O1)))<|go 3 ?_;refine dt (Ba J J J)<|go 4 ?_;refine Zh (Lt 16 (v':= .int .u64 ((r+d:Nat):Int)) J (Za3 (aU O1)))<|go 5 ?_;refine Zc J (λa4=>?_) (λa4=>?_)
      .refine go 4 ?_;have z:Q1=a-1:=by rw [m,e];exact(Zge O1 f b.2 O1 O1).symm
       exact Nb () aA ⟨by rw [z];rfl,aA⟩ aA
      .refine go 2 ?_;exact Yu (a-1,r+d) ⟨b.2,O10⟩ O2 K2 aA
     .have W:=Ztp (show a<4294967296 by omega) f;have e1:=aU (show a*N<U from W);have e2:=aU (show 4294967296*r<U by omega);have e3:=aU (show 4294967296*r+v1<U by omega);refine go 2 ?_;refine Kl (Cb J J J) J J<|go 1 ?_;refine Kl (Cb J J J) J J<|go 1 ?_;refine Kl (Ba J J J) J J<|go 4 ?_;refine Zc J (λo=>?_) (λo=>?_)
      .rw [e1,e2,e3]at o;refine go 4 ?_;have b:=Zjl O1 j M hu O1;have c:=b.1;refine go 2 ?_;refine dt (Zdu (n:=1) J J J)<|go 4 ?_;refine Zh (Lt 15 (v':= .int .u64 ((a-1:Nat):Int)) J (Za3 (Zup c O1)))<|go 3 ?_;refine dt (Ba J J J)<|go 4 ?_;refine Zh (Lt 16 (v':= .int .u64 ((r+d:Nat):Int)) J (Za3 (aU O1)))<|go 5 ?_;refine Zc J (λB=>?_) (λB=>?_)
       .refine go 4 ?_;have z:Q1=a-1:=by rw [m,e];exact(Zge O1 f b.2 O1 O1).symm
        exact Nb () aA ⟨by rw [z];rfl,aA⟩ aA
       .refine go 2 ?_;exact Yu (a-1,r+d) ⟨b.2,O10⟩ O2 K2 aA
      .rw [e1,e2,e3]at o;refine go 4 ?_;have z:Q1=a:=by rw [m,e];exact(Zqx O1 j O1).symm
       exact Nb () aA ⟨by rw [z];rfl,aA⟩ aA
    .rintro _ -;refine go 3 ?_;refine dt (Cb J J J)<|go 1 ?_;refine dt (Ba J J J)<|go 2 ?_;refine dt (Cb J J J)<|dt (Zdu J J J (by first|exact bP _ Xr|omega))<|go 4 ?_;refine Zh (Lt 17 (v':= .int .u64 (t:Int)) J (by rw [H,m,Yav R V]))<|go 3 ?_;refine dt (Yeq J J J)<|go 8 ?_;refine dt (Cb J J J)<|dt (Zdu J J J (by first|exact bP _ Xr|omega))<|go 3 ?_;refine jn (G:=Unit) [2,8,14,15,17] [0] (λ_=>[(18,.int .u64 ((Q0:Nat):Int))]) (λ_=>[]) (λ_=>True) ?_ ?_
     .refine go 1 ?_;refine Zh (Lt 16 (v':= .int .u64 ((t%d:Nat):Int)) J (by rw [rsub O1 O1]))<|lp (G:=Nat×Nat) [2,8,9,10,14,15,17] [0] (λq=>[(18,.int .u64 (q.1:Int)),(16,.int .u64 (q.2:Int))]) (λq=>[]) (λq=>(dvI t v0 d N q.1 q.2)/\(q.2<4294967296)) (λq=>q.1) (t/d,t%d) ⟨dv0 b0 i f I ht,jQ (bP _ O1) i⟩ K2 aA ?_;rintro⟨a,r⟩ ⟨j,hr⟩;dsimp only at j hr;dsimp only;have b4:=j.1;have b5:=j.2.1;refine go 6 ?_;refine Xf 104 J (λb3=>?_) (λb3=>?_)
      .refine go 16 ?_;have b:=Zjl O1 j I ht O1;have c:=b.1;refine go 2 ?_;refine dt (Zdu (n:=1) J J J)<|go 4 ?_;refine Zh (Lt 18 (v':= .int .u64 ((a-1:Nat):Int)) J (Za3 (Zup c O1)))<|go 3 ?_;refine dt (Ba J J J)<|go 4 ?_;refine Zh (Lt 16 (v':= .int .u64 ((r+d:Nat):Int)) J (Za3 (aU O1)))<|go 5 ?_;refine Zc J (λa5=>?_) (λa5=>?_)
       .refine go 4 ?_;have z:Q0=a-1:=by rw [k,e];exact(Zge O1 f b.2 O1 O1).symm
        exact Nb () aA ⟨by rw [z];rfl,aA⟩ aA
       .refine go 2 ?_;exact Yu (a-1,r+d) ⟨b.2,O10⟩ O2 K2 aA
      .have W:=Ztp (show a<4294967296 by omega) f;have e1:=aU (show a*N<U from W);have e2:=aU (show 4294967296*r<U by omega);have e3:=aU (show 4294967296*r+v0<U by omega);refine go 2 ?_;refine Kl (Cb J J J) J J<|go 1 ?_;refine Kl (Cb J J J) J J<|go 1 ?_;refine Kl (Ba J J J) J J<|go 4 ?_;refine Zc J (λp=>?_) (λp=>?_)
       .rw [e1,e2,e3]at p;refine go 4 ?_;have b:=Zjl O1 j I ht O1;have c:=b.1;refine go 2 ?_;refine dt (Zdu (n:=1) J J J)<|go 4 ?_;refine Zh (Lt 18 (v':= .int .u64 ((a-1:Nat):Int)) J (Za3 (Zup c O1)))<|go 3 ?_;refine dt (Ba J J J)<|go 4 ?_;refine Zh (Lt 16 (v':= .int .u64 ((r+d:Nat):Int)) J (Za3 (aU O1)))<|go 5 ?_;refine Zc J (λF=>?_) (λF=>?_)
        .refine go 4 ?_;have z:Q0=a-1:=by rw [k,e];exact(Zge O1 f b.2 O1 O1).symm
         exact Nb () aA ⟨by rw [z];rfl,aA⟩ aA
        .refine go 2 ?_;exact Yu (a-1,r+d) ⟨b.2,O10⟩ O2 K2 aA
       .rw [e1,e2,e3]at p;refine go 4 ?_;have z:Q0=a:=by rw [k,e];exact(Zqx O1 j O1).symm
        exact Nb () aA ⟨by rw [z];rfl,aA⟩ aA
     .rintro _ -;refine go 3 ?_;refine dt (Cb J J J)<|go 1 ?_;refine dt (Ba J J J)<|go 1 ?_;refine dt (Cb J J J)<|go 1 ?_;refine dt (Ba J J J)<|go 2 ?_;refine dt (Cb J J J)<|dt (Zdu J J J (by first|exact bP _ Xr|omega))<|go 1 ?_;refine dt (Zm3 J J J J)<|go 5 ?_;have hA:(Q1*4294967296%U+Q0)%U=(h*U+l)/y:=by rw [<-Zne _ y s,<-hD,<-g,a6];simp only [U];omega
      have hB:((t*4294967296%U+v0)%U+(U-(Q0*Y)%U))%U/2^s=(h*U+l)%y:=by rw [<-Znd _ y s,<-hD,<-g,a7,k,Yav R V]
      exact Ma a8 () results294 (by rw [hA,hB]) aA Za
theorem Yc9{d:Nat}(u:bl x<=8589934592)(f:0<d)(g:d<U):Cal prog 292 #[v,.int .u64 (d:Int)] [Ek v x] false (G:=Value) (λr=>True) (λr=> .tuple #[r,.int .u64 ((x%d:Nat):Int)]) (λr=>[Ek r (x/d)]):=by
 refine Zg func292 ntmps292 λB z j i=>?_;have p:=Nw x;refine go 10 ?_;refine tt (Fc 2 ((dg U x).length) 8 (enc:=Mj) 0 J J J J Ps ti232 J pU.cells pU.pos J J J j.h) (λv _=>?_);refine go 18 ⟨O1,?_⟩;refine lp (G:=Nat×List Nat×Nat) [0,1,6] [0,1] (λq=>[(8,.int .i64 ((q.1:Int)-1)),(7,.int .u64 (q.2.2:Int))]) (λq=>[(2,Pz 1 232 Mj v q.2.1)]) (λq=>(q.1<=(dg U x).length)/\(q.2.1.length=(dg U x).length)/\(q.2.2<d)/\(∀d∈q.2.1,d<U)/\(Yj U (q.2.1.drop q.1)*d+q.2.2=Yj U ((dg U x).drop q.1))) (λq=>q.1) ((dg U x).length,List.replicate (dg U x).length 0,0) ⟨aI _,O8,O2,Ou Xr,by simp [Yj]⟩ K2 K1 ?_;rintro⟨k,o,r⟩ ⟨l,h,c,a,e⟩;dsimp only at l h c a e;dsimp only;refine go 7 ?_;refine Zc J (λb=>?_) (λb=>?_)
 .refine go 10 ?_;refine dt (Zq 1 (k-1) J J J J Zl Ps Kg)<|go 2 ⟨O4,?_⟩;refine cl 2 [] (Zvb (Xl Xr (Nd Xm _) _) g c) λ_ _=>go 3 ?_;refine dt (Zq 2 (k-1) J J J J (Zy pU) Ps Kg)<|tt (Lp 2 (enc:=Mj) J J J J J J pU J j.h O3 O4) (λ_ _=>?_);refine go 9 ⟨O1,?_⟩;exact Yu (k-1,_,_) ⟨O2,O9,bP _ f,Ll a _ (Zuh (Xl Xr (Nd Xm x) _) c),Zvw f O1 O1 (by rw [show k-1+1=k by omega];exact e)⟩ O2 ⟨by rw [show(((k-1:Nat):Int)-1)=(k:Int)-1-1 by omega];rfl,rfl,aA⟩ K1
 .refine go 8 ?_;refine cl 2 [2] Py λ_ _=>?_;refine Xh (Zbz 2 J J pU)<|go 6 ?_;obtain rfl:k=0:=O1;rw [iK,iK,Mb Xm]at e;have n:tz o=dg U (x/d):=by rw [<-Ky Xm _ a,<-e,aQ,iC f,dA c,eH]
  have m:r=x%d:=by rw [<-e,aQ,iQ,aU c]
  exact Ma i _ results292 (by rw [m]) aA (gow 2 Za n)
theorem Zpw{s:Nat}(Y:bl x<=4294967296:=by omega)(hs:s<=4294967296:=by omega):Cal prog 293 #[v,.int .i64 (s:Int)] [Ek v x] false (G:=Value) (λr=>True) (λr=>r) (λr=>[Ek r (x*2^s)]):=by
 refine Zg func293 ntmps293 λw0 Z M D=>?_;obtain⟨w,V⟩:∃w,w=s/64:=⟨_,rfl⟩;obtain⟨b,R⟩:∃b,b=s%64:=⟨_,rfl⟩;have W:=Nw x;refine go 13 ?_;refine Zc J (λm=>?_) (λm=>?_)
 .refine go 7 ?_;refine Zv (Pt 9 1 232 Mj) ?_;have N:x=0:=(Pv Xm x).1 O1;exact Xn D (.slice none 0 0) results293 J aA (gow 9 Za (by rw [N,iE];rfl))
 .refine go 5 ?_;refine dt (Zd2 J J J)<|go 1 ?_;refine dt (Zly J J J)<|go 5 ?_;refine Zh (Lt 5 (v':= .int .i64 (w:Int)) J (by congr 1;omega))<|Zh (Lt 6 (v':= .int .i64 (b:Int)) J (by congr 1;omega))<|go 6 ⟨O1,O1,?_⟩;refine tt (Fc 2 ((dg U x).length+w+1) 8 (enc:=Mj) 0 J J J J Ps ti232 J pU.cells pU.pos J J J M.h) λv _=>go 12 ?_;refine lp (G:=Nat×List Nat) [5,6,7,23,24] [0,1] (λq=>[(25,.int .i64 (q.1:Int))]) (λq=>[(2,Pz 1 232 Mj v q.2)]) (λq=>(q.1<=(dg U x).length)/\(q.2.length=(dg U x).length+w+1)/\(q.2.getD (w+q.1) 0<2^b)/\(∀j,w+q.1<j->q.2.getD j 0=0)/\(∀d∈q.2,d<U)/\(Yj U (q.2.take ((dg U x).length+w+1))=Yj U ((dg U x).take q.1)*2^b*U^w)) (λq=>(dg U x).length-q.1) (0,List.replicate ((dg U x).length+w+1) 0) ⟨O2,O8,by rw [Kx];exact dY b,λj _=>Kx _ j,Ou Xr,by rw [oJ,Ge];simp [Yj]⟩ K1 K1 ?_;rintro⟨i,o⟩ ⟨hi,B,Q,l,a,H⟩;dsimp only at hi B Q l a H;dsimp only;have F:i<(dg U x).length->_:=λS=>Yfr (xs:=dg U x) (show b<=63 by omega) B.symm (show w+i+1<_ by omega) Q (l (w+i+1) O1) (Xl Xr (Nd Xm x) i) H;refine go 6 ?_;refine Zc J (λp=>?_) (λp=>?_)
  .refine go 14 ⟨O4,O4,?_⟩;have f:=Xl Xr (Nd Xm x) i;refine Xu (λ_=>False) [(0,0),(1,0),(2,0),(3,0),(4,0),(5,0),(6,0),(7,0),(8,0),(9,0),(10,0),(11,3)]<|go 4 ⟨O1,?_⟩;refine Xg J J (Xd (Zq 2 (w+i) J J J J (Zy pU) Ps Kg))<|go 3 ⟨O4,?_⟩;refine Xg J J (Xd (Zm4 J J (n:=b) J J))<|Xg J J (Xd (Yly J J J (Xl Xr a _) (bP _ Xr)))<|Xg J J (Xd (Zq 2 (w+i) J J J J (Zy pU) Ps Kg))<|r3' J (Lp 2 (enc:=Mj) J J J J J J pU J M.h O3 O4) λ_ _=>go 8 ?_;refine Zc J (λu=>?_) (λu=>?_)
   .have c:=Ll (Ll a (w+i) (d:=o.getD (w+i) 0 ||| (dg U x).getD i 0*2^b%U) (kS (n:=64) (Xl Xr a _) (bP _ Xr))) (w+i+1) (d:=(dg U x).getD i 0/2^(64-b)) (bD (fM _ _) f);have g:((o.set (w+i) (o.getD (w+i) 0 ||| (dg U x).getD i 0*2^b%U)).set (w+i+1) ((dg U x).getD i 0/2^(64-b))).getD (w+i+1) 0<2^b:=by rw [Ok O9,aK rfl];exact Zeu O1 f
    have k:∀j,w+i+1<j->((o.set (w+i) (o.getD (w+i) 0 ||| (dg U x).getD i 0*2^b%U)).set (w+i+1) ((dg U x).getD i 0/2^(64-b))).getD j 0=0:=λj z=>by rw [Ok O9,aH O1,Ok O1,aH O1];exact l j O1
    have e:=F O1;refine go 9 ⟨O1,O1,O1,?_⟩;refine dt (Zm3 J J (n:=64-b) J O1)<|dt (Zq 2 (w+i+1) J J J J (Zy pU) Ps Kg O1 (by simp only [aT];omega))<|tt (Lp 2 (enc:=Mj) J J J J J J pU J M.h O3 (by simp only [aT];omega)) (λ_ _=>?_);refine go 7 ⟨O1,?_⟩;exact Yu (i+1,_) ⟨O2,O9,by dsimp only;rw [show w+(i+1)=w+i+1 by omega];exact g,λj z=>by have I:w+(i+1)<j:=z;dsimp only;exact k j O1,c,e⟩ O2 K1 K1
   .obtain rfl:b=0:=O1;have c:=Ll a (w+i) (d:=o.getD (w+i) 0 ||| (dg U x).getD i 0*2^0%U) (kS (n:=64) (Xl Xr a _) (bP _ Xr));have g:(o.set (w+i) (o.getD (w+i) 0 ||| (dg U x).getD i 0*2^0%U)).getD (w+i+1) 0<2^0:=by rw [Ok O1,aH O1,l _ O1];exact dY 0
    have k:∀j,w+i+1<j->(o.set (w+i) (o.getD (w+i) 0 ||| (dg U x).getD i 0*2^0%U)).getD j 0=0:=λj z=>by rw [Ok O1,aH O1];exact l j O1
    have e:=F O1;rw [show(dg U x).getD i 0/2^(64-0)=0 from dA f]at e;have h:=Zmt (o.set (w+i) (o.getD (w+i) 0 ||| (dg U x).getD i 0*2^0%U)) (w+i+1) (by rw [Ok O1,aH O1,l _ O1]);rw [h]at e;refine go 7 ⟨O1,?_⟩;exact Yu (i+1,_) ⟨O2,O9,by dsimp only;rw [show w+(i+1)=w+i+1 by omega];exact g,λj z=>by have I:w+(i+1)<j:=z;dsimp only;exact k j O1,c,e⟩ O2 K1 K1
  .refine go 8 ?_;refine cl 2 [2] Py λ_ _=>?_;refine Xh (Zbz 2 J J pU)<|go 4 ?_;obtain rfl:i=(dg U x).length:=O1;have P:tz o=dg U (x*2^s):=by rw [<-Ky Xm _ a];congr 1;rw [Nu U o O1,cE (aI _),Mb Xm,Zcz,cZ,<-bX,show b+64*w=s by omega]at H;exact H
   exact Xn D _ results293 J aA (gow 2 Za P)
theorem Ynu{s:Nat}(S:bl x<=8589934592)(hs:s<=8589934592):Cal prog 295 #[v,.int .i64 (s:Int)] [Ek v x] false (G:=Value) (λr=>True) (λr=>r) (λr=>[Ek r (x/2^s)]):=by
 refine Zg func295 ntmps295 λW V H F=>?_;obtain⟨w,m⟩:∃w,w=s/64:=⟨_,rfl⟩;obtain⟨b,k⟩:∃b,b=s%64:=⟨_,rfl⟩;have R:=Nw x;have P:((dg U x).drop w).length=(dg U x).length-w:=eC;refine go 8 ?_;refine dt (Zd2 J J J)<|go 1 ?_;refine dt (Zly J J J)<|go 6 ?_;refine Zh (Lt 5 (v':= .int .i64 (w:Int)) J (by congr 1;omega))<|Zh (Lt 6 (v':= .int .i64 (b:Int)) J (by congr 1;omega))<|go 7 ?_;refine Zc J (λz=>?_) (λz=>?_)
 .refine go 7 ?_;refine Zv (Pt 9 1 232 Mj) ?_;have I:x/2^s=0:=by rw [Zae m k,dA ((Xo Xm w x).1 O1),Nat.zero_div]
  exact Xn F (.slice none 0 0) results295 J aA (gow 9 Za (by rw [I];rfl))
 .refine go 6 ?_;refine dt (d_suf (ii:=1) (i:=w) J J J J Zl Ps Kg O1 O1)<|Xh (s_suf 1 2 w J J O1)<|tt (Bx 3 (Yd2 (by simp only [eC];omega)) J J J K1 call309 (Zk 2 J J J Zr) J H.h) λv _=>go 3 ?_;refine jn (G:=List Nat) [7] [0,1,2] (λo=>[]) (λo=>[(3,Pz 1 232 Mj v o)]) (λo=>(o.length=(dg U x).length-w)/\(∀j,j<o.length->o.getD j 0=x/2^s/U^j%U)) ?_ ?_
  .refine go 6 ?_;refine Zc J (λB=>?_) (λB=>?_)
   .refine go 8 ?_;refine lp (G:=Nat×List Nat) [0,5,6,7,24] [0,1,2] (λq=>[(25,.int .i64 (q.1:Int))]) (λq=>[(3,Pz 1 232 Mj v q.2)]) (λq=>(q.1<=(dg U x).length-w)/\(q.2.length=(dg U x).length-w)/\(∀j,j<q.1->q.2.getD j 0=x/2^s/U^j%U)/\(∀j,q.1<=j->q.2.getD j 0=x/U^w/U^j%U)/\(∀d∈q.2,d<U)) (λq=>(dg U x).length-w-q.1) (0,(dg U x).drop w) ⟨bJ _,O8,λj f=>absurd f (bZ j),λj _=>Yaz x w j,λd N=>Nd Xm x d (lE N)⟩ K1 K1 ?_;rintro⟨i,o⟩ ⟨hi,u,p,l,a⟩;dsimp only at hi u p l a;dsimp only;refine go 6 ?_;refine Zc J (λD=>?_) (λD=>?_)
    .refine go 17 ⟨O4,O4,?_⟩;refine dt (Zm3 J J (n:=b) J J)<|go 1 ⟨O4,?_⟩;refine tt (Lp 3 (enc:=Mj) J J J J J J pU J H.h O3 O4) (λ_ _=>?_);refine go 11 ⟨O1,?_⟩;refine Zc J (λg=>?_) (λg=>?_)
     .simp only [aT]at g;have c:∀j,((o.set i (o.getD i 0/2^b)).set i ((o.set i (o.getD i 0/2^b)).getD i 0 ||| ((dg U x).getD (w+i+1) 0*2^(64-b))%U)).getD j 0=if i=j then x/2^s/U^i%U else o.getD j 0:=λj=>by
       rw [Ok O9,Ok O1,Ok O1];split
       .rw [aK rfl,l i (aI _),Gb Xm,Zae m k,Zui,show x/U^(w+i+1)=x/U^w/U^i/U by rw [aY,aY,<-cC,<-bX];rfl,Zsl _ _ O1]
       .rfl
      have h:=Ll (Ll a i (d:=o.getD i 0/2^b) (bD (fM _ _) (Xl Xr a _))) i (d:=(o.set i (o.getD i 0/2^b)).getD i 0 ||| ((dg U x).getD (w+i+1) 0*2^(64-b))%U) (kS (n:=64) (Xl Xr (Ll a _ (bD (fM _ _) (Xl Xr a _))) _) (bP _ Xr));refine Xu (λ_=>False) [(0,0),(1,0),(2,0),(3,0),(4,0),(5,0),(6,0),(7,0),(8,0),(9,0),(10,0),(11,0),(12,0),(13,0),(14,0),(15,0),(16,3)]<|go 9 ⟨O4,O4,O1,O1,?_⟩;refine Xg J J (Xd (Zq 1 (w+i+1) J J J J Zl Ps Kg O1 O4))<|go 3 ⟨O4,O1,?_⟩;refine Xg J J (Xd (Zm4 J J (n:=64-b) J O1))<|Xg J J (Xd (Yly J J J (Xl Xr (Ll a _ (bD (fM _ _) (Xl Xr a _))) _) (bP _ Xr)))<|go 1 ⟨O4,?_⟩;refine r3' J (Lp 3 (enc:=Mj) J J J J J J pU J H.h O3 O4) (λ_ _=>?_);refine go 7 ⟨O1,?_⟩;exact Yu (i+1,_) ⟨O2,O9,λj f=>by dsimp only;rw [c j];split;(· rename_i e;rw [<-e]);exact p j (by have:j<i+1:=f;omega),λj f=>by dsimp only;rw [c j,aH (by have:i+1<=j:=f;omega)];exact l j (by have:i+1<=j:=f;omega),h⟩ O2 K1 K1
     .have c:∀j,(o.set i (o.getD i 0/2^b)).getD j 0=if i=j then x/2^s/U^i%U else o.getD j 0:=λj=>by
       rw [Ok O1];split
       .rw [l i (aI _),Zae m k,Zui,Ycp O1];rw [aY,<-cC];exact dA (Yaa (by simp only [aT]at g;omega))
       .rfl
      have h:=Ll a i (d:=o.getD i 0/2^b) (bD (fM _ _) (Xl Xr a _));refine go 7 ⟨O1,?_⟩;exact Yu (i+1,_) ⟨O2,O9,λj f=>by dsimp only;rw [c j];split;(· rename_i e;rw [<-e]);exact p j (by have:j<i+1:=f;omega),λj f=>by dsimp only;rw [c j,aH (by have:i+1<=j:=f;omega)];exact l j (by have:i+1<=j:=f;omega),h⟩ O2 K1 K1
    .refine go 4 ?_;exact Nb _ ⟨O1,by intro j f;rw [p j O1]⟩ aA K1
   .refine go 1 ?_;exact Nb _ ⟨O8,by intro j f;rw [Yaz,Zae m k,show b=0 by omega,gR,Nat.div_one]⟩ aA K1
  .rintro o ⟨u,Q⟩;refine go 3 ?_;refine cl 3 [3] Py λ_ _=>?_;refine Xh (Zbz 3 J J pU)<|go 4 ?_;have M:tz o=dg U (x/2^s):=Zvr Xm Q (by rw [u,Zae m k];exact bD (fM _ _) (Yaa O1));exact Xn F _ results295 J aA (gow 3 Za M)
theorem Znz(z:bl x<=4294967296:=by omega):Xy prog 233 #[v] [Ek v x] (.string (Qe x)):=by
 refine Zg func233 ntmps233 λD B h g=>?_;have u:=Nw x;have p:=Zli x;have r:=lenU x;have m:(List.replicate (dg 256 x).length (0:Nat)).length=(dg 256 x).length:=aX;refine go 8 ?_;refine cl 1 [1] Zk4 λ_ _=>?_;refine go 1 ⟨O1,?_⟩;refine dt (Zd2 J J J)<|tt (Fc 2 ((dg 256 x).length) 1 (enc:=Ziv) 0 J J J J Zhz ti5 J pB.cells pB.pos J J J h.h) λv _=>go 12 ?_;refine lp (G:=Nat×List Nat) [0,3,12] [0,1] (λq=>[(13,.int .i64 (q.1:Int))]) (λq=>[(2,Pz 1 5 Ziv v q.2)]) (λq=>(q.1<=(dg 256 x).length)/\(q.2.length=(dg 256 x).length)/\(∀j,j<q.1->q.2.getD j 0=x/256^((dg 256 x).length-1-j)%256)) (λq=>(dg 256 x).length-q.1) (0,List.replicate (dg 256 x).length 0) ⟨O2,O8,λj d=>absurd d (bZ j)⟩ K1 K1 ?_;rintro⟨i,o⟩ ⟨hi,f,b⟩;dsimp only at hi f b;dsimp only;refine go 6 ?_;refine Zc J (λc=>?_) (λc=>?_)
 .refine go 20 ⟨O1,O1,?_⟩;refine Zh (Lt 5 (v':= .int .i64 (((dg 256 x).length-1-i:Nat):Int)) J (by congr 1;omega)) ?_;have a:=Zrh x ((dg 256 x).length-1-i);rw [<-Gb Xm]at a;refine go 5 ?_;refine dt (Zd2 J J J)<|dt (Zq 1 (((dg 256 x).length-1-i)/8) J J J J Zl Ps Kg)<|go 2 ⟨O1,?_⟩;refine dt (Zly J J J)<|go 1 ⟨O1,?_⟩;refine dt (Zm3 J J (n:=((dg 256 x).length-1-i)%8*8) J O1)<|dt (Zd4 J J Zab uT5)<|go 1 ⟨O4,?_⟩;refine tt (Lp 2 (enc:=Ziv) J J J J J J pB J h.h O3 O4) (λ_ _=>?_);refine go 7 ⟨O1,?_⟩;exact Yu (i+1,_) ⟨O2,O9,λj d=>by dsimp only;rw [Ok O1];split;(· rename_i e;rw [<-e];exact a);exact b j O1⟩ O2 K1 K1
 .refine go 8 ?_;refine dt (d_b2s J J (i:=2) J (Zy pB) Zhz uT9 uT5)<|go 4 ?_;have k:Qe x=⟨(o.map UInt8.ofNat).toArray⟩:=by
   have l:o=(dg 256 x).reverse:=by refine Zes O9 (λj d=>?_);rw [b j O1,Zqc O1,Gb O1]
   rw [l];rfl
  exact Xn g () results233 (by rw [k]) aA Za
theorem Zc3(H:bl x<=4294967296:=by omega):Cal prog 219 #[.string (Qe x)] [] false (G:=Value) (λr=>True) (λr=>r) (λr=>[Ek r x]):=by
 refine Zg func219 ntmps219 λM I b m=>?_;have F:=Nw x;have B:=Zli x;have D:=lenU x;have p:=Db x;refine go 10 ⟨O1,?_⟩;refine dt (Zd2 J J J)<|tt (Fc 1 ((dg U x).length) 8 (enc:=Mj) 0 J J J J Ps ti232 J pU.cells pU.pos J J J b.h) λv _=>go 12 ?_;refine lp (G:=Nat×List Nat) [0,3,12] [0] (λq=>[(13,.int .i64 (q.1:Int))]) (λq=>[(1,Pz 1 232 Mj v q.2)]) (λq=>(q.1<=(dg 256 x).length)/\(q.2.length=(dg U x).length)/\(∀w,w<q.2.length->q.2.getD w 0=hi x ((dg 256 x).length-q.1) w)) (λq=>(dg 256 x).length-q.1) (0,List.replicate (dg U x).length 0) ⟨O2,O8,λw b=>by dsimp only at *;rw [aX]at b;rw [Kx,hi_top O1]⟩ K1 K1 ?_;rintro⟨i,o⟩ ⟨l,f,a⟩;dsimp only at l f a;dsimp only;refine go 6 ?_;refine Zc J (λk=>?_) (λk=>?_)
 .refine go 20 ⟨O1,O1,?_⟩;refine Zh (Lt 5 (v':= .int .i64 (((dg 256 x).length-1-i:Nat):Int)) J (by congr 1;omega)) ?_;have c:=Zu9 x i O1;have h:=a (((dg 256 x).length-1-i)/8) O1;have d:o.getD (((dg 256 x).length-1-i)/8) 0<U:=by rw [h];exact bP _ Xr
  have g:∀w,w<o.length->(o.set (((dg 256 x).length-1-i)/8) (o.getD (((dg 256 x).length-1-i)/8) 0 ||| (((Qe x).data.toList.getD i 0).toNat*2^(((dg 256 x).length-1-i)%8*8))%U)).getD w 0=hi x ((dg 256 x).length-(i+1)) w:=λw b=>by
   rw [c,h,show(dg 256 x).length-i=(dg 256 x).length-1-i+1 by omega,Yog,Ok O1,show(dg 256 x).length-(i+1)=(dg 256 x).length-1-i by omega];split
   .rename_i e;rw [e]
   .rename_i e;rw [a w b,show(dg 256 x).length-i=(dg 256 x).length-1-i+1 by omega];exact Yir e
  refine Xu (λ_=>False) [(0,0),(1,0),(2,0),(3,0),(4,0),(5,0),(6,0),(7,0),(8,0),(9,0),(10,0),(11,0),(12,0),(13,0),(14,0),(15,3)]<|go 2 ?_;refine Xg J J (Xd (Zd2 J J J))<|Xg J J (Xd (Zq 1 (((dg 256 x).length-1-i)/8) J J J J (Zy pU) Ps Kg))<|go 3 ⟨O4,?_⟩;refine Xg J J (Xd (Yj2 J J J uT9 J))<|Xg J J (Xd (Zq3 J J uT5 Zab (by have:=(((Qe x).data.toList.getD i 0).toNat_lt);simp only [U];omega)))<|go 1 ?_;refine Xg J J (Xd (Zly J J J))<|go 1 ⟨O1,?_⟩;refine Xg J J (Xd (Zm4 J J (n:=((dg 256 x).length-1-i)%8*8) J O1))<|Xg J J (Xd (Yly J J J d (bP _ Xr)))<|Xg J J (Xd (Zq 1 (((dg 256 x).length-1-i)/8) J J J J (Zy pU) Ps Kg))<|r3' J (Lp 1 (enc:=Mj) J J J J J J pU J b.h O3 O4) (λ_ _=>?_);refine go 7 ⟨O1,?_⟩;exact Yu (i+1,_) ⟨O2,O9,λw b=>g w (by simpa using b)⟩ O2 K1 K1
 .refine go 12 ?_;have z:o=dg U x:=Zes f (λj u=>by rw [a j u,Gb Xm,Yit O1]);exact Xn m _ results219 J aA (gow 1 Za z)
theorem Zzv(hx:bl x<=4000000000)(e2:bl y<=4000000000)(hy:0<y):Cal prog 267 #[v,w] [Ek v x,Ek w y] true (G:=Value×Value) (λr=>True) (λr=> .tuple #[r.1,r.2]) (λr=>[Ek r.1 (x/y),Ek r.2 (x%y)]):=by
 refine Zg func267 ntmps267 λw0 sc p S=>?_;have hX:=Nw x;have hY:=Nw y;refine go 11 ?_;refine cl 2 [1,2] (Zce O1 O1) λr hr=>go 3 ?_;refine Zc J (λW=>?_) (λW=>?_)
 .have o:x<y:=hr.1.1 O1;refine go 9 ?_;exact Zv (Pt 9 1 232 Mj)<|Ma S (.slice none 0 0,v) results267 J aA (gow 9 (Oi 1 Za (by rw [aU o])) (by rw [dA o];rfl))
 .have c6:y<=x:=by have:=hr.1;omega
  have e1:=Pr c6;refine go 10 ?_;refine Zc J (λY=>?_) (λY=>?_)
  .have V:y<U:=by have:=(Xo Xm 1 y).1 O1;simpa using this
   have m:(dg U y).getD 0 0=y:=by rw [Gb Xm];simp [aU V]
   refine go 6 ⟨O1,O4,?_⟩;refine cl 3 [1] (Yc9 O1 (by rw [m];exact hy) (by rw [m];exact V)) λv _=>go 11 ?_;refine tt (Qs [(0,_)] 4 (enc:=Mj) [x%(dg U y).getD 0 0] J J K2 Ps ti232 J J J J J pU.cells J J p.h) λe4 _=>cl 4 [4] Py λ_ _=>?_;refine Xh (Zbz 4 J J pU)<|go 6 ?_;exact Ma S (_,_) results267 J aA (Oi 3 (gow 4 Za (by rw [Zgy (jQ (bP _ (by rw [m];exact hy)) (by rw [m];exact V)),m])) (by rw [m]<;>rfl))
  .refine go 3 ?_;obtain⟨k,hk⟩:∃k,k=(dg U y).length:=⟨_,rfl⟩;have e0:k<=(dg U x).length:=O1;obtain⟨b,hb⟩:∃b,b=64-bl ((dg U y).getD (k-1) 0):=⟨_,rfl⟩;obtain⟨b4,_,b3,a4,b1,H⟩:=Ynr hy hk hb;obtain⟨D,c⟩:∃D,D=y*2^b:=⟨_,rfl⟩;have c7:(dg U D).length=k:=by rw [c];exact b4
   have a3:D<U^k:=by rw [c];exact a4
   have a2:U^(k-1)*9223372036854775808<=D:=by rw [c];exact H
   have l:0<D:=by rw [c];exact gV hy (dY b)
   have d9:bl D<=4000000064:=by rw [c,Zxx hy];omega
   refine go 5 ⟨O1,?_⟩;refine dt (Zq 2 ((dg U y).length-1) J J J J Zl Ps Kg)<|go 1 ⟨O4,?_⟩;refine cl 4 [] (Zro (Xl Xr (Nd Xm y) _)) λ_ _=>?_;refine Xh (Lt 44 (v':= .int .i64 (b:Int)) J (by rw [hb,hk]))<|go 3 ?_;refine jn (G:=Value×Value) [0,8] [0,1,2] (λq=>[(9,q.1),(10,q.2)]) (λq=>[(81,Ek q.1 D),(82,Pz 1 232 Mj q.2 (List.replicate ((dg U x).length+1) 0))]) (λq=>True) ?_ ?_
   .refine Lv (λ_=>False) [8]<|Zt 4 [(0,0),(1,0),(3,0),(4,0),(5,0)]<|go 6 ⟨O1,?_⟩;refine Na 3 2 6 ?_ ?_
    .refine Lh (Zj 81 [2] Zpw) λe5 _=>?_;refine Zt 0 [(7,0),(6,1),(8,3)]<|go 1 ?_;refine Dg J (Fc 82 ((dg U x).length+1) 8 (enc:=Mj) 0 J J J J Ps ti232 J pU.cells pU.pos J J J p.h) λe6 _=>go 2 ?_;exact Yl<|Nb (_,_) aA K2 ⟨by rw [c];rfl,rfl,aA⟩
    .refine Ce J J (Fc 82 ((dg U x).length+1) 8 (enc:=Mj) 0 J J J J Ps ti232 J pU.cells pU.pos J J J p.h) (λe7 _=>?_);refine Zt 0 [(2,1),(7,0),(8,3)]<|Xe (Zj 81 [2] Zpw) λe8 _=>go 3 ?_;exact Yl<|Nb (_,_) aA K2 ⟨by rw [c];rfl,rfl,aA⟩
   .rintro⟨vd,vr⟩ -;dsimp only;refine go 1 ?_;have c9:(dg U (x*2^b)).length<=(dg U x).length+1:=(Xo Xm _ _).2 (by rw [cC];exact kB ((Xo Xm _ x).1 (aI _)) (by rw [Yli];exact dO O1 O1) Xr);refine go 4 ?_;refine cl 5 [1] Zpw λe9 _=>?_;refine tt (t_cpy 82 5 0 J J J J J J O3 J Zl Yjq (by rw [aX];exact c9) (by rw [aX];omega) (by rw [aX];omega) Ps pU J p.h) λ_ _=>go 3 ?_;have a6:(spl (List.replicate ((dg U x).length+1) 0) 0 (dg U (x*2^b))).length=(dg U x).length+1:=by rw [Ih (by rw [aX];omega),aX]
    refine go 7 ?_;have d4:(List.replicate ((dg U x).length+1-k) (0:Nat)).length=(dg U x).length+1-k:=aX;refine Zh (Lt 11 (v':= .int .i64 (k:Int)) J (by rw [c7]))<|go 5 ⟨O1,?_⟩;refine tt (Fc 6 ((dg U x).length+1-k) 8 (enc:=Mj) 0 J J J J Ps ti232 J pU.cells pU.pos J J J p.h) (λd3 _=>?_);refine go 13 ⟨O1,?_⟩;refine lp (G:=Nat×List Nat×List Nat) [8,9,10,11,12] [0,81,1,2,5] (λq=>[(13,.int .i64 ((q.1:Int)-1))]) (λq=>[(82,Pz 1 232 Mj vr q.2.1),(6,Pz 1 232 Mj d3 q.2.2)]) (λq=>(q.1<=(dg U x).length+1-k)/\(q.2.1.length=(dg U x).length+1)/\(∀d∈q.2.1,d<U)/\(q.2.2.length=(dg U x).length+1-k)/\(∀d∈q.2.2,d<U)/\(Yj U q.2.1<D*U^q.1)/\(Yj U (q.2.2.drop q.1)*U^q.1*D+Yj U q.2.1=x*2^b)) (λq=>q.1) ((dg U x).length+1-k,spl (List.replicate ((dg U x).length+1) 0) 0 (dg U (x*2^b)),List.replicate ((dg U x).length+1-k) 0) ⟨aI _,a6,Zrs (Ou Xr) (Nd Xm _) 0,O8,Ou Xr,by rw [Zr4,Mb Xm];exact Yju ((Xo Xm _ x).1 (aI _)) b1 b3 O1 a2,by rw [Zr4,Mb Xm];simp [Yj]⟩ ⟨by rw [aX];rfl,aA⟩ K2 ?_;rintro⟨a,R,q⟩ ⟨hj,a7,e,d0,Q,M,hN⟩;dsimp only at hj a7 e d0 Q M hN;dsimp only;refine go 7 ?_;refine Zc J (λZ=>?_) (λZ=>?_)
    .refine go 5 ?_;have P:Yj U R<U^(a-1+k+1):=by refine dI M ?_;rw [show a-1+k+1=k+a by omega,bX];exact aN _ (eK a3)
     have u:tz ((R.drop (a-1)).take (a-1+k+1-(a-1)))=dg U (Yj U R/U^(a-1)):=Ylq e O1 (by rw [show a-1+(a-1+k+1-(a-1))=a-1+k+1 by omega];exact P);have a9:Yj U R/U^(a-1)<D*U:=by rw [cF (cH Xr),cZ,<-oL,show(a-1).succ=a by omega];exact M
     have b0:bl (Yj U R/U^(a-1))<=4294967296:=by have h1:=Pr (eK a9);have h2:=Zmc D U;have h3:bl U<=65:=(Qi 65 U).2 (by simp [U]);omega
     have b7:=Yl2 e (j:=a-1) b3 P O1;have b9:(dg U D).getD (k-1) 0*U^(k-1)<=D:=by rw [Gb Xm];exact aB (aN _ (Nat.mod_le _ _)) (oG _ _)
     have c2:Yj U R/U^(a-1)/D<=18446744073709551615:=by have:=(cF l).2 (show _<U*D by rw [aQ];exact a9);simp only [U]at this ⊢;omega
     refine go 4 ?_;refine jn (G:=Nat) [8,9,10,11,12,13] [0,82,6,81,1,2,5] (λg=>[(14,.int .u64 (g:Int))]) (λg=>[]) (λg=>(Yj U R/U^(a-1)/D<=g)/\(g<U)) ?_ ?_
     .refine go 1 ?_;refine Xu (λ_=>False) [(0,0),(1,0),(2,0),(3,0),(4,0),(5,0),(6,0),(7,0),(8,0),(9,0),(10,0),(11,0)]<|go 4 ⟨O1,?_⟩;refine Xg J J (Xd (Zq 82 (a-1+k) J J J J (Zy pU) Ps Kg))<|go 4 ⟨O4,O1,?_⟩;refine Xg J J (Xd (Zq 81 (k-1) J J J J Zl Ps Kg))<|go 4 ⟨O4,?_⟩;refine Zc J (λa0=>?_) (λa0=>?_)
      .refine Xu (λ_=>False) [(0,0),(1,0),(2,0),(3,0),(4,0),(5,0),(6,0),(7,0),(8,0),(9,0),(10,0),(11,0),(12,0),(13,0),(14,0),(15,0),(16,0),(17,0),(18,1),(19,0),(20,0),(21,0),(22,0)]<|go 4 ⟨O1,?_⟩;refine Xg J J (Xd (Zq 82 (a-1+k) J J J J (Zy pU) Ps Kg))<|go 6 ⟨O4,O1,O1,?_⟩;refine Xg J J (Xd (Zq 82 (a-1+k-1) J J J J (Zy pU) Ps Kg))<|go 4 ⟨O4,O1,?_⟩;refine Xg J J (Xd (Zq 81 (k-1) J J J J Zl Ps Kg))<|go 1 ⟨O4,?_⟩;refine Xe (Zj 6 [] (Zvb (Xl Xr e _) (Xl Xr (Nd Xm _) _) O1)) λ_ _=>go 5 ?_;exact Nb _ ⟨Yiu b9 O1 b7,Zuh (Xl Xr e _) O1⟩ K1 aA
      .refine go 1 ?_;exact Nb 18446744073709551615 ⟨c2,O3⟩ K1 aA
     .rintro g ⟨hg,f⟩;refine go 8 ⟨O1,O1,?_⟩;refine dt (d_mid (ii:=82) (i:=a-1) (j:=a-1+k+1) J J J J J (Zy pU) Ps Kg O1 O1 O1 O1)<|go 7 ?_;refine tt (Qs [(0,_)] 7 (enc:=Mj) [g] J J K2 Ps ti232 J J J J J pU.cells J J p.h) λf0 _=>cl 7 [7] Py λ_ _=>?_;refine Xh (Zbz 7 J J pU)<|Xh (Zh6 7 (Zgy f) J J)<|cl 83 [81,7] (Zzu O1 (aB ((Qi 64 g).2 f) O1)) λd5 _=>go 5 ?_;refine lp (G:=Nat×Value) [8,9,10,11,12,13,15] [0,82,6,81,1,2,5,7] (λq=>[(14,.int .u64 (q.1:Int)),(16,q.2)]) (λq=>[(83,Ek q.2 (D*q.1))]) (λq=>(Yj U R/U^(a-1)/D<=q.1)/\(q.1<U)) (λq=>q.1) (g,_) ⟨O2,O2⟩ ⟨J,J,aA⟩ ⟨J,aA⟩ ?_;rintro⟨g,vp⟩ ⟨hg,f⟩;dsimp only at hg f;dsimp only;have a5:bl (D*g)<=4294967296:=by have h1:=Zmc D g;have h2:=(Qi 64 g).2 f;omega
      refine go 4 ?_;refine tt (Pg 7 Py J J J K1 call183 (Zc8 82 J J pU (Zi9 (a-1) (a-1+k+1)) Zjs Zr) J p.h) λ_ _=>go 1 ?_;refine tt (Pg 7 (Zce b0 a5) J J J K2 call223 (Zc8 82 J J pU (Ygi u (by rw [u]) (Zi9 (a-1) (a-1+k+1))) (by rw [Gf];exact(Zjs)) (Zk 83 J J J Zr)) J p.h) λe3 B=>go 3 ?_;refine Zc J (λa1=>?_) (λa1=>?_)
      .have o:Yj U R/U^(a-1)<D*g:=B.1.1 O1;have b2:1<=g:=by rcases aS g with h|h;(rw [h,iT]at o;exact absurd o (bZ _));exact h
       have b8:D<=D*g:=eN _ b2;have c3:Yj U R/U^(a-1)/D<=g-1:=by have:=(cF l).2 (show _<g*D by rw [aQ];exact o);omega
       refine go 6 ?_;refine dt (Zdu (n:=1) J J J)<|go 3 ?_;refine Zh (Lt 14 (v':= .int .u64 ((g-1:Nat):Int)) J (Za3 (Zup b2 f)))<|go 3 ?_;refine cl 8 [83,81] (Zf4 a5 b8) λd6 _=>go 3 ?_;exact Zv (Qz 8 83 J J J)<|Yu (g-1,_) ⟨c3,O10⟩ O2 K2 ⟨by rw [Nat.mul_sub_one];rfl,aA⟩
      .refine go 6 ?_;have hQ:g=Yj U R/U^(a-1)/D:=by have h1:=B.1;have h2:D*g<=Yj U R/U^(a-1):=O1;exact kH ((jR l).2 (by rw [aQ];exact h2)) hg
       refine go 2 ?_;refine tt (Pg 8 Py J J J K1 call183 (Zc8 82 J J pU (Zi9 (a-1) (a-1+k+1)) Zjs Zr) J p.h) λ_ _=>go 1 ?_;refine tt (Pg 9 (Zf4 b0) J J J K2 call224 (Zc8 82 J J pU (Ygi u (by rw [u]) (Zi9 (a-1) (a-1+k+1))) (by rw [Gf];exact(Zjs)) (Zk 83 J J J Zr)) J p.h) λd7 _=>go 4 ?_;have b5:(dg U (Yj U R/U^(a-1)-D*g)).length<=a-1+k+1-(a-1):=by
        have:Yj U R/U^(a-1)-D*g<D:=by rw [hQ];have h3:=cJ (Yj U R/U^(a-1)) D;have h4:=bP (Yj U R/U^(a-1)) l;omega
        have:=(Xo Xm k _).2 (jQ this a3);omega
       refine go 2 ?_;refine tt (t_clr (zv:= .bool false) (i:=82) (z:=0) (a-1) J J J J O3 (Yaw O1) O1 O1 Ps pU (λw=>zeroValue232 w) J J p.h) λ_ _=>go 6 ?_;refine tt (t_cpy 82 9 (a-1) J J J J J J O3 J Zl (Yaw (by rw [Ih (by rw [aX];omega)];omega)) b5 (by rw [Ih (by rw [aX];omega)];omega) (by rw [Ih (by rw [aX];omega)];omega) Ps pU J p.h) λ_ _=>go 2 ?_;have c0:a-1+(List.replicate (a-1+k+1-(a-1)) 0).length<=R.length:=by rw [aX];omega
       have c8:=Ih (xs:=R) (lo:=a-1) c0;have c1:a-1+(dg U (Yj U R/U^(a-1)-D*g)).length<=(spl R (a-1) (List.replicate (a-1+k+1-(a-1)) 0)).length:=O1;have F:=Ylx e (j:=a-1) (n:=a-1+k+1-(a-1)) O1 (by rw [show a-1+(a-1+k+1-(a-1))=a-1+k+1 by omega];exact P) b5;rw [Mb Xm]at F;have b6:=Yjt (j:=a-1) (N:=x*2^b) (Vq:=Yj U (q.drop a)) l hQ (by rw [show a-1+1=a by omega];exact hN);have a8:=b6.1;have I:=b6.2;rw [<-F]at a8 I;have c5:Yj U ((q.set (a-1) g).drop (a-1))=g+U*Yj U (q.drop a):=by rw [drop_set O1,show a-1+1=a by omega];rfl
       rw [<-c5]at I;refine go 4 ?_;refine dt (Zq 6 (a-1) J J J J (Zy pU) Ps Kg)<|tt (Lp 6 (enc:=Mj) J J J J J J pU J p.h O3 O4) (λ_ _=>?_);refine go 8 ⟨O1,?_⟩;exact Yu (a-1,_,_) ⟨O2,(Ih c1).trans (c8.trans a7),Zrs (Zrs e (Ou Xr) _) (Nd Xm _) _,O9,Ll Q _ f,a8,I⟩ O2 ⟨by rw [show(((a-1:Nat):Int)-1)=(a:Int)-1-1 by omega];rfl,aA⟩ K2
    .refine go 6 ?_;obtain rfl:a=0:=O1;rw [gR,jF]at M;have c4:bl (Yj U R)<=8589934592:=by have:=Pr (eK M);omega
     refine go 2 ?_;refine cl 9 [6] Py λ_ _=>?_;refine Xh (Zbz 6 J J pU)<|go 1 ?_;refine cl 9 [82] Py λ_ _=>?_;refine Xh (Zbz 82 J J pU)<|Xh (Zh6 82 (Ky Xm R e).symm J J)<|go 1 ?_;refine cl 10 [82] (Ynu c4 O1) λd8 _=>go 5 ?_;rw [iK,gR,jF]at hN;have d1:tz q=dg U (x/y):=by rw [<-Ky Xm _ Q,<-Zne x y b,<-c,<-hN,aQ,iC l,dA M,eH]
     have d2:Yj U R/2^b=x%y:=by rw [<-Znd x y b,<-c,<-hN,aQ,iQ,aU M]
     exact Ma S (_,_) results267 J aA (gow 6 (Oi 10 Za (by rw [d2])) d1)
theorem Zpx(l:bl x<=4000000000:=by omega)(m:bl y<=4000000000:=by omega):Cal prog 217 #[v,w] [Ek v x,Ek w y] true (G:=Value) (λr=>True) (λr=>r) (λr=>[Ek r (Nat.gcd x y)]):=by
 refine Zg func217 ntmps217 λD u p j=>?_;have n:=Nw x;have o:=Nw y;refine go 7 ?_;refine Zh (Qz 1 91 J J J)<|Zh (Qz 2 92 J J J)<|lp (G:=Value×Value×Nat×Nat) [] [0,1,2] (λq=>[(0,q.1),(1,q.2.1)]) (λq=>[(91,Ek q.1 q.2.2.1),(92,Ek q.2.1 q.2.2.2)]) (λq=>(Nat.gcd q.2.2.1 q.2.2.2=Nat.gcd x y)/\(bl q.2.2.1<=4000000000)/\(bl q.2.2.2<=4000000000)) (λq=>q.2.2.2) (v,w,x,y) ⟨J,l,m⟩ K2 K2 ?_;rintro⟨z,B,a,b⟩ ⟨i,k,f⟩;dsimp only at i k f;dsimp only;refine go 8 ?_;refine Zc J (λd=>?_) (λd=>?_)
 .have c:0<b:=by rcases aS b with h|h;(subst h;simp [Ga]at d);exact h
  refine go 7 ?_;refine cl 3 [91,92] (Zzv k f c) λg _=>go 14 ?_;have e:a%b<b:=bP _ c;exact Zv (Qz 92 91 J J J)<|Zv (Qz 4 92 J J J)<|Yu (_,_,b,a%b) ⟨by dsimp only;rw [<-i,nG b,<-Nat.gcd_rec,nG],f,aB (Pr (eK e)) f⟩ e K2 K2
 .have c:b=0:=(Pv Xm b).1 O1;refine go 12 ?_;exact Xn j _ results217 J aA (Oi 91 Za (by rw [<-i,c,oR]))
theorem Zpr{x:Int}(hs:sg s x):Cal prog 235 #[.agg #[.bool s,v]] [Ek v x.natAbs] true (G:=Bool×Value) (λr=>sg r.1 (-x)) (λr=> .agg #[.bool r.1,r.2]) (λr=>[Ek r.2 (-x).natAbs]):=by refine Zg func235 ntmps235 λg f e c=>go 2 ?_;refine Yk (Ym 2) λb _=>Yk (Zw 3) λd _=>go 9 ?_;refine dt (Qa [(0,_),(1,_)] J K4 (λa w hs=>Kn ((Yi J) a w hs) ((Ob 1 J Zl) a w hs)))<|go 4 ?_;exact Xn c (!s,v) results235 J (Yfw hs) (Oi 1 Za (by rw [eI]))
theorem Zdc{x y:Int}(hs:sg s x)(f:sg t y)(g:bl x.natAbs<=4294967296:=by omega)(h:bl y.natAbs<=4294967296:=by omega):Cal prog 167 #[.agg #[.bool s,v],.agg #[.bool t,w]] [Ek v x.natAbs,Ek w y.natAbs] true (G:=Bool×Value) (λr=>sg r.1 (x*y)) (λr=> .agg #[.bool r.1,r.2]) (λr=>[Ek r.2 (x*y).natAbs]):=by refine Zg func167 ntmps167 λk j i c=>go 2 ?_;refine Yk (Ym 3) λb _=>Yk (Ym 4) λd _=>Yk (Zw 5) λe _=>go 3 ?_;refine Xu (λ_=>False) [(0,0),(1,0),(2,0),(3,0),(4,0),(5,0),(6,0),(7,0),(8,0),(9,1),(10,0),(11,3)]<|go 9 ?_;refine Xe (Zj 6 [1,2] (Zzu g h)) λv _=>?_;refine Xg J J (Xd (Qa [(0,_),(1,_)] J K4 (λa w hs=>Kn ((Yi J) a w hs) ((Ob 6 J Zl) a w hs))))<|go 4 ?_;exact Xn c (_,_) results167 J (Yfx hs f) (Oi 6 Za (by rw [cL]))
theorem Zk2{x:Int}(hs:sg s x)(g:bl x.natAbs<=4294967296:=by omega):Cal prog 236 #[.agg #[.bool s,v]] [Ek v x.natAbs] true (G:=Unit) (λ_=>True) (λ_=> .int .i64 x.sign) (λ_=>[]):=by
 refine Zg func236 ntmps236 λi h f d=>?_;have e:=Nw x.natAbs;refine go 2 ?_;refine Yk (Ym 2) λb _=>go 14 ?_;refine Zc J (λa=>?_) (λa=>?_)
 .refine go 8 ?_;exact Xn d () results236 (Yco a) aA Za
 .refine go 7 ?_;refine Nh J (λc=>?_) (λc=>?_)
  .refine go 8 ?_;exact Xn d () results236 (Yfq hs c a) aA Za
  .refine go 9 ?_;exact Xn d () results236 (Yfp hs c a) aA Za
theorem Zf3{x y:Int}(hs:sg s x)(g:sg t y)(i:bl x.natAbs<=4294967296:=by omega)(j:bl y.natAbs<=4294967296:=by omega):Cal prog 170 #[.agg #[.bool s,v],.agg #[.bool t,w]] [Ek v x.natAbs,Ek w y.natAbs] true (G:=Bool×Value) (λr=>sg r.1 (x+y)) (λr=> .agg #[.bool r.1,r.2]) (λr=>[Ek r.2 (x+y).natAbs]):=by
 refine Zg func170 ntmps170 λu q p f=>go 2 ?_;refine Yk (Ym 3) λb _=>Yk (Ym 4) λl _=>Yk (Zw 5) λm _=>go 14 ?_;refine Nh J (λd=>?_) (λd=>?_)
 .have c:s=t:=by simpa using d
  refine go 1 ?_;refine Xu (λ_=>False) [(0,0),(1,0),(2,0),(3,0),(4,0),(5,0),(6,1),(7,0),(8,3)]<|go 6 ?_;refine Xe (Zj 6 [1,2] (Zzw i j)) λv _=>?_;refine Xg J J (Xd (Qa [(0,_),(1,_)] J K4 (λa w hs=>Kn ((Yi J) a w hs) ((Ob 6 J Zl) a w hs))))<|go 6 ?_;exact Xn f (_,_) results170 J (Zyy hs (c▸g)) (Oi 6 Za (by rw [Zgt hs (c▸g)]))
 .have c:s≠t:=by simpa using d
  refine go 6 ?_;refine cl 6 [1,2] (Zce i j) λr k=>go 4 ?_;refine Zc J (λh=>?_) (λh=>?_)
  .have e:y.natAbs<=x.natAbs:=by have:=k.1;omega
   refine go 1 ?_;refine Xu (λ_=>False) [(0,0),(1,0),(2,0),(3,0),(4,0),(5,0),(6,1),(7,0),(8,3)]<|go 6 ?_;refine Xe (Zj 7 [1,2] (Zf4 i)) λn _=>?_;refine Xg J J (Xd (Qa [(0,_),(1,_)] J K4 (λa w hs=>Kn ((Yi J) a w hs) ((Ob 7 J Zl) a w hs))))<|go 6 ?_;exact Xn f (_,_) results170 J (Zi5 hs g c e) (Oi 7 Za (by rw [Zax hs g c e]))
  .have e:x.natAbs<=y.natAbs:=by have:=k.1;omega
   refine go 4 ?_;refine Xu (λ_=>False) [(0,0),(1,0),(2,0),(3,0),(4,0),(5,0),(6,1),(7,0),(8,3)]<|go 6 ?_;refine Xe (Zj 8 [2,1] (Zf4 j)) λo _=>?_;refine Xg J J (Xd (Qa [(0,_),(1,_)] J K4 (λa w hs=>Kn ((Yi J) a w hs) ((Ob 8 J Zl) a w hs))))<|go 4 ?_;exact Xn f (_,_) results170 J (by rw [kE];exact Zi5 g hs (iY c) e) (Oi 8 Za (by rw [kE,Zax g hs (iY c) e]))
theorem Ol{x:Int}(hs:sg s x)(e:bl x.natAbs<=4294967296:=by omega):Cal prog 166 #[.agg #[.bool s,.string (Qe x.natAbs)]] [] true (G:=Bool×Value) (λr=>sg r.1 x) (λr=> .agg #[.bool r.1,r.2]) (λr=>[Ek r.2 x.natAbs]):=by refine Zg func166 ntmps166 λh g f c=>go 2 ?_;refine Yk (Ym 1) λb _=>Yk (Zw 2) λd _=>go 3 ?_;refine Xu (λ_=>False) [(0,0),(1,0),(2,0),(3,0),(4,1),(5,0),(6,3)]<|go 4 ?_;refine Xe (Zj 3 [] (Zc3 e)) λv _=>?_;refine Xg J J (Xd (Qa [(0,_),(1,_)] J K4 (λa w hs=>Kn ((Yi J) a w hs) ((Ob 3 J Zl) a w hs))))<|go 4 ?_;exact Xn c (_,_) results166 J hs (Oi 3 Za J)
theorem Hg{x:Int}(hs:sg s x)(g:bl x.natAbs<=4294967296:=by omega):Xy prog 184 #[.agg #[.bool s,v]] [Ek v x.natAbs] (Zb1 x):=by
 refine Zg func184 ntmps184 λi h f d=>go 2 ?_;refine Yk (Ym 2) λb _=>Yk (Zw 3) λe _=>go 8 ?_;refine cl 3 [1] Zk4 λ_ _=>go 3 ?_;refine Zc J (λc=>?_) (λc=>?_)
 .refine go 2 ?_;refine dt (Qa [] J aA (λa w hs=>b80_))<|go 6 ?_;exact Ma d () results184 (Yca c) aA Za
 .refine go 3 ?_;cases s
  .refine Xu (λ_=>False) [(0,0),(1,0),(2,0),(3,2),(4,2),(5,2),(6,2),(7,0),(8,0),(9,0),(10,1),(11,0),(12,3),(13,3)]<|go 10 ?_;refine Xe (Zj 3 [1] Znz) λ_ _=>?_;refine Xg J J (Xd (Qa [(0,_),(1,_)] J K4 (λa w hs=>Zxz ((Yi J) a w hs) ((Yi J) a w hs))))<|go 5 ?_;exact Ma d () results184 (by first|exact Zry hs c|exact Zrx hs c) aA Za
  .refine Xu (λ_=>False) [(0,0),(1,0),(2,0),(3,0),(4,0),(5,0),(6,0),(7,0),(8,0),(9,0),(10,1),(11,0),(12,3),(13,3)]<|go 10 ?_;refine Xe (Zj 3 [1] Znz) λ_ _=>?_;refine Xg J J (Xd (Qa [(0,_),(1,_)] J K4 (λa w hs=>Zxz ((Yi J) a w hs) ((Yi J) a w hs))))<|go 5 ?_;exact Ma d () results184 (by first|exact Zry hs c|exact Zrx hs c) aA Za
theorem Zf2(x y:Int)(hs:sg s x)(m:sg t y)(M:bl y.natAbs<=3000000000)(i:y≠0)(I:bl x.natAbs<=3000000000:=by omega):Cal prog 218 #[.agg #[.bool s,v],.agg #[.bool t,w]] [Ek v x.natAbs,Ek w y.natAbs] true (G:=Bool×Value×Value) (λr=>sg r.1 (x/y)) (λr=> .tuple #[.agg #[.bool r.1,r.2.1],.agg #[.bool false,r.2.2]]) (λr=>[Ek r.2.1 (x/y).natAbs,Ek r.2.2 (x%y).natAbs]):=by
 refine Zg func218 ntmps218 λP N z f=>?_;have F:=Nw x.natAbs;have H:=Nw y.natAbs;have j:0<y.natAbs:=O1;have l:x.natAbs%y.natAbs<y.natAbs:=bP _ j;have u:=Pr (eK l);have q:=Pr (fM x.natAbs y.natAbs);refine go 2 ?_;refine Yk (Ym 3) λb _=>Yk (Ym 4) λn _=>Yk (Zw 5) λo _=>Yk (Zw 6) λp _=>go 8 ?_;refine cl 7 [1,2] (Zzv O1 O1 j) λg _=>go 13 ?_;refine Zga 18 J (λe=>?_) (λe=>?_)
 .refine go 6 ?_;refine Zc J (λc=>?_) (λc=>?_)
  .subst e;have k:0<x.natAbs%y.natAbs:=by rcases aS (x.natAbs%y.natAbs)with h|h;(rw [h]at c;simp [Ga]at c);exact h
   have d:=divA hs m i k;refine Xu (λ_=>False) [(0,0),(3,0),(4,0),(5,0),(1,1),(2,1),(6,1),(7,0),(8,3)]<|go 4 ?_;refine Dg J (Qs [(0,_)] 9 (enc:=Mj) (dg U 1) J J K2 Ps ti232 J J J J J pU.cells J J z.h) λv _=>Xe (Zj 10 [7,9] (Zzw O1 (show bl 1<=4294967296 by decide))) λB _=>Xe (Zj 11 [2,8] (Zf4 O1)) λD _=>go 12 ?_;refine dt (Qa [(0,_),(1,_)] J K4 (λa w hs=>Kn ((Yi J) a w hs) ((Ob 10 J Zl) a w hs)))<|go 1 ?_;refine dt (Qa [(0,_),(1,_)] J K4 (λa w hs=>Kn ((Yi J) a w hs) ((Ob 11 J Zl) a w hs)))<|go 5 ?_;exact Ma f (_,_,_) results218 J d.1 (Oi 10 (Oi 11 Za (by rw [d.2.2]<;>rfl)) (by rw [d.2.1]<;>rfl))
  .have d:=divB hs m i (.inr ((Pv Xm _).1 O1));refine go 10 ?_;refine dt (Qa [(0,_),(1,_)] J K4 (λa w hs=>Kn ((Yi J) a w hs) ((Ob 7 J Zl) a w hs)))<|go 1 ?_;refine dt (Qa [(0,_),(1,_)] J K4 (λa w hs=>Kn ((Yi J) a w hs) ((Ob 8 J Zl) a w hs)))<|go 5 ?_;exact Ma f (_,_,_) results218 J d.1 (Oi 7 (Oi 8 Za (by rw [d.2.2]<;>rfl)) (by rw [d.2.1]<;>rfl))
 .have d:=divB hs m i (.inl e);refine go 17 ?_;refine dt (Qa [(0,_),(1,_)] J K4 (λa w hs=>Kn ((Yi J) a w hs) ((Ob 7 J Zl) a w hs)))<|go 1 ?_;refine dt (Qa [(0,_),(1,_)] J K4 (λa w hs=>Kn ((Yi J) a w hs) ((Ob 8 J Zl) a w hs)))<|go 5 ?_;exact Ma f (_,_,_) results218 J d.1 (Oi 7 (Oi 8 Za (by rw [d.2.2]<;>rfl)) (by rw [d.2.1]<;>rfl))
variable {P:Program} {N:Nat} {sc:Nat->Prop} {M:Nat->Prop} {env:Qy} {H:Hp} {Q:Exit->Act->World->Prop}
structure BAct (i:Nat) (A:Prop):Prop where h:A
def bq(i:Nat){A:Prop}(h:A):BAct i A:=⟨h⟩
theorem Zbx {l:List Oper}  {n:Nat}  (i k:Nat) (a:(Region.noSelect l.toArray && Gz l.toArray ts [(i,k)] listed)=true)
  (h:LD P N sc M l.toArray (A P N sc M l.toArray ts Q n (Ft [(i,k)] listed)) [(i,k)] env H):A P N sc M l.toArray ts Q (n+1) listed env H:=
 Zt _ [(i,k)] h (by rw [a,mR];show Nat.beq (1+n) (n+1)=true;rw [jO];exact Nat.beq_refl _)
theorem Bw    {n:Nat} (i:Nat) (c:((Region.ready .any ops listed == [i]) && !(Gr ops ts listed) && !([i]:List Nat).isEmpty)=true)
  (a:BAct i (Zez P N sc M ops ts Q n listed env H i)):A P N sc M ops ts Q (n+1) listed env H:=Ylh [i] c λq b=>by
 rw [bN.1 b];exact a.h
theorem Br    {n:Nat} (i j:Nat) (d:((Region.ready .any ops listed == [i,j]) && !(Gr ops ts listed) && !([i,j]:List Nat).isEmpty)=true)
  (b:BAct i (Zez P N sc M ops ts Q n listed env H i)) (c:BAct j (Zez P N sc M ops ts Q n listed env H j)):A P N sc M ops ts Q (n+1) listed env H:=Ylh [i,j] d λq a=>by
 simp only [bB,dL,iD]at a;rcases a with rfl|rfl
 .exact b.h
 .exact c.h
theorem Zx6    {n:Nat} (i j k:Nat) (e:((Region.ready .any ops listed == [i,j,k]) && !(Gr ops ts listed) && !([i,j,k]:List Nat).isEmpty)=true)
  (b:BAct i (Zez P N sc M ops ts Q n listed env H i)) (c:BAct j (Zez P N sc M ops ts Q n listed env H j)) (d:BAct k (Zez P N sc M ops ts Q n listed env H k)):A P N sc M ops ts Q (n+1) listed env H:=Ylh [i,j,k] e λq a=>by
 simp only [bB,dL,iD]at a;rcases a with rfl|rfl|rfl
 .exact b.h
 .exact c.h
 .exact d.h
end Go.Sky

