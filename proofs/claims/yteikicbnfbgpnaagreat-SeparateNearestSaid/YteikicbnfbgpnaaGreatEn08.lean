/- Rules, arithmetic and contracts: part 9. No conditions but those that each theorem names. -/
import Derived.Test.YteikicbnfbgpnaaGreatEn07
set_option linter.all false
set_option maxHeartbeats 4000000
namespace Go.Sky
open Go.Proofs
set_option linter.all false
set_option synthInstance.maxHeartbeats 0
variable{v w:Value}{xs ts:List Nat}{x y:Nat}{s t:Bool}{listed:Array Bool}{ops:Array Oper}
@[reducible,instance]def iUnd3:=Und.mk Tryz.underlying3
@[reducible,instance]def iUnd4:=Und.mk Tryz.underlying4
@[reducible,instance]def iUnd5:=Und.mk Tryz.underlying5
@[reducible,instance]def iUnd9:=Und.mk Tryz.underlying9
@[reducible,instance]def iUnd33:=Und.mk Tryz.underlying33
@[reducible,instance]def iUnd39:=Und.mk Tryz.underlying39
@[reducible,instance]def iUnd40:=Und.mk Tryz.underlying40
@[reducible,instance]def iUnd47:=Und.mk Tryz.underlying47
@[reducible,instance]def iUnd80:=Und.mk Tryz.underlying80
@[reducible,instance]def iUnd82:=Und.mk Tryz.underlying82
@[reducible,instance]def iUnd89:=Und.mk Tryz.underlying89
@[reducible,instance]def iUnd91:=Und.mk Tryz.underlying91
@[reducible,instance]def iUnd121:=Und.mk Tryz.underlying121
@[reducible,instance]def iUnd197:=Und.mk Tryz.underlying197
@[reducible,instance]def iUnd217:=Und.mk Tryz.underlying217
@[reducible,instance]def iUnd219:=Und.mk Tryz.underlying219
@[reducible,instance]def iUnd230:=Und.mk Tryz.underlying230
@[reducible,instance]def iUnd232:=Und.mk Tryz.underlying232
@[reducible,instance]def iUnd248:=Und.mk Tryz.underlying248
@[reducible,instance]def iUnd250:=Und.mk Tryz.underlying250
@[reducible,instance]def iUnd268:=Und.mk Tryz.underlying268
@[reducible,instance]def iUnd270:=Und.mk Tryz.underlying270
@[reducible,instance]def iUnd274:=Und.mk Tryz.underlying274
@[reducible,instance]def iUnd276:=Und.mk Tryz.underlying276
@[reducible,instance]def iUnd280:=Und.mk Tryz.underlying280
@[reducible,instance]def iUnd316:=Und.mk Tryz.underlying316
@[reducible,instance]def iSiz3:=Siz.mk Tryz.sizeOf3
@[reducible,instance]def iSiz4:=Siz.mk Tryz.sizeOf4
@[reducible,instance]def iSiz5:=Siz.mk Tryz.sizeOf5
@[reducible,instance]def iSiz9:=Siz.mk Tryz.sizeOf9
@[reducible,instance]def iSiz26:=Siz.mk Tryz.sizeOf26
@[reducible,instance]def iSiz33:=Siz.mk Tryz.sizeOf33
@[reducible,instance]def iSiz40:=Siz.mk Tryz.sizeOf40
@[reducible,instance]def iSiz47:=Siz.mk Tryz.sizeOf47
@[reducible,instance]def iSiz80:=Siz.mk Tryz.sizeOf80
@[reducible,instance]def iSiz82:=Siz.mk Tryz.sizeOf82
@[reducible,instance]def iSiz89:=Siz.mk Tryz.sizeOf89
@[reducible,instance]def iSiz91:=Siz.mk Tryz.sizeOf91
@[reducible,instance]def iSiz217:=Siz.mk Tryz.sizeOf217
@[reducible,instance]def iSiz219:=Siz.mk Tryz.sizeOf219
@[reducible,instance]def iSiz232:=Siz.mk Tryz.sizeOf232
@[reducible,instance]def iSiz248:=Siz.mk Tryz.sizeOf248
@[reducible,instance]def iSiz268:=Siz.mk Tryz.sizeOf268
@[reducible,instance]def iSiz270:=Siz.mk Tryz.sizeOf270
@[reducible,instance]def iSiz276:=Siz.mk Tryz.sizeOf276
@[reducible,instance]def iAgg4:=Agg.mk Tryz.isAgg4
@[reducible,instance]def iAgg9:=Agg.mk Tryz.isAgg9
@[reducible,instance]def iAgg26:=Agg.mk Tryz.isAgg26
@[reducible,instance]def iAgg33:=Agg.mk Tryz.isAgg33
@[reducible,instance]def iAgg80:=Agg.mk Tryz.isAgg80
@[reducible,instance]def iAgg82:=Agg.mk Tryz.isAgg82
@[reducible,instance]def iAgg89:=Agg.mk Tryz.isAgg89
@[reducible,instance]def iAgg91:=Agg.mk Tryz.isAgg91
@[reducible,instance]def iAgg217:=Agg.mk Tryz.isAgg217
@[reducible,instance]def iAgg219:=Agg.mk Tryz.isAgg219
@[reducible,instance]def iAgg268:=Agg.mk Tryz.isAgg268
@[reducible,instance]def iAgg270:=Agg.mk Tryz.isAgg270
@[reducible,instance]def iAgg276:=Agg.mk Tryz.isAgg276
@[reducible,instance]def iZer80:=Zer.mk Tryz.zeroValue80
@[reducible,instance]def iZer82:=Zer.mk Tryz.zeroValue82
@[reducible,instance]def iZer89:=Zer.mk Tryz.zeroValue89
@[reducible,instance]def iZer91:=Zer.mk Tryz.zeroValue91
@[reducible,instance]def iZer219:=Zer.mk Tryz.zeroValue219
@[reducible,instance]def iZer232:=Zer.mk Tryz.zeroValue232
@[reducible,instance]def iZer250:=Zer.mk Tryz.zeroValue250
@[reducible,instance]def iZer270:=Zer.mk Tryz.zeroValue270
@[reducible,instance]def iZer274:=Zer.mk Tryz.zeroValue274
@[reducible,instance]def iZer276:=Zer.mk Tryz.zeroValue276
abbrev cGa(f:Nat):=CalF Go.Proofs.Tryz.prog f
open Go.Proofs.Tryz
instance:cGa 57:=.mk call57
instance:cGa 67:=.mk call67
instance:cGa 69:=.mk call69
instance:cGa 70:=.mk call70
instance:cGa 72:=.mk call72
instance:cGa 76:=.mk call76
instance:cGa 78:=.mk call78
instance:cGa 79:=.mk call79
instance:cGa 81:=.mk call81
instance:cGa 82:=.mk call82
instance:cGa 97:=.mk call97
instance:cGa 99:=.mk call99
instance:cGa 105:=.mk call105
instance:cGa 106:=.mk call106
instance:cGa 117:=.mk call117
instance:cGa 118:=.mk call118
instance:cGa 119:=.mk call119
instance:cGa 126:=.mk call126
instance:cGa 127:=.mk call127
instance:cGa 128:=.mk call128
instance:cGa 129:=.mk call129
instance:cGa 130:=.mk call130
instance:cGa 131:=.mk call131
instance:cGa 135:=.mk call135
instance:cGa 136:=.mk call136
instance:cGa 138:=.mk call138
instance:cGa 140:=.mk call140
instance:cGa 143:=.mk call143
instance:cGa 144:=.mk call144
instance:cGa 146:=.mk call146
instance:cGa 147:=.mk call147
instance:cGa 148:=.mk call148
instance:cGa 149:=.mk call149
instance:cGa 164:=.mk call164
instance:cGa 165:=.mk call165
instance:cGa 166:=.mk call166
instance:cGa 167:=.mk call167
instance:cGa 169:=.mk call169
instance:cGa 170:=.mk call170
instance:cGa 173:=.mk call173
instance:cGa 178:=.mk call178
instance:cGa 179:=.mk call179
instance:cGa 180:=.mk call180
instance:cGa 183:=.mk call183
instance:cGa 184:=.mk call184
instance:cGa 188:=.mk call188
instance:cGa 189:=.mk call189
instance:cGa 190:=.mk call190
instance:cGa 191:=.mk call191
instance:cGa 192:=.mk call192
instance:cGa 193:=.mk call193
instance:cGa 194:=.mk call194
instance:cGa 195:=.mk call195
instance:cGa 196:=.mk call196
instance:cGa 197:=.mk call197
instance:cGa 198:=.mk call198
instance:cGa 200:=.mk call200
instance:cGa 201:=.mk call201
instance:cGa 202:=.mk call202
instance:cGa 209:=.mk call209
instance:cGa 210:=.mk call210
instance:cGa 211:=.mk call211
instance:cGa 212:=.mk call212
instance:cGa 213:=.mk call213
instance:cGa 214:=.mk call214
instance:cGa 215:=.mk call215
instance:cGa 216:=.mk call216
instance:cGa 217:=.mk call217
instance:cGa 218:=.mk call218
instance:cGa 219:=.mk call219
instance:cGa 220:=.mk call220
instance:cGa 221:=.mk call221
instance:cGa 222:=.mk call222
instance:cGa 223:=.mk call223
instance:cGa 224:=.mk call224
instance:cGa 225:=.mk call225
instance:cGa 226:=.mk call226
instance:cGa 228:=.mk call228
instance:cGa 232:=.mk call232
instance:cGa 233:=.mk call233
instance:cGa 234:=.mk call234
instance:cGa 235:=.mk call235
instance:cGa 236:=.mk call236
instance:cGa 237:=.mk call237
instance:cGa 238:=.mk call238
instance:cGa 239:=.mk call239
instance:cGa 240:=.mk call240
instance:cGa 251:=.mk call251
instance:cGa 254:=.mk call254
instance:cGa 255:=.mk call255
instance:cGa 256:=.mk call256
instance:cGa 257:=.mk call257
instance:cGa 258:=.mk call258
instance:cGa 259:=.mk call259
instance:cGa 260:=.mk call260
instance:cGa 261:=.mk call261
instance:cGa 262:=.mk call262
instance:cGa 263:=.mk call263
instance:cGa 264:=.mk call264
instance:cGa 265:=.mk call265
instance:cGa 266:=.mk call266
instance:cGa 267:=.mk call267
instance:cGa 268:=.mk call268
instance:cGa 272:=.mk call272
instance:cGa 280:=.mk call280
instance:cGa 281:=.mk call281
instance:cGa 282:=.mk call282
instance:cGa 283:=.mk call283
instance:cGa 284:=.mk call284
instance:cGa 285:=.mk call285
instance:cGa 286:=.mk call286
instance:cGa 287:=.mk call287
instance:cGa 288:=.mk call288
instance:cGa 289:=.mk call289
instance:cGa 290:=.mk call290
instance:cGa 291:=.mk call291
instance:cGa 292:=.mk call292
instance:cGa 293:=.mk call293
instance:cGa 294:=.mk call294
instance:cGa 295:=.mk call295
instance:cGa 297:=.mk call297
instance:cGa 298:=.mk call298
instance:cGa 299:=.mk call299
instance:cGa 300:=.mk call300
instance:cGa 301:=.mk call301
instance:cGa 302:=.mk call302
instance:cGa 303:=.mk call303
instance:cGa 304:=.mk call304
instance:cGa 305:=.mk call305
instance:cGa 306:=.mk call306
instance:cGa 307:=.mk call307
instance:cGa 308:=.mk call308
instance:cGa 309:=.mk call309
instance:cGa 310:=.mk call310
instance:cGa 311:=.mk call311
instance:cGa 312:=.mk call312
instance:cGa 313:=.mk call313
instance:cGa 314:=.mk call314
instance:cGa 315:=.mk call315
instance:EncT Tryz.prog 232 1 Ld:=⟨pU⟩
instance:EncE 1 Ld:=⟨_,_,pU⟩
instance:EncT Tryz.prog 5 1 Zj0:=⟨pB⟩
instance:EncE 1 Zj0:=⟨_,_,pB⟩
instance:EncT Tryz.prog 3 1 Ih:=⟨pN⟩
instance:EncE 1 Ih:=⟨_,_,pN⟩
instance:EncT Tryz.prog 3 1 Yi:=⟨pZ⟩
instance:EncE 1 Yi:=⟨_,_,pZ⟩
instance:EncT Tryz.prog 80 2 Zy2:=⟨pW⟩
instance:EncE 2 Zy2:=⟨_,_,pW⟩
instance:EncT Tryz.prog 80 2 wv:=⟨pV⟩
instance:EncE 2 wv:=⟨_,_,pV⟩
instance:EncT Tryz.prog 89 2 Mo:=⟨pI⟩
instance:EncE 2 Mo:=⟨_,_,pI⟩
instance {α:Type} : EncT Tryz.prog 40 1 (Nk (α:=α)):=⟨pS⟩
instance {α:Type} : EncE 1 (Nk (α:=α)):=⟨_,_,pS⟩
instance:EncT Tryz.prog 276 8 iq:=⟨pY⟩
instance:EncE 8 iq:=⟨_,_,pY⟩
instance:EncT Tryz.prog 82 4 rq:=⟨pQ⟩
instance:EncE 4 rq:=⟨_,_,pQ⟩
instance:EncT Tryz.prog 82 4 encQ:=⟨pR⟩
instance:EncE 4 encQ:=⟨_,_,pR⟩
@[reducible,instance]def iUnd23:=Und.mk Tryz.underlying23
@[reducible,instance]def iUnd25:=Und.mk Tryz.underlying25
@[reducible,instance]def iUnd35:=Und.mk Tryz.underlying35
@[reducible,instance]def iUnd38:=Und.mk Tryz.underlying38
@[reducible,instance]def iUnd46:=Und.mk Tryz.underlying46
@[reducible,instance]def iUnd50:=Und.mk Tryz.underlying50
@[reducible,instance]def iUnd61:=Und.mk Tryz.underlying61
@[reducible,instance]def iUnd130:=Und.mk Tryz.underlying130
@[reducible,instance]def iUnd135:=Und.mk Tryz.underlying135
@[reducible,instance]def iUnd140:=Und.mk Tryz.underlying140
@[reducible,instance]def iUnd150:=Und.mk Tryz.underlying150
@[reducible,instance]def iUnd162:=Und.mk Tryz.underlying162
@[reducible,instance]def iUnd165:=Und.mk Tryz.underlying165
@[reducible,instance]def iUnd166:=Und.mk Tryz.underlying166
@[reducible,instance]def iUnd182:=Und.mk Tryz.underlying182
@[reducible,instance]def iUnd186:=Und.mk Tryz.underlying186
@[reducible,instance]def iUnd189:=Und.mk Tryz.underlying189
@[reducible,instance]def iUnd190:=Und.mk Tryz.underlying190
@[reducible,instance]def iUnd193:=Und.mk Tryz.underlying193
@[reducible,instance]def iUnd210:=Und.mk Tryz.underlying210
@[reducible,instance]def iUnd242:=Und.mk Tryz.underlying242
@[reducible,instance]def iUnd243:=Und.mk Tryz.underlying243
@[reducible,instance]def iUnd331:=Und.mk Tryz.underlying331
@[reducible,instance]def iSiz23:=Siz.mk Tryz.sizeOf23
@[reducible,instance]def iSiz25:=Siz.mk Tryz.sizeOf25
@[reducible,instance]def iSiz35:=Siz.mk Tryz.sizeOf35
@[reducible,instance]def iSiz38:=Siz.mk Tryz.sizeOf38
@[reducible,instance]def iSiz46:=Siz.mk Tryz.sizeOf46
@[reducible,instance]def iSiz64:=Siz.mk Tryz.sizeOf64
@[reducible,instance]def iSiz130:=Siz.mk Tryz.sizeOf130
@[reducible,instance]def iSiz135:=Siz.mk Tryz.sizeOf135
@[reducible,instance]def iSiz162:=Siz.mk Tryz.sizeOf162
@[reducible,instance]def iSiz182:=Siz.mk Tryz.sizeOf182
@[reducible,instance]def iSiz189:=Siz.mk Tryz.sizeOf189
@[reducible,instance]def iSiz210:=Siz.mk Tryz.sizeOf210
@[reducible,instance]def iSiz242:=Siz.mk Tryz.sizeOf242
@[reducible,instance]def iSiz243:=Siz.mk Tryz.sizeOf243
@[reducible,instance]def iSiz330:=Siz.mk Tryz.sizeOf330
@[reducible,instance]def iAgg3:=Agg.mk Tryz.isAgg3
@[reducible,instance]def iAgg23:=Agg.mk Tryz.isAgg23
@[reducible,instance]def iAgg25:=Agg.mk Tryz.isAgg25
@[reducible,instance]def iAgg35:=Agg.mk Tryz.isAgg35
@[reducible,instance]def iAgg38:=Agg.mk Tryz.isAgg38
@[reducible,instance]def iAgg40:=Agg.mk Tryz.isAgg40
@[reducible,instance]def iAgg46:=Agg.mk Tryz.isAgg46
@[reducible,instance]def iAgg50:=Agg.mk Tryz.isAgg50
@[reducible,instance]def iAgg61:=Agg.mk Tryz.isAgg61
@[reducible,instance]def iAgg64:=Agg.mk Tryz.isAgg64
@[reducible,instance]def iAgg130:=Agg.mk Tryz.isAgg130
@[reducible,instance]def iAgg135:=Agg.mk Tryz.isAgg135
@[reducible,instance]def iAgg162:=Agg.mk Tryz.isAgg162
@[reducible,instance]def iAgg182:=Agg.mk Tryz.isAgg182
@[reducible,instance]def iAgg189:=Agg.mk Tryz.isAgg189
@[reducible,instance]def iAgg210:=Agg.mk Tryz.isAgg210
@[reducible,instance]def iAgg243:=Agg.mk Tryz.isAgg243
@[reducible,instance]def iAgg330:=Agg.mk Tryz.isAgg330
@[reducible,instance]def iZer3:=Zer.mk Tryz.zeroValue3
@[reducible,instance]def iZer4:=Zer.mk Tryz.zeroValue4
@[reducible,instance]def iZer23:=Zer.mk Tryz.zeroValue23
@[reducible,instance]def iZer25:=Zer.mk Tryz.zeroValue25
@[reducible,instance]def iZer26:=Zer.mk Tryz.zeroValue26
@[reducible,instance]def iZer35:=Zer.mk Tryz.zeroValue35
@[reducible,instance]def iZer38:=Zer.mk Tryz.zeroValue38
@[reducible,instance]def iZer64:=Zer.mk Tryz.zeroValue64
@[reducible,instance]def iZer130:=Zer.mk Tryz.zeroValue130
@[reducible,instance]def iZer135:=Zer.mk Tryz.zeroValue135
@[reducible,instance]def iZer162:=Zer.mk Tryz.zeroValue162
@[reducible,instance]def iZer165:=Zer.mk Tryz.zeroValue165
@[reducible,instance]def iZer166:=Zer.mk Tryz.zeroValue166
@[reducible,instance]def iZer182:=Zer.mk Tryz.zeroValue182
@[reducible,instance]def iZer189:=Zer.mk Tryz.zeroValue189
@[reducible,instance]def iZer210:=Zer.mk Tryz.zeroValue210
@[reducible,instance]def iZer243:=Zer.mk Tryz.zeroValue243
open Go.Proofs.Tryz
instance:cGa 20:=.mk call20
instance:cGa 23:=.mk call23
instance:cGa 24:=.mk call24
instance:cGa 28:=.mk call28
instance:cGa 31:=.mk call31
instance:cGa 36:=.mk call36
instance:cGa 37:=.mk call37
instance:cGa 39:=.mk call39
instance:cGa 40:=.mk call40
instance:cGa 41:=.mk call41
instance:cGa 42:=.mk call42
instance:cGa 43:=.mk call43
instance:cGa 44:=.mk call44
instance:cGa 48:=.mk call48
instance:cGa 50:=.mk call50
instance:cGa 51:=.mk call51
instance:cGa 53:=.mk call53
instance:cGa 54:=.mk call54
instance:cGa 59:=.mk call59
instance:cGa 68:=.mk call68
instance:cGa 73:=.mk call73
instance:cGa 75:=.mk call75
instance:cGa 77:=.mk call77
instance:cGa 80:=.mk call80
instance:cGa 83:=.mk call83
instance:cGa 85:=.mk call85
instance:cGa 86:=.mk call86
instance:cGa 87:=.mk call87
instance:cGa 88:=.mk call88
instance:cGa 89:=.mk call89
instance:cGa 90:=.mk call90
instance:cGa 91:=.mk call91
instance:cGa 92:=.mk call92
instance:cGa 93:=.mk call93
instance:cGa 94:=.mk call94
instance:cGa 95:=.mk call95
instance:cGa 96:=.mk call96
instance:cGa 98:=.mk call98
instance:cGa 107:=.mk call107
instance:cGa 108:=.mk call108
instance:cGa 109:=.mk call109
instance:cGa 110:=.mk call110
instance:cGa 111:=.mk call111
instance:cGa 113:=.mk call113
instance:cGa 114:=.mk call114
instance:cGa 115:=.mk call115
instance:cGa 120:=.mk call120
instance:cGa 121:=.mk call121
instance:cGa 122:=.mk call122
instance:cGa 125:=.mk call125
instance:cGa 132:=.mk call132
instance:cGa 133:=.mk call133
instance:cGa 134:=.mk call134
instance:cGa 137:=.mk call137
instance:cGa 139:=.mk call139
instance:cGa 141:=.mk call141
instance:cGa 142:=.mk call142
instance:cGa 145:=.mk call145
instance:cGa 150:=.mk call150
instance:cGa 151:=.mk call151
instance:cGa 153:=.mk call153
instance:cGa 154:=.mk call154
instance:cGa 155:=.mk call155
instance:cGa 156:=.mk call156
instance:cGa 157:=.mk call157
instance:cGa 158:=.mk call158
instance:cGa 159:=.mk call159
instance:cGa 160:=.mk call160
instance:cGa 161:=.mk call161
instance:cGa 162:=.mk call162
instance:cGa 163:=.mk call163
instance:cGa 168:=.mk call168
instance:cGa 174:=.mk call174
instance:cGa 175:=.mk call175
instance:cGa 177:=.mk call177
instance:cGa 181:=.mk call181
instance:cGa 182:=.mk call182
instance:cGa 185:=.mk call185
instance:cGa 186:=.mk call186
instance:cGa 187:=.mk call187
instance:cGa 199:=.mk call199
instance:cGa 203:=.mk call203
instance:cGa 204:=.mk call204
instance:cGa 205:=.mk call205
instance:cGa 206:=.mk call206
instance:cGa 207:=.mk call207
instance:cGa 208:=.mk call208
instance:cGa 227:=.mk call227
instance:cGa 229:=.mk call229
instance:cGa 230:=.mk call230
instance:cGa 231:=.mk call231
instance:cGa 241:=.mk call241
instance:cGa 247:=.mk call247
instance:cGa 252:=.mk call252
instance:cGa 253:=.mk call253
instance:cGa 271:=.mk call271
instance:cGa 278:=.mk call278
instance:cGa 279:=.mk call279
open Go.Proofs.Tryz
set_option synthInstance.maxSize 100000
set_option maxRecDepth 20000
set_option linter.unusedSimpArgs false
theorem Ykc(v:Value)(xs:List Nat):Cal prog 183 #[v] [Yx 1 Ld v xs] true (G:=Unit) (λ_=>True) (λ_=>Kz v (tz xs).length) (λ_=>[Yx 1 Ld (Kz v (tz xs).length) (tz xs)]):=by
 refine Zh func183 ntmps183 λo n m c=>?_;refine Pg (Zyx (i:=1) J Zr) (λa=>?_);refine Pg (Mh (i:=1) J Zr) λl=>go 7 ?_;refine lp (G:=Nat) [] [0] (λk=>[(0,Kz v k)]) (λk=>[(1,Yx 1 Ld (Kz v k) (xs.take k))]) (λk=>(k<=xs.length)/\(tz (xs.take k)=tz xs)) (λk=>k) xs.length ⟨aI _,by rw [bK]⟩ ⟨by rw [a];rfl,aA⟩ ⟨by rw [a,bK];rfl,aA⟩ ?_;rintro k ⟨g,h⟩;have e:(xs.take k).length=k:=by rw [aQ];omega
 refine go 7 ?_;refine Xg 6 J (λj=>?_) (λj=>?_)
 .refine go 4 ⟨O,?_⟩;refine Ej (Zv 1 (k-1) J J J J Zr Og Ig) J J<|go 5 ⟨O,?_⟩;refine Ze J (λf=>?_) (λf=>?_)
  .have b:=Zz3 g O (by omega:(xs.take k).getD (k-1) 0=0);refine go 8 ⟨O,?_⟩;refine dt (Ycx 1 (k-1) J J J J Zr Og Ig)<|go 3 ?_;exact Zs (Yia 1 1 (k-1) J J)<|Yh (k-1) ⟨O1,by rw [<-h,<-b]⟩ O1 ⟨by rw [<-Fx v k (k-1)];rfl,aA⟩ ⟨by rw [Fx,iP,dJ O];rfl,aA⟩
  .refine go 12 ?_;have d:tz xs=xs.take k:=by rw [<-h];exact Zf4 g O
   exact Xo c () results183 (by rw [d,e]) aA (Ps 1 Za (by rw [d,e]))
 .refine go 23 ?_;have d:tz xs=xs.take k:=by rw [<-h];exact Zf4 g O
  exact Xo c () results183 (by rw [d,e]) aA (Ps 1 Za (by rw [d,e]))
def Oo:Cal prog 183 #[v] [Yx 1 Ld v xs] false (G:=Unit) (λ_=>True) (λ_=>Kz v (tz xs).length) (λ_=>[]):=(Ykc v xs).bare
theorem Ybs(z:bl x<=4294967296)(N:bl y<=4294967296):Cal prog 222 #[v,w] [Dq v x,Dq w y] false (G:=Value) (λr=>True) (λr=>r) (λr=>[Dq r (x+y)]):=by
 refine Zh func222 ntmps222 λS P n m=>?_;have I:=Mt x;have M:=Mt y;refine go 5 ?_;refine jn (G:=Value×Value×Nat×Nat) [] [0,1,2] (λq=>[(0,q.1),(1,q.2.1)]) (λq=>[(91,Dq q.1 q.2.2.1),(92,Dq q.2.1 q.2.2.2)]) (λq=>(q.2.2.1+q.2.2.2=x+y)/\((dg U q.2.2.2).length<=(dg U q.2.2.1).length)/\((dg U q.2.2.1).length<=1099511627776)) ?_ ?_
 .refine go 9 ?_;refine Ze J (λg=>?_) (λg=>?_)
  .refine go 6 ?_;exact Zs (Xu 2 91 J J J)<|Zs (Xu 1 92 J J J)<|Od (w,v,y,x) ⟨O1,O1,O1⟩ K2 K2
  .refine go 1 ?_;exact Zs (Xu 1 91 J J J)<|Zs (Xu 2 92 J J J)<|Od (v,w,x,y) ⟨O1,O1,O1⟩ K2 K2
 .rintro⟨Q,R,a,b⟩ ⟨hs,u,j⟩;dsimp only at hs u j;dsimp only;refine go 5 ⟨O,?_⟩;refine tt (Hi 3 ((dg U a).length+1) 8 (enc:=Ld) 0 J J J J Og ti232 J pU.cells pU.pos J J J n.h) λv _=>go 17 ?_;refine lp (G:=Nat×List Nat×Nat) [0,1,5,21] [0,91,92,1,2] (λq=>[(22,.int .i64 (q.1:Int)),(6,.int .u64 (q.2.2:Int))]) (λq=>[(3,Oa 1 232 Ld v q.2.1)]) (λq=>(q.1<=(dg U a).length)/\(q.2.1.length=(dg U a).length+1)/\(∀d∈q.2.1,d<U)/\(q.2.2<=1)/\(Yn U (q.2.1.take q.1)+q.2.2*U^q.1=Yn U ((dg U a).take q.1)+Yn U ((dg U b).take q.1))) (λq=>(dg U a).length-q.1) (0,List.replicate ((dg U a).length+1) 0,0) ⟨O1,O7,Nl Qh,O1,by simp [Yn]⟩ K2 K1 ?_;rintro⟨k,o,c⟩ ⟨D,l,e,B,f⟩;dsimp only at D l e B f;dsimp only;refine go 6 ?_;refine Ze J (λh=>?_) (λh=>?_)
  .refine go 15 ?_;refine jn (G:=Unit) [0,1,5,6,7,21,22] [0,3,91,92,1,2] (λ_=>[(8,.int .u64 ((dg U b).getD k 0:Int))]) (λ_=>[]) (λ_=>True) ?_ ?_
   .refine go 8 ?_;refine Ze J (λi=>?_) (λi=>?_)
    .refine go 7 ⟨O2,O2,?_⟩
     try (have p:(dg U b).getD k 0=0:=by simp [List.getD,bF (by omega:(dg U b).length<=k)])
     exact Od () aA ⟨by first|rfl|(rw [p];rfl),aA⟩ aA
    .refine go 1 ?_
     try (have p:(dg U b).getD k 0=0:=by simp [List.getD,bF (by omega:(dg U b).length<=k)])
     exact Od () aA ⟨by first|rfl|(rw [p];rfl),aA⟩ aA
   .rintro _ -;refine go 9 ⟨O2,O2,?_⟩;refine dt (Zsj _ J J J J O Zi1)<|go 4 ⟨O2,?_⟩;refine tt (Kj 3 (enc:=Ld) J J J J J J pU J n.h O3 O2) (λ_ _=>?_);refine go 8 ⟨O,?_⟩;exact Yh (k+1,_,_) ⟨O1,O8,Ki e _ (bR _ Qh),by have F:=Qa Qh (Mb Qb a) k;have H:=Qa Qh (Mb Qb b) k;simp only [U]at *;omega,Ynr f O⟩ O1 K2 K1
  .refine go 6 ?_;obtain rfl:k=(dg U a).length:=O;refine go 6 ⟨O2,?_⟩;refine tt (Kj 3 (enc:=Ld) J J J J J J pU J n.h O3 O2) λ_ _=>go 5 ?_;refine cl 3 [3] Oo λ_ _=>?_;refine Xf (Zba 3 J J pU)<|go 4 ?_;have z:tz (o.set (dg U a).length c)=dg U (x+y):=by
    rw [<-Ic Qb _ (Ki e _ (by simp only [U];omega)),<-hs];congr 1
    conv=>rhs;rw [<-Mw Qb a,<-Mw Qb b]
    rw [bM (aI (dg U a).length),Mr U (dg U b) u]at f;rw [<-f,<-Bh U o c O,Mr _ _ O8]
   exact Xo m _ results222 J aA (gow 3 Za z)
theorem Zgv(p:bl x<=4294967296)(j:y<=x:=by omega):Cal prog 224 #[v,w] [Dq v x,Dq w y] false (G:=Value) (λr=>True) (λr=>r) (λr=>[Dq r (x-y)]):=by
 refine Zh func224 ntmps224 λM I n h=>?_;have D:=Mt x;have F:=Mt y;have H:=Of j;refine go 9 ?_;refine tt (Hi 3 ((dg U x).length) 8 (enc:=Ld) 0 J J J J Og ti232 J pU.cells pU.pos J J J n.h) λv _=>go 17 ?_;refine lp (G:=Nat×List Nat×Nat) [0,1,5,13] [0,1,2] (λq=>[(14,.int .i64 (q.1:Int)),(6,.int .u64 (q.2.2:Int))]) (λq=>[(3,Oa 1 232 Ld v q.2.1)]) (λq=>(q.1<=(dg U x).length)/\(q.2.1.length=(dg U x).length)/\(∀d∈q.2.1,d<U)/\(q.2.2<=1)/\(Yn U (q.2.1.take q.1)+Yn U ((dg U y).take q.1)=Yn U ((dg U x).take q.1)+q.2.2*U^q.1)) (λq=>(dg U x).length-q.1) (0,List.replicate ((dg U x).length) 0,0) ⟨O1,O7,Nl Qh,O1,by simp [Yn]⟩ K2 K1 ?_;rintro⟨k,o,c⟩ ⟨B,b,a,m,i⟩;dsimp only at B b a m i;dsimp only;refine go 6 ?_;refine Ze J (λe=>?_) (λe=>?_)
 .refine go 15 ?_;refine jn (G:=Unit) [0,1,5,6,7,13,14] [0,3,1,2] (λ_=>[(8,.int .u64 ((dg U y).getD k 0:Int))]) (λ_=>[]) (λ_=>True) ?_ ?_
  .refine go 8 ?_;refine Ze J (λf=>?_) (λf=>?_)
   .refine go 7 ⟨O2,O2,?_⟩
    try (have l:(dg U y).getD k 0=0:=by simp [List.getD,bF (by omega:(dg U y).length<=k)])
    exact Od () aA ⟨by first|rfl|(rw [l];rfl),aA⟩ aA
   .refine go 1 ?_
    try (have l:(dg U y).getD k 0=0:=by simp [List.getD,bF (by omega:(dg U y).length<=k)])
    exact Od () aA ⟨by first|rfl|(rw [l];rfl),aA⟩ aA
  .rintro _ -;refine go 9 ⟨O2,O2,?_⟩;refine dt (Yro J J J J O Yef)<|go 4 ⟨O2,?_⟩;refine tt (Kj 3 (enc:=Ld) J J J J J J pU J n.h O3 O2) (λ_ _=>?_);refine go 8 ⟨O,?_⟩;exact Yh (k+1,_,_) ⟨O1,O8,Ki a _ (bR _ Qh),Yna,Yha m (Qa Qh (Mb Qb x) k) (Qa Qh (Mb Qb y) k) i O⟩ O1 K2 K1
 .refine go 8 ?_;refine cl 3 [3] Oo λ_ _=>?_;refine Xf (Zba 3 J J pU)<|go 4 ?_;obtain rfl:k=(dg U x).length:=O;have p:tz o=dg U (x-y):=by rw [<-Ic Qb _ a];congr 1;have g:(dg U y).length<=(dg U x).length:=O;rw [Mr U o O,Mr U (dg U y) g,Mr U (dg U x) (aI _),Mw Qb,Mw Qb]at i;have z:=Zhy Qh o a;rw [b]at z;have u:c=0\/c=1:=O;rcases u with rfl|rfl<;>omega
  exact Xo h _ results224 J aA (gow 3 Za p)
theorem Zc9(p:bl x<=4294967296)(q:bl y<=4294967296):Cal prog 223 #[v,w] [Dq v x,Dq w y] false (G:=Int) (λr=>(r<0↔x<y)/\(0<r↔y<x)) (λr=> .int .i64 r) (λr=>[]):=by
 refine Zh func223 ntmps223 λz u o a=>?_;have l:=Mt x;have m:=Mt y;refine go 15 ?_;refine Ze J (λe=>?_) (λe=>?_)
 .refine go 12 ⟨O,?_⟩;exact Xo a _ results223 J ⟨⟨λh=>Zbk Qb O,λh=>by have:=Of (eE h);omega⟩,⟨λh=>Zbk Qb O,λh=>by have:=Of (eE h);omega⟩⟩ Za
 .have c:(dg U x).length=(dg U y).length:=O;refine go 12 ⟨O,?_⟩;refine lp (G:=Nat) [0,1] [0,1,2] (λk=>[(5,.int .i64 ((k:Int)-1))]) (λk=>[]) (λk=>(k<=(dg U x).length)/\((dg U x).drop k=(dg U y).drop k)) (λk=>k) (dg U x).length ⟨O1,by rw [iS,c,iS]⟩ K1 aA ?_;rintro k ⟨n,d⟩;refine go 7 ?_;refine Ze J (λf=>?_) (λf=>?_)
  .refine go 6 ?_;refine Qf (λ_=>False) [(0,0),(1,0),(2,0),(3,0),(4,0),(5,0),(6,0),(7,0),(8,0),(9,0)]<|go 2 ?_;refine Xj J J (Xq (Zv 1 (k-1) J J J J Zr Og Ig))<|go 3 ⟨O2,?_⟩;refine Xj J J (Xq (Zv 2 (k-1) J J J J Zr Og Ig))<|go 5 ⟨O2,?_⟩;refine Ze J (λg=>?_) (λg=>?_)
   .refine go 12 ?_;have b:=Zss Qh (xs:=dg U x) (ys:=dg U y) (Mb Qb x) (k:=k-1) O O (by rw [show k-1+1=k by omega];exact d) O;rw [Mw Qb,Mw Qb]at b;exact Xo a (-1) results223 J O Za
   .refine go 1 ?_;refine Qf (λ_=>False) [(0,0),(1,0),(2,0),(3,0),(4,0),(5,0),(6,0),(7,0),(8,0),(9,0)]<|go 2 ?_;refine Xj J J (Xq (Zv 1 (k-1) J J J J Zr Og Ig))<|go 3 ⟨O2,?_⟩;refine Xj J J (Xq (Zv 2 (k-1) J J J J Zr Og Ig))<|go 5 ⟨O2,?_⟩;refine Ze J (λi=>?_) (λi=>?_)
    .refine go 12 ?_;have b:=Zss Qh (xs:=dg U y) (ys:=dg U x) (Mb Qb y) (k:=k-1) O O (by rw [show k-1+1=k by omega];exact d.symm) O;rw [Mw Qb,Mw Qb]at b;exact Xo a 1 results223 J O Za
    .refine go 9 ⟨O,?_⟩;exact Yh (k-1) ⟨O1,by have:=Zhe (dg U x) (dg U y) (k:=k-1) O O (by rw [show k-1+1=k by omega];exact d) O;exact this⟩ O1 ⟨by rw [show(((k-1:Nat):Int)-1)=(k:Int)-1-1 by omega];rfl,aA⟩ aA
  .refine go 11 ?_;obtain rfl:k=0:=O;have j:x=y:=(Ziu Qb).1 (by simpa using d);exact Xo a 0 results223 J O Za
theorem Yne(b:x<U)(c:y<U):Qd prog 268 #[.int .u64 (x:Int),.int .u64 (y:Int)] [] (.tuple #[.int .u64 ((x*y/U:Nat):Int),.int .u64 ((x*y%U:Nat):Int)]):=by refine Zh func268 ntmps268 λf e d a=>?_;simp only [U]at b c;refine go 9 ?_;refine dt (Zts J J J b)<|go 6 ?_;refine dt (Fk 4294967296 (n:=32) J J J J J)<|go 6 ?_;refine dt (Zts J J J c)<|go 6 ?_;refine dt (Fk 4294967296 (n:=32) J J J J J)<|go 7 ?_;refine dt (Bd J J J)<|go 7 ?_;refine dt (Bd J J J)<|go 1 ?_;refine dt (Fk 4294967296 (n:=32) J J J J J)<|dt (Ag J J J)<|go 6 ?_;refine dt (Zts J J J (bR _ Qh))<|go 6 ?_;refine dt (Fk 4294967296 (n:=32) J J J J J)<|go 8 ?_;refine dt (Bd J J J)<|dt (Ag J J J)<|go 7 ?_;refine dt (Bd J J J)<|go 1 ?_;refine dt (Ag J J J)<|go 1 ?_;refine dt (Fk 4294967296 (n:=32) J J J J J)<|dt (Ag J J J)<|go 7 ?_;refine dt (Bd J J J)<|go 4 ?_;exact Nx a () results268 (by rw [Ykg b c rfl rfl]) aA Za
theorem Ybq(I:bl x<=4294967296)(R:bl y<=4294967296):Cal prog 220 #[v,w] [Dq v x,Dq w y] false (G:=Value) (λr=>True) (λr=>r) (λr=>[Dq r (x*y)]):=by
 refine Zh func220 ntmps220 λV S F D=>?_;have P:=Mt x;have Q:=Mt y;refine go 12 ⟨O,?_⟩;refine tt (Hi 3 ((dg U x).length+(dg U y).length) 8 (enc:=Ld) 0 J J J J Og ti232 J pU.cells pU.pos J J J F.h) λv _=>go 12 ?_;refine lp (G:=Nat×List Nat) [1,5,20,21] [0,1,2] (λq=>[(22,.int .i64 (q.1:Int))]) (λq=>[(3,Oa 1 232 Ld v q.2)]) (λq=>(q.1<=(dg U x).length)/\(q.2.length=(dg U x).length+(dg U y).length)/\(∀d∈q.2,d<U)/\(∀j,q.1+(dg U y).length<=j->q.2.getD j 0=0)/\(Yn U (q.2.take (q.1+(dg U y).length))=Yn U ((dg U x).take q.1)*y)) (λq=>(dg U x).length-q.1) (0,List.replicate ((dg U x).length+(dg U y).length) 0) ⟨O1,O7,Nl Qh,λj _=>Iu _ j,by simp [Yn,nU,Gw]⟩ K1 K1 ?_;rintro⟨i,o⟩ ⟨hi,u,g,M,z⟩;dsimp only at hi u g M z;dsimp only;refine go 6 ?_;refine Ze J (λm=>?_) (λm=>?_)
 .refine go 27 ⟨O2,O2,?_⟩;refine lp (G:=Nat×List Nat×Nat) [1,5,6,7,20,21,22,27,28] [0,1,2] (λq=>[(29,.int .i64 (q.1:Int)),(8,.int .u64 (q.2.2:Int))]) (λq=>[(3,Oa 1 232 Ld v q.2.1)]) (λq=>(q.1<=(dg U y).length)/\(q.2.1.length=(dg U x).length+(dg U y).length)/\(∀d∈q.2.1,d<U)/\(∀j,i+(dg U y).length<=j->q.2.1.getD j 0=0)/\(q.2.2<U)/\(Yn U (q.2.1.take (i+(dg U y).length))+q.2.2*U^(i+q.1)=Yn U ((dg U x).take i)*y+(dg U x).getD i 0*U^i*Yn U ((dg U y).take q.1))) (λq=>(dg U y).length-q.1) (0,o,0) ⟨O1,u,g,M,Qh,by rw [z];simp [Yn]⟩ K2 K1 ?_;rintro⟨k,p,c⟩ ⟨N,B,a,l,f,h⟩;dsimp only at N B a l f h;dsimp only;have b:=Yfd (Qa Qh (Mb Qb x) i) (Qa Qh (Mb Qb y) k) (Qa Qh a (i+k)) f;refine go 6 ?_;refine Ze J (λn=>?_) (λn=>?_)
  .refine go 17 ⟨O2,O2,?_⟩;refine cl 3 [] (Yne (Qa Qh (Mb Qb _) _) (Qa Qh (Mb Qb _) _)) λ_ _=>?_;refine go 14 ⟨O,?_⟩;refine dt (Zv 3 (i+k) J J J J (Yb pU) Og Ig)<|go 1 ⟨O2,?_⟩;refine dt (Zsj 0 J J J J O Zi1)<|go 11 ?_;refine dt (Ag J J J)<|go 7 ?_;refine dt (Zsj 0 J J J J O Zi1)<|go 15 ⟨O,?_⟩;refine dt (Ag J J J)<|dt (Zv 3 (i+k) J J J J (Yb pU) Og Ig)<|tt (Kj 3 (enc:=Ld) J J J J J J pU J F.h O3 O2) (λ_ _=>?_);refine go 8 ⟨O,?_⟩;exact Yh (k+1,_,_) ⟨O1,O8,Ki a _ (bR _ Qh),λj H=>by rw [Nf O,aD O];exact l j H,b.2,Ykf h O O b.1⟩ O1 K2 K1
  .refine go 5 ?_;obtain rfl:k=(dg U y).length:=O;have e:=h;rw [bM (aI (dg U y).length),Mw Qb]at e;refine go 7 ⟨O,?_⟩;refine dt (Zv 3 (i+(dg U y).length) J J J J (Yb pU) Og Ig)<|tt (Kj 3 (enc:=Ld) J J J J J J pU J F.h O3 O2) (λ_ _=>?_);refine go 7 ⟨O,?_⟩;exact Yh (i+1,_) ⟨O1,O8,Ki a _ f,λj H=>by rw [Nf O,aD O];exact l j O,by dsimp only;rw [show i+1+(dg U y).length=i+(dg U y).length+1 by omega,Bh _ _ _ O,Qt,bG,<-e]⟩ O1 K1 K1
 .refine go 8 ?_;refine cl 3 [3] Oo λ_ _=>?_;refine Xf (Zba 3 J J pU)<|go 4 ?_;obtain rfl:i=(dg U x).length:=O;have I:tz o=dg U (x*y):=by rw [<-Ic Qb _ g];congr 1;rw [Mr U o O,bM (aI _),Mw Qb]at z;exact z
  exact Xo D _ results220 J aA (gow 3 Za I)
theorem Zw7(q:x<U):Qd prog 251 #[.int .u64 (x:Int)] [] (.int .i64 (bl x:Int)):=by
 refine Zh func251 ntmps251 λH G F g=>?_;simp only [U]at q;have c:=Gj x 32;have a:=Gj x 16;have l:=Gj x 8;have b:=Gj x 24;have d:=Gj x 40;have e:=Gj x 48;have f:=Gj x 56;have f32:=Zcq 32 x;have f16:=Zcq 16 x;have f8:=Zcq 8 x;have f24:=Zcq 24 x;have f40:=Zcq 40 x;have f48:=Zcq 48 x;have f56:=Zcq 56 x;have r:=aV x (2^32) (2^16);have u:=aV x (2^32) (2^8);have z:=aV x (2^16) (2^8);have B:=aV (x/2^32) (2^16) (2^8);have D:=aV x (2^32) (2^16*2^8);simp only [Nat.reducePow,Nat.reduceMul]at *;refine go 12 ?_;refine Ze J (λm=>?_) (λm=>?_)
 .refine go 3 ?_;refine dt (Fk 4294967296 (n:=32) J J J J J)<|go 14 ?_;refine Ze J (λo=>?_) (λo=>?_)
  .refine go 3 ?_;refine dt (Fk 65536 (n:=16) J J J J J)<|go 16 ⟨O,?_⟩;refine Ze J (λp=>?_) (λp=>?_)
   .refine go 3 ?_;refine dt (Fk 256 (n:=8) J J J J J)<|go 13 ⟨O,?_⟩;refine dt (Ze8 J J Za5 uT5)<|dt (Zjn J J J uT9 J O O3 O5)<|dt (Za2 J J uT5 uT3 Zap)<|go 5 ⟨Cx O O,?_⟩;exact Xo g () results251 (Zao x O (by first|omega|(simp only [aV,Nat.reduceMul,c,a,l,b,d,e,f];omega))).symm aA Za
   .refine go 6 ?_;refine dt (Ze8 J J Za5 uT5)<|dt (Zjn J J J uT9 J O O3 O5)<|dt (Za2 J J uT5 uT3 Zap)<|go 5 ⟨Cx O O,?_⟩;exact Xo g () results251 (Zao x O (by first|omega|(simp only [aV,Nat.reduceMul,c,a,l,b,d,e,f];omega))).symm aA Za
  .refine go 9 ?_;refine Ze J (λi=>?_) (λi=>?_)
   .refine go 3 ?_;refine dt (Fk 256 (n:=8) J J J J J)<|go 13 ⟨O,?_⟩;refine dt (Ze8 J J Za5 uT5)<|dt (Zjn J J J uT9 J O O3 O5)<|dt (Za2 J J uT5 uT3 Zap)<|go 5 ⟨Cx O O,?_⟩;exact Xo g () results251 (Zao x O (by first|omega|(simp only [aV,Nat.reduceMul,c,a,l,b,d,e,f];omega))).symm aA Za
   .refine go 6 ?_;refine dt (Ze8 J J Za5 uT5)<|dt (Zjn J J J uT9 J O O3 O5)<|dt (Za2 J J uT5 uT3 Zap)<|go 5 ⟨Cx O O,?_⟩;exact Xo g () results251 (Zao x O (by first|omega|(simp only [aV,Nat.reduceMul,c,a,l,b,d,e,f];omega))).symm aA Za
 .refine go 9 ?_;refine Ze J (λh=>?_) (λh=>?_)
  .refine go 3 ?_;refine dt (Fk 65536 (n:=16) J J J J J)<|go 16 ⟨O,?_⟩;refine Ze J (λj=>?_) (λj=>?_)
   .refine go 3 ?_;refine dt (Fk 256 (n:=8) J J J J J)<|go 13 ⟨O,?_⟩;refine dt (Ze8 J J Za5 uT5)<|dt (Zjn J J J uT9 J O O3 O5)<|dt (Za2 J J uT5 uT3 Zap)<|go 5 ⟨Cx O O,?_⟩;exact Xo g () results251 (Zao x O (by first|omega|(simp only [aV,Nat.reduceMul,c,a,l,b,d,e,f];omega))).symm aA Za
   .refine go 6 ?_;refine dt (Ze8 J J Za5 uT5)<|dt (Zjn J J J uT9 J O O3 O5)<|dt (Za2 J J uT5 uT3 Zap)<|go 5 ⟨Cx O O,?_⟩;exact Xo g () results251 (Zao x O (by first|omega|(simp only [aV,Nat.reduceMul,c,a,l,b,d,e,f];omega))).symm aA Za
  .refine go 9 ?_;refine Ze J (λk=>?_) (λk=>?_)
   .refine go 3 ?_;refine dt (Fk 256 (n:=8) J J J J J)<|go 13 ⟨O,?_⟩;refine dt (Ze8 J J Za5 uT5)<|dt (Zjn J J J uT9 J O O3 O5)<|dt (Za2 J J uT5 uT3 Zap)<|go 5 ⟨Cx O O,?_⟩;exact Xo g () results251 (Zao x O (by first|omega|(simp only [aV,Nat.reduceMul,c,a,l,b,d,e,f];omega))).symm aA Za
   .refine go 6 ?_;refine dt (Ze8 J J Za5 uT5)<|dt (Zjn J J J uT9 J O O3 O5)<|dt (Za2 J J uT5 uT3 Zap)<|go 5 ⟨Cx O O,?_⟩;exact Xo g () results251 (Zao x O (by first|omega|(simp only [aV,Nat.reduceMul,c,a,l,b,d,e,f];omega))).symm aA Za
theorem Ztc(b:x<U):Qd prog 272 #[.int .u64 (x:Int)] [] (.int .i64 ((64-bl x:Nat):Int)):=by refine Zh func272 ntmps272 λf e d a=>?_;have c:bl x<=64:=(Qo 64 x).2 b;refine go 8 ?_;refine cl 0 [] (Zw7 b) λ_ _=>?_;refine go 5 ⟨O,?_⟩;exact Xo a () results272 (by congr 1;omega) aA Za
theorem Zmi(g:bl x<=1099511627776:=by omega):Qd prog 232 #[v] [Dq v x] (.int .i64 (bl x:Int)):=by
 refine Zh func232 ntmps232 λj i f b=>?_;have e:=Mt x;refine go 13 ?_;refine Ze J (λa=>?_) (λa=>?_)
 .refine go 7 ?_;have c:x=0:=(Oi Qb x).1 O;exact Xo b () results232 (by rw [c];rfl) aA Za
 .have d:0<x:=by rcases aW x with rfl|h;(simp [Gr]at a);exact h
  obtain⟨k,l,m,n⟩:=Yad d;refine go 11 ⟨O,O,?_⟩;refine dt (Zv 1 ((dg U x).length-1) J J J J Zr Og Ig)<|go 1 ⟨O2,?_⟩;refine cl 1 [] (Ztc (Qa Qh (Mb Qb _) _)) λ_ _=>?_;refine go 5 ⟨O,?_⟩;exact Xo b () results232 (by congr 1;omega) aA Za
theorem Yf8(g:xs.length*8<=140737488355328):Yn5 prog 309 #[v] [Yx 1 Ld v xs] (G:=Value) (λr=>True) (λr=>r) (λr=>Oa 1 232 Ld r xs):=by
 refine Zs1 func309 J ntmps309 J K1 ?_;intro j h d e;have d:=Hw.mk d;simp only [Pa,Xb];refine Pg (Ylr (i:=1) J Zr) λc=>go 9 ?_;refine dt (Zsi J J J (i:=1) J Zr Og)<|go 2 ?_;refine Md J (λb=>?_) (λb=>?_)
 .refine go 7 ?_;obtain rfl:xs=[]:=c (by simpa using b);exact Zs (Qy 9 1 232 Ld)<|Zhw (.inl J) (.slice none 0 0) (λa w hs=>Zb6 hs results309 J) J aA J 9 J J J
 .refine go 4 ?_;refine tt (Yg3 2 (enc:=Ld) J J J Og pU J d.h) λv _=>go 1 ?_;refine tt (Px 2 1 8 J J J J J J O3 J Zr Og ti232 J pU J J J O8 O3 J d.h) λf _=>go 4 ?_;exact Zhw (.inl J) _ (λa w hs=>Zb6 hs results309 J) J aA J 2 J (by rfl) J
theorem Zw8{h l:Nat}(hl:l<U)(hy:y<U)(hh:h<y):Qd prog 294 #[.int .u64 (h:Int),.int .u64 (l:Int),.int .u64 (y:Int)] [] (.tuple #[.int .u64 (((h*U+l)/y:Nat):Int),.int .u64 (((h*U+l)%y:Nat):Int)]):=by
 refine Zh func294 ntmps294 λw0 sc hw a8=>?_;have c0:U=18446744073709551616:=rfl;have hp:0<y:=O;have c1:bl y<=64:=(Qo 64 y).2 hy;obtain⟨s,hs⟩:∃s,s=64-bl y:=⟨_,rfl⟩;obtain⟨Y,g⟩:∃Y,Y=y*2^s:=⟨_,rfl⟩;obtain⟨b6,S⟩:=Yj8 hp hy hs;rw [<-g]at b6 S;have V:=S;obtain⟨D,hD⟩:∃D,D=(h*U+l)*2^s:=⟨_,rfl⟩;obtain⟨u,Z⟩:∃u,u=D/U:=⟨_,rfl⟩;obtain⟨v,a0⟩:∃v,v=D%U:=⟨_,rfl⟩;obtain⟨v1,Q⟩:∃x,x=v/4294967296:=⟨_,rfl⟩;obtain⟨v0,P⟩:∃x,x=v%4294967296:=⟨_,rfl⟩;obtain⟨d,b1⟩:∃x,x=Y/4294967296:=⟨_,rfl⟩;obtain⟨N,a9⟩:∃x,x=Y%4294967296:=⟨_,rfl⟩;have e:Y=d*4294967296+N:=O;have b7:=shl_lt hh (show y*2^s<U by rw [<-g];exact S);have c3:u<Y:=by rw [Z,hD,g];exact top_lt hl hh
 have hu:u<d*4294967296+N:=O;have c4:v<U:=by rw [a0];exact bR _ Qh
 have b0:2147483648<=d:=O;have i:d<4294967296:=O;have f:N<4294967296:=O;have M:v1<4294967296:=O;have I:v0<4294967296:=O;obtain⟨Q1,m⟩:∃x,x=(u*4294967296+v1)/Y:=⟨_,rfl⟩;obtain⟨t,H⟩:∃x,x=(u*4294967296+v1)%Y:=⟨_,rfl⟩;have c2:t<Y:=by rw [H];exact bR _ O
 have ht:t<d*4294967296+N:=O;obtain⟨Q0,k⟩:∃x,x=(t*4294967296+v0)/Y:=⟨_,rfl⟩;have R:0<Y:=O;obtain⟨a6,a7⟩:=dv_two (D:=D) R Z a0 Q P;rw [<-m,<-H,<-k]at a6;rw [<-H]at a7;have b8:Q0<4294967296:=by rw [k,e];exact dv_Q I ht
 have b9:Q1<4294967296:=by rw [m,e];exact dv_Q M hu
 refine go 13 ?_;refine Ze J (λa1=>?_) (λa1=>?_)
 .exfalso;omega
 .refine go 10 ?_;refine Ze J (λa2=>?_) (λa2=>?_)
  .exfalso;omega
  .refine go 9 ?_;refine Ze J (λa3=>?_) (λa3=>?_)
   .refine go 1 ?_;refine Qf (λ_=>False) [(0,0),(1,0),(2,0),(3,0),(4,0),(5,0),(6,0),(7,3)]<|go 2 ?_;refine Xj J J (Xq (Ygu J J J))<|go 2 ?_;refine Xj J J (Xq (u_rem J J J O))<|go 6 ?_;exact Nx a8 () results294 (by have h0:h=0:=O;rw [h0];simp) aA Za
   .refine go 5 ?_;refine cl 0 [] (Ztc hy) λ_ _=>?_;refine dt (Zsl J J uT3 Zz2 (by simp only [U];omega))<|go 4 ?_;refine Zg (Kk 8 (v':= .int .u64 (s:Int)) J (by rw [hs]))<|go 3 ?_;refine dt (Zol J J J J)<|go 4 ?_;refine Zg (Kk 2 (v':= .int .u64 (Y:Int)) J (by rw [g,aX (by rw [<-g];exact V)]))<|go 2 ?_;refine dt (Fk 4294967296 (n:=32) J J J J J)<|go 6 ?_;refine dt (Zts J J J)<|go 7 ?_;refine dt (Zol J J J J)<|go 2 ?_;refine dt (Zex J J J (by first|exact bR _ Qh|omega))<|dt (Zok J J (n:=64-s) J (by simp only [U];omega))<|dt (Yof J J J (bR _ Qh) (bA (eQ _ _) hl))<|go 4 ?_;refine Zg (Kk 11 (v':= .int .u64 (u:Int)) J (by rw [Z,hD,Yjw O b7 hl]))<|go 3 ?_;refine dt (Zol J J J J)<|go 4 ?_;refine Zg (Kk 12 (v':= .int .u64 (v:Int)) J (by rw [a0,hD,Yff h l s]))<|go 2 ?_;refine dt (Fk 4294967296 (n:=32) J J J J J)<|go 4 ?_;refine Zg (Kk 13 (v':= .int .u64 (v1:Int)) J (by rw [Q]))<|go 2 ?_;refine dt (Zts J J J)<|go 4 ?_;refine Zg (Kk 14 (v':= .int .u64 (v0:Int)) J (by rw [Zxa,P]))<|Zg (Kk 9 (v':= .int .u64 (d:Int)) J (by rw [b1]))<|Zg (Kk 10 (v':= .int .u64 (N:Int)) J (by rw [Zxa,a9]))<|go 3 ?_;refine dt (Ygu J J J)<|go 8 ?_;refine dt (Bd J J J)<|dt (Zex J J J (by first|exact bR _ Qh|omega))<|go 3 ?_;refine jn (G:=Unit) [2,8,9,10,11,13,14] [0] (λ_=>[(15,.int .u64 ((Q1:Nat):Int))]) (λ_=>[]) (λ_=>True) ?_ ?_
    .refine go 1 ?_;refine Zg (Kk 16 (v':= .int .u64 ((u%d:Nat):Int)) J (by rw [rsub O O]))<|lp (G:=Nat×Nat) [2,8,9,10,11,13,14] [0] (λq=>[(15,.int .u64 (q.1:Int)),(16,.int .u64 (q.2:Int))]) (λq=>[]) (λq=>(dvI u v1 d N q.1 q.2)/\(q.2<4294967296)) (λq=>q.1) (u/d,u%d) ⟨dv0 b0 i f M hu,jU (bR _ O) i⟩ K2 aA ?_;rintro⟨a,r⟩ ⟨j,hr⟩;dsimp only at j hr;dsimp only;have b4:=j.1;have b5:=j.2.1;refine go 6 ?_;refine Xg 69 J (λb2=>?_) (λb2=>?_)
     .refine go 16 ?_;have b:=Zkv O j M hu O;have c:=b.1;refine go 2 ?_;refine dt (Zex (n:=1) J J J)<|go 4 ?_;refine Zg (Kk 15 (v':= .int .u64 ((a-1:Nat):Int)) J (Zby (Zwm c O)))<|go 3 ?_;refine dt (Ag J J J)<|go 4 ?_;refine Zg (Kk 16 (v':= .int .u64 ((r+d:Nat):Int)) J (Zby (aX O)))<|go 5 ?_;refine Ze J (λa4=>?_) (λa4=>?_)
      .refine go 4 ?_;have z:Q1=a-1:=by rw [m,e];exact(Zhc O f b.2 O O).symm
       exact Od () aA ⟨by rw [z];rfl,aA⟩ aA
      .refine go 2 ?_;exact Yh (a-1,r+d) ⟨b.2,O9⟩ O1 K2 aA
     .have W:=Zvj (show a<4294967296 by omega) f;have e1:=aX (show a*N<U from W);have e2:=aX (show 4294967296*r<U by omega);have e3:=aX (show 4294967296*r+v1<U by omega);refine go 2 ?_;refine Ej (Bd J J J) J J<|go 1 ?_;refine Ej (Bd J J J) J J<|go 1 ?_;refine Ej (Ag J J J) J J<|go 4 ?_;refine Ze J (λo=>?_) (λo=>?_)
      .rw [e1,e2,e3]at o;refine go 4 ?_;have b:=Zkv O j M hu O;have c:=b.1;refine go 2 ?_;refine dt (Zex (n:=1) J J J)<|go 4 ?_;refine Zg (Kk 15 (v':= .int .u64 ((a-1:Nat):Int)) J (Zby (Zwm c O)))<|go 3 ?_;refine dt (Ag J J J)<|go 4 ?_;refine Zg (Kk 16 (v':= .int .u64 ((r+d:Nat):Int)) J (Zby (aX O)))<|go 5 ?_;refine Ze J (λB=>?_) (λB=>?_)
       .refine go 4 ?_;have z:Q1=a-1:=by rw [m,e];exact(Zhc O f b.2 O O).symm
        exact Od () aA ⟨by rw [z];rfl,aA⟩ aA
       .refine go 2 ?_;exact Yh (a-1,r+d) ⟨b.2,O9⟩ O1 K2 aA
      .rw [e1,e2,e3]at o;refine go 4 ?_;have z:Q1=a:=by rw [m,e];exact(Zsg O j O).symm
       exact Od () aA ⟨by rw [z];rfl,aA⟩ aA
    .rintro _ -;refine go 3 ?_;refine dt (Bd J J J)<|go 1 ?_;refine dt (Ag J J J)<|go 2 ?_;refine dt (Bd J J J)<|dt (Zex J J J (by first|exact bR _ Qh|omega))<|go 4 ?_;refine Zg (Kk 17 (v':= .int .u64 (t:Int)) J (by rw [H,m,Ycq R V]))<|go 3 ?_;refine dt (Ygu J J J)<|go 8 ?_;refine dt (Bd J J J)<|dt (Zex J J J (by first|exact bR _ Qh|omega))<|go 3 ?_;refine jn (G:=Unit) [2,8,14,15,17] [0] (λ_=>[(18,.int .u64 ((Q0:Nat):Int))]) (λ_=>[]) (λ_=>True) ?_ ?_
     .refine go 1 ?_;refine Zg (Kk 16 (v':= .int .u64 ((t%d:Nat):Int)) J (by rw [rsub O O]))<|lp (G:=Nat×Nat) [2,8,9,10,14,15,17] [0] (λq=>[(18,.int .u64 (q.1:Int)),(16,.int .u64 (q.2:Int))]) (λq=>[]) (λq=>(dvI t v0 d N q.1 q.2)/\(q.2<4294967296)) (λq=>q.1) (t/d,t%d) ⟨dv0 b0 i f I ht,jU (bR _ O) i⟩ K2 aA ?_;rintro⟨a,r⟩ ⟨j,hr⟩;dsimp only at j hr;dsimp only;have b4:=j.1;have b5:=j.2.1;refine go 6 ?_;refine Xg 104 J (λb3=>?_) (λb3=>?_)
      .refine go 16 ?_;have b:=Zkv O j I ht O;have c:=b.1;refine go 2 ?_;refine dt (Zex (n:=1) J J J)<|go 4 ?_;refine Zg (Kk 18 (v':= .int .u64 ((a-1:Nat):Int)) J (Zby (Zwm c O)))<|go 3 ?_;refine dt (Ag J J J)<|go 4 ?_;refine Zg (Kk 16 (v':= .int .u64 ((r+d:Nat):Int)) J (Zby (aX O)))<|go 5 ?_;refine Ze J (λa5=>?_) (λa5=>?_)
       .refine go 4 ?_;have z:Q0=a-1:=by rw [k,e];exact(Zhc O f b.2 O O).symm
        exact Od () aA ⟨by rw [z];rfl,aA⟩ aA
       .refine go 2 ?_;exact Yh (a-1,r+d) ⟨b.2,O9⟩ O1 K2 aA
      .have W:=Zvj (show a<4294967296 by omega) f;have e1:=aX (show a*N<U from W);have e2:=aX (show 4294967296*r<U by omega);have e3:=aX (show 4294967296*r+v0<U by omega);refine go 2 ?_;refine Ej (Bd J J J) J J<|go 1 ?_;refine Ej (Bd J J J) J J<|go 1 ?_;refine Ej (Ag J J J) J J<|go 4 ?_;refine Ze J (λp=>?_) (λp=>?_)
       .rw [e1,e2,e3]at p;refine go 4 ?_;have b:=Zkv O j I ht O;have c:=b.1;refine go 2 ?_;refine dt (Zex (n:=1) J J J)<|go 4 ?_;refine Zg (Kk 18 (v':= .int .u64 ((a-1:Nat):Int)) J (Zby (Zwm c O)))<|go 3 ?_;refine dt (Ag J J J)<|go 4 ?_;refine Zg (Kk 16 (v':= .int .u64 ((r+d:Nat):Int)) J (Zby (aX O)))<|go 5 ?_;refine Ze J (λF=>?_) (λF=>?_)
        .refine go 4 ?_;have z:Q0=a-1:=by rw [k,e];exact(Zhc O f b.2 O O).symm
         exact Od () aA ⟨by rw [z];rfl,aA⟩ aA
        .refine go 2 ?_;exact Yh (a-1,r+d) ⟨b.2,O9⟩ O1 K2 aA
       .rw [e1,e2,e3]at p;refine go 4 ?_;have z:Q0=a:=by rw [k,e];exact(Zsg O j O).symm
        exact Od () aA ⟨by rw [z];rfl,aA⟩ aA
     .rintro _ -;refine go 3 ?_;refine dt (Bd J J J)<|go 1 ?_;refine dt (Ag J J J)<|go 1 ?_;refine dt (Bd J J J)<|go 1 ?_;refine dt (Ag J J J)<|go 2 ?_;refine dt (Bd J J J)<|dt (Zex J J J (by first|exact bR _ Qh|omega))<|go 1 ?_;refine dt (Zok J J J J)<|go 5 ?_;have hA:(Q1*4294967296%U+Q0)%U=(h*U+l)/y:=by rw [<-Zow _ y s,<-hD,<-g,a6];simp only [U];omega
      have hB:((t*4294967296%U+v0)%U+(U-(Q0*Y)%U))%U/2^s=(h*U+l)%y:=by rw [<-Zov _ y s,<-hD,<-g,a7,k,Ycq R V]
      exact Nx a8 () results294 (by rw [hA,hB]) aA Za
theorem Yfc{d:Nat}(u:bl x<=8589934592)(f:0<d)(g:d<U):Cal prog 292 #[v,.int .u64 (d:Int)] [Dq v x] false (G:=Value) (λr=>True) (λr=> .tuple #[r,.int .u64 ((x%d:Nat):Int)]) (λr=>[Dq r (x/d)]):=by
 refine Zh func292 ntmps292 λB z j i=>?_;have p:=Mt x;refine go 10 ?_;refine tt (Hi 2 ((dg U x).length) 8 (enc:=Ld) 0 J J J J Og ti232 J pU.cells pU.pos J J J j.h) (λv _=>?_);refine go 18 ⟨O,?_⟩;refine lp (G:=Nat×List Nat×Nat) [0,1,6] [0,1] (λq=>[(8,.int .i64 ((q.1:Int)-1)),(7,.int .u64 (q.2.2:Int))]) (λq=>[(2,Oa 1 232 Ld v q.2.1)]) (λq=>(q.1<=(dg U x).length)/\(q.2.1.length=(dg U x).length)/\(q.2.2<d)/\(∀d∈q.2.1,d<U)/\(Yn U (q.2.1.drop q.1)*d+q.2.2=Yn U ((dg U x).drop q.1))) (λq=>q.1) ((dg U x).length,List.replicate (dg U x).length 0,0) ⟨aI _,O7,O1,Nl Qh,by simp [Yn]⟩ K2 K1 ?_;rintro⟨k,o,r⟩ ⟨l,h,c,a,e⟩;dsimp only at l h c a e;dsimp only;refine go 7 ?_;refine Ze J (λb=>?_) (λb=>?_)
 .refine go 10 ?_;refine dt (Zv 1 (k-1) J J J J Zr Og Ig)<|go 2 ⟨O2,?_⟩;refine cl 2 [] (Zw8 (Qa Qh (Mb Qb _) _) g c) λ_ _=>go 3 ?_;refine dt (Zv 2 (k-1) J J J J (Yb pU) Og Ig)<|tt (Kj 2 (enc:=Ld) J J J J J J pU J j.h O3 O2) (λ_ _=>?_);refine go 9 ⟨O,?_⟩;exact Yh (k-1,_,_) ⟨O1,O8,bR _ f,Ki a _ (Zwd (Qa Qh (Mb Qb x) _) c),Zxm f O O (by rw [show k-1+1=k by omega];exact e)⟩ O1 ⟨by rw [show(((k-1:Nat):Int)-1)=(k:Int)-1-1 by omega];rfl,rfl,aA⟩ K1
 .refine go 8 ?_;refine cl 2 [2] Oo λ_ _=>?_;refine Xf (Zba 2 J J pU)<|go 6 ?_;obtain rfl:k=0:=O;rw [gV,gV,Mw Qb]at e;have n:tz o=dg U (x/d):=by rw [<-Ic Qb _ a,<-e,aO,gO f,cN c,eH]
  have m:r=x%d:=by rw [<-e,aO,iB,aX c]
  exact Nx i _ results292 (by rw [m]) aA (gow 2 Za n)
theorem Zrh{s:Nat}(Y:bl x<=4294967296:=by omega)(hs:s<=4294967296:=by omega):Cal prog 293 #[v,.int .i64 (s:Int)] [Dq v x] false (G:=Value) (λr=>True) (λr=>r) (λr=>[Dq r (x*2^s)]):=by
 refine Zh func293 ntmps293 λw0 Z M D=>?_;obtain⟨w,V⟩:∃w,w=s/64:=⟨_,rfl⟩;obtain⟨b,R⟩:∃b,b=s%64:=⟨_,rfl⟩;have W:=Mt x;refine go 13 ?_;refine Ze J (λm=>?_) (λm=>?_)
 .refine go 7 ?_;refine Zs (Qy 9 1 232 Ld) ?_;have N:x=0:=(Oi Qb x).1 O;exact Xo D (.slice none 0 0) results293 J aA (gow 9 Za (by rw [N,gP];rfl))
 .refine go 5 ?_;refine dt (Zdl J J J)<|go 1 ?_;refine dt (Znd J J J)<|go 5 ?_;refine Zg (Kk 5 (v':= .int .i64 (w:Int)) J (by congr 1;omega))<|Zg (Kk 6 (v':= .int .i64 (b:Int)) J (by congr 1;omega))<|go 6 ⟨O,O,?_⟩;refine tt (Hi 2 ((dg U x).length+w+1) 8 (enc:=Ld) 0 J J J J Og ti232 J pU.cells pU.pos J J J M.h) λv _=>go 12 ?_;refine lp (G:=Nat×List Nat) [5,6,7,23,24] [0,1] (λq=>[(25,.int .i64 (q.1:Int))]) (λq=>[(2,Oa 1 232 Ld v q.2)]) (λq=>(q.1<=(dg U x).length)/\(q.2.length=(dg U x).length+w+1)/\(q.2.getD (w+q.1) 0<2^b)/\(∀j,w+q.1<j->q.2.getD j 0=0)/\(∀d∈q.2,d<U)/\(Yn U (q.2.take ((dg U x).length+w+1))=Yn U ((dg U x).take q.1)*2^b*U^w)) (λq=>(dg U x).length-q.1) (0,List.replicate ((dg U x).length+w+1) 0) ⟨O1,O7,by rw [Iu];exact dQ b,λj _=>Iu _ j,Nl Qh,by rw [nU,Gw];simp [Yn]⟩ K1 K1 ?_;rintro⟨i,o⟩ ⟨hi,B,Q,l,a,H⟩;dsimp only at hi B Q l a H;dsimp only;have F:i<(dg U x).length->_:=λS=>Yhv (xs:=dg U x) (show b<=63 by omega) B.symm (show w+i+1<_ by omega) Q (l (w+i+1) O) (Qa Qh (Mb Qb x) i) H;refine go 6 ?_;refine Ze J (λp=>?_) (λp=>?_)
  .refine go 14 ⟨O2,O2,?_⟩;have f:=Qa Qh (Mb Qb x) i;refine Qf (λ_=>False) [(0,0),(1,0),(2,0),(3,0),(4,0),(5,0),(6,0),(7,0),(8,0),(9,0),(10,0),(11,3)]<|go 4 ⟨O,?_⟩;refine Xj J J (Xq (Zv 2 (w+i) J J J J (Yb pU) Og Ig))<|go 3 ⟨O2,?_⟩;refine Xj J J (Xq (Zol J J (n:=b) J J))<|Xj J J (Xq (Yof J J J (Qa Qh a _) (bR _ Qh)))<|Xj J J (Xq (Zv 2 (w+i) J J J J (Yb pU) Og Ig))<|r3' J (Kj 2 (enc:=Ld) J J J J J J pU J M.h O3 O2) λ_ _=>go 8 ?_;refine Ze J (λu=>?_) (λu=>?_)
   .have c:=Ki (Ki a (w+i) (d:=o.getD (w+i) 0 ||| (dg U x).getD i 0*2^b%U) (kI (n:=64) (Qa Qh a _) (bR _ Qh))) (w+i+1) (d:=(dg U x).getD i 0/2^(64-b)) (bA (eQ _ _) f);have g:((o.set (w+i) (o.getD (w+i) 0 ||| (dg U x).getD i 0*2^b%U)).set (w+i+1) ((dg U x).getD i 0/2^(64-b))).getD (w+i+1) 0<2^b:=by rw [Nf O8,aG rfl];exact Zfq O f
    have k:∀j,w+i+1<j->((o.set (w+i) (o.getD (w+i) 0 ||| (dg U x).getD i 0*2^b%U)).set (w+i+1) ((dg U x).getD i 0/2^(64-b))).getD j 0=0:=λj z=>by rw [Nf O8,aD O,Nf O,aD O];exact l j O
    have e:=F O;refine go 9 ⟨O,O,O,?_⟩;refine dt (Zok J J (n:=64-b) J O)<|dt (Zv 2 (w+i+1) J J J J (Yb pU) Og Ig O (by simp only [bI];omega))<|tt (Kj 2 (enc:=Ld) J J J J J J pU J M.h O3 (by simp only [bI];omega)) (λ_ _=>?_);refine go 7 ⟨O,?_⟩;exact Yh (i+1,_) ⟨O1,O8,by dsimp only;rw [show w+(i+1)=w+i+1 by omega];exact g,λj z=>by have I:w+(i+1)<j:=z;dsimp only;exact k j O,c,e⟩ O1 K1 K1
   .obtain rfl:b=0:=O;have c:=Ki a (w+i) (d:=o.getD (w+i) 0 ||| (dg U x).getD i 0*2^0%U) (kI (n:=64) (Qa Qh a _) (bR _ Qh));have g:(o.set (w+i) (o.getD (w+i) 0 ||| (dg U x).getD i 0*2^0%U)).getD (w+i+1) 0<2^0:=by rw [Nf O,aD O,l _ O];exact dQ 0
    have k:∀j,w+i+1<j->(o.set (w+i) (o.getD (w+i) 0 ||| (dg U x).getD i 0*2^0%U)).getD j 0=0:=λj z=>by rw [Nf O,aD O];exact l j O
    have e:=F O;rw [show(dg U x).getD i 0/2^(64-0)=0 from cN f]at e;have h:=Zn8 (o.set (w+i) (o.getD (w+i) 0 ||| (dg U x).getD i 0*2^0%U)) (w+i+1) (by rw [Nf O,aD O,l _ O]);rw [h]at e;refine go 7 ⟨O,?_⟩;exact Yh (i+1,_) ⟨O1,O8,by dsimp only;rw [show w+(i+1)=w+i+1 by omega];exact g,λj z=>by have I:w+(i+1)<j:=z;dsimp only;exact k j O,c,e⟩ O1 K1 K1
  .refine go 8 ?_;refine cl 2 [2] Oo λ_ _=>?_;refine Xf (Zba 2 J J pU)<|go 4 ?_;obtain rfl:i=(dg U x).length:=O;have P:tz o=dg U (x*2^s):=by rw [<-Ic Qb _ a];congr 1;rw [Mr U o O,bM (aI _),Mw Qb,Zdx,cY,<-bW,show b+64*w=s by omega]at H;exact H
   exact Xo D _ results293 J aA (gow 2 Za P)
theorem Yqk{s:Nat}(S:bl x<=8589934592)(hs:s<=8589934592):Cal prog 295 #[v,.int .i64 (s:Int)] [Dq v x] false (G:=Value) (λr=>True) (λr=>r) (λr=>[Dq r (x/2^s)]):=by
 refine Zh func295 ntmps295 λW V H F=>?_;obtain⟨w,m⟩:∃w,w=s/64:=⟨_,rfl⟩;obtain⟨b,k⟩:∃b,b=s%64:=⟨_,rfl⟩;have R:=Mt x;have P:((dg U x).drop w).length=(dg U x).length-w:=eD;refine go 8 ?_;refine dt (Zdl J J J)<|go 1 ?_;refine dt (Znd J J J)<|go 6 ?_;refine Zg (Kk 5 (v':= .int .i64 (w:Int)) J (by congr 1;omega))<|Zg (Kk 6 (v':= .int .i64 (b:Int)) J (by congr 1;omega))<|go 7 ?_;refine Ze J (λz=>?_) (λz=>?_)
 .refine go 7 ?_;refine Zs (Qy 9 1 232 Ld) ?_;have I:x/2^s=0:=by rw [Za8 m k,cN ((Xt Qb w x).1 O),Nat.zero_div]
  exact Xo F (.slice none 0 0) results295 J aA (gow 9 Za (by rw [I];rfl))
 .refine go 6 ?_;refine dt (d_suf (ii:=1) (i:=w) J J J J Zr Og Ig O O)<|Xf (s_suf 1 2 w J J O)<|tt (Zd3 3 (Yf8 (by simp only [eD];omega)) J J J K1 call309 (Zk 2 J J J Zn) J H.h) λv _=>go 3 ?_;refine jn (G:=List Nat) [7] [0,1,2] (λo=>[]) (λo=>[(3,Oa 1 232 Ld v o)]) (λo=>(o.length=(dg U x).length-w)/\(∀j,j<o.length->o.getD j 0=x/2^s/U^j%U)) ?_ ?_
  .refine go 6 ?_;refine Ze J (λB=>?_) (λB=>?_)
   .refine go 8 ?_;refine lp (G:=Nat×List Nat) [0,5,6,7,24] [0,1,2] (λq=>[(25,.int .i64 (q.1:Int))]) (λq=>[(3,Oa 1 232 Ld v q.2)]) (λq=>(q.1<=(dg U x).length-w)/\(q.2.length=(dg U x).length-w)/\(∀j,j<q.1->q.2.getD j 0=x/2^s/U^j%U)/\(∀j,q.1<=j->q.2.getD j 0=x/U^w/U^j%U)/\(∀d∈q.2,d<U)) (λq=>(dg U x).length-w-q.1) (0,(dg U x).drop w) ⟨bD _,O7,λj f=>absurd f (cI j),λj _=>Yct x w j,λd N=>Mb Qb x d (kT N)⟩ K1 K1 ?_;rintro⟨i,o⟩ ⟨hi,u,p,l,a⟩;dsimp only at hi u p l a;dsimp only;refine go 6 ?_;refine Ze J (λD=>?_) (λD=>?_)
    .refine go 17 ⟨O2,O2,?_⟩;refine dt (Zok J J (n:=b) J J)<|go 1 ⟨O2,?_⟩;refine tt (Kj 3 (enc:=Ld) J J J J J J pU J H.h O3 O2) (λ_ _=>?_);refine go 11 ⟨O,?_⟩;refine Ze J (λg=>?_) (λg=>?_)
     .simp only [bI]at g;have c:∀j,((o.set i (o.getD i 0/2^b)).set i ((o.set i (o.getD i 0/2^b)).getD i 0 ||| ((dg U x).getD (w+i+1) 0*2^(64-b))%U)).getD j 0=if i=j then x/2^s/U^i%U else o.getD j 0:=λj=>by
       rw [Nf O8,Nf O,Nf O];split
       .rw [aG rfl,l i (aI _),Hr Qb,Za8 m k,Zwg,show x/U^(w+i+1)=x/U^w/U^i/U by rw [aV,aV,<-bX,<-bW];rfl,Zt8 _ _ O]
       .rfl
      have h:=Ki (Ki a i (d:=o.getD i 0/2^b) (bA (eQ _ _) (Qa Qh a _))) i (d:=(o.set i (o.getD i 0/2^b)).getD i 0 ||| ((dg U x).getD (w+i+1) 0*2^(64-b))%U) (kI (n:=64) (Qa Qh (Ki a _ (bA (eQ _ _) (Qa Qh a _))) _) (bR _ Qh));refine Qf (λ_=>False) [(0,0),(1,0),(2,0),(3,0),(4,0),(5,0),(6,0),(7,0),(8,0),(9,0),(10,0),(11,0),(12,0),(13,0),(14,0),(15,0),(16,3)]<|go 9 ⟨O2,O2,O,O,?_⟩;refine Xj J J (Xq (Zv 1 (w+i+1) J J J J Zr Og Ig O O2))<|go 3 ⟨O2,O,?_⟩;refine Xj J J (Xq (Zol J J (n:=64-b) J O))<|Xj J J (Xq (Yof J J J (Qa Qh (Ki a _ (bA (eQ _ _) (Qa Qh a _))) _) (bR _ Qh)))<|go 1 ⟨O2,?_⟩;refine r3' J (Kj 3 (enc:=Ld) J J J J J J pU J H.h O3 O2) (λ_ _=>?_);refine go 7 ⟨O,?_⟩;exact Yh (i+1,_) ⟨O1,O8,λj f=>by dsimp only;rw [c j];split;(· rename_i e;rw [<-e]);exact p j (by have:j<i+1:=f;omega),λj f=>by dsimp only;rw [c j,aD (by have:i+1<=j:=f;omega)];exact l j (by have:i+1<=j:=f;omega),h⟩ O1 K1 K1
     .have c:∀j,(o.set i (o.getD i 0/2^b)).getD j 0=if i=j then x/2^s/U^i%U else o.getD j 0:=λj=>by
       rw [Nf O];split
       .rw [l i (aI _),Za8 m k,Zwg,Yem O];rw [aV,<-bX];exact cN (Ybz (by simp only [bI]at g;omega))
       .rfl
      have h:=Ki a i (d:=o.getD i 0/2^b) (bA (eQ _ _) (Qa Qh a _));refine go 7 ⟨O,?_⟩;exact Yh (i+1,_) ⟨O1,O8,λj f=>by dsimp only;rw [c j];split;(· rename_i e;rw [<-e]);exact p j (by have:j<i+1:=f;omega),λj f=>by dsimp only;rw [c j,aD (by have:i+1<=j:=f;omega)];exact l j (by have:i+1<=j:=f;omega),h⟩ O1 K1 K1
    .refine go 4 ?_;exact Od _ ⟨O,by intro j f;rw [p j O]⟩ aA K1
   .refine go 1 ?_;exact Od _ ⟨O7,by intro j f;rw [Yct,Za8 m k,show b=0 by omega,fL,nN]⟩ aA K1
  .rintro o ⟨u,Q⟩;refine go 3 ?_;refine cl 3 [3] Oo λ_ _=>?_;refine Xf (Zba 3 J J pU)<|go 4 ?_;have M:tz o=dg U (x/2^s):=Zxj Qb Q (by rw [u,Za8 m k];exact bA (eQ _ _) (Ybz O));exact Xo F _ results295 J aA (gow 3 Za M)
theorem Zpg(z:bl x<=4294967296:=by omega):Qd prog 233 #[v] [Dq v x] (.string (Qp x)):=by
 refine Zh func233 ntmps233 λD B h g=>?_;have u:=Mt x;have p:=Zip x;have r:=lenU x;have m:(List.replicate (dg 256 x).length (0:Nat)).length=(dg 256 x).length:=aT;refine go 8 ?_;refine cl 1 [1] Zmi λ_ _=>?_;refine go 1 ⟨O,?_⟩;refine dt (Zdl J J J)<|tt (Hi 2 ((dg 256 x).length) 1 (enc:=Zj0) 0 J J J J Zi3 ti5 J pB.cells pB.pos J J J h.h) λv _=>go 12 ?_;refine lp (G:=Nat×List Nat) [0,3,12] [0,1] (λq=>[(13,.int .i64 (q.1:Int))]) (λq=>[(2,Oa 1 5 Zj0 v q.2)]) (λq=>(q.1<=(dg 256 x).length)/\(q.2.length=(dg 256 x).length)/\(∀j,j<q.1->q.2.getD j 0=x/256^((dg 256 x).length-1-j)%256)) (λq=>(dg 256 x).length-q.1) (0,List.replicate (dg 256 x).length 0) ⟨O1,O7,λj d=>absurd d (cI j)⟩ K1 K1 ?_;rintro⟨i,o⟩ ⟨hi,f,b⟩;dsimp only at hi f b;dsimp only;refine go 6 ?_;refine Ze J (λc=>?_) (λc=>?_)
 .refine go 20 ⟨O,O,?_⟩;refine Zg (Kk 5 (v':= .int .i64 (((dg 256 x).length-1-i:Nat):Int)) J (by congr 1;omega)) ?_;have a:=Zs3 x ((dg 256 x).length-1-i);rw [<-Hr Qb]at a;refine go 5 ?_;refine dt (Zdl J J J)<|dt (Zv 1 (((dg 256 x).length-1-i)/8) J J J J Zr Og Ig)<|go 2 ⟨O,?_⟩;refine dt (Znd J J J)<|go 1 ⟨O,?_⟩;refine dt (Zok J J (n:=((dg 256 x).length-1-i)%8*8) J O)<|dt (Ze8 J J Za5 uT5)<|go 1 ⟨O2,?_⟩;refine tt (Kj 2 (enc:=Zj0) J J J J J J pB J h.h O3 O2) (λ_ _=>?_);refine go 7 ⟨O,?_⟩;exact Yh (i+1,_) ⟨O1,O8,λj d=>by dsimp only;rw [Nf O];split;(· rename_i e;rw [<-e];exact a);exact b j O⟩ O1 K1 K1
 .refine go 8 ?_;refine dt (d_b2s J J (i:=2) J (Yb pB) Zi3 uT9 uT5)<|go 4 ?_;have k:Qp x=⟨(o.map UInt8.ofNat).toArray⟩:=by
   have l:o=(dg 256 x).reverse:=by refine Zfo O8 (λj d=>?_);rw [b j O,Zrw O,Hr O]
   rw [l];rfl
  exact Xo g () results233 (by rw [k]) aA Za
theorem Zd0(H:bl x<=4294967296:=by omega):Cal prog 219 #[.string (Qp x)] [] false (G:=Value) (λr=>True) (λr=>r) (λr=>[Dq r x]):=by
 refine Zh func219 ntmps219 λM I b m=>?_;have F:=Mt x;have B:=Zip x;have D:=lenU x;have p:=Ee x;refine go 10 ⟨O,?_⟩;refine dt (Zdl J J J)<|tt (Hi 1 ((dg U x).length) 8 (enc:=Ld) 0 J J J J Og ti232 J pU.cells pU.pos J J J b.h) λv _=>go 12 ?_;refine lp (G:=Nat×List Nat) [0,3,12] [0] (λq=>[(13,.int .i64 (q.1:Int))]) (λq=>[(1,Oa 1 232 Ld v q.2)]) (λq=>(q.1<=(dg 256 x).length)/\(q.2.length=(dg U x).length)/\(∀w,w<q.2.length->q.2.getD w 0=hi x ((dg 256 x).length-q.1) w)) (λq=>(dg 256 x).length-q.1) (0,List.replicate (dg U x).length 0) ⟨O1,O7,λw b=>by dsimp only at *;rw [aT]at b;rw [Iu,hi_top O]⟩ K1 K1 ?_;rintro⟨i,o⟩ ⟨l,f,a⟩;dsimp only at l f a;dsimp only;refine go 6 ?_;refine Ze J (λk=>?_) (λk=>?_)
 .refine go 20 ⟨O,O,?_⟩;refine Zg (Kk 5 (v':= .int .i64 (((dg 256 x).length-1-i:Nat):Int)) J (by congr 1;omega)) ?_;have c:=Zno x i O;have h:=a (((dg 256 x).length-1-i)/8) O;have d:o.getD (((dg 256 x).length-1-i)/8) 0<U:=by rw [h];exact bR _ Qh
  have g:∀w,w<o.length->(o.set (((dg 256 x).length-1-i)/8) (o.getD (((dg 256 x).length-1-i)/8) 0 ||| (((Qp x).data.toList.getD i 0).toNat*2^(((dg 256 x).length-1-i)%8*8))%U)).getD w 0=hi x ((dg 256 x).length-(i+1)) w:=λw b=>by
   rw [c,h,show(dg 256 x).length-i=(dg 256 x).length-1-i+1 by omega,Yq0,Nf O,show(dg 256 x).length-(i+1)=(dg 256 x).length-1-i by omega];split
   .rename_i e;rw [e]
   .rename_i e;rw [a w b,show(dg 256 x).length-i=(dg 256 x).length-1-i+1 by omega];exact Yk6 e
  refine Qf (λ_=>False) [(0,0),(1,0),(2,0),(3,0),(4,0),(5,0),(6,0),(7,0),(8,0),(9,0),(10,0),(11,0),(12,0),(13,0),(14,0),(15,3)]<|go 2 ?_;refine Xj J J (Xq (Zdl J J J))<|Xj J J (Xq (Zv 1 (((dg 256 x).length-1-i)/8) J J J J (Yb pU) Og Ig))<|go 3 ⟨O2,?_⟩;refine Xj J J (Xq (Ycz J J J uT9 J))<|Xj J J (Xq (Zsl J J uT5 Za5 (by have:=(((Qp x).data.toList.getD i 0).toNat_lt);simp only [U];omega)))<|go 1 ?_;refine Xj J J (Xq (Znd J J J))<|go 1 ⟨O,?_⟩;refine Xj J J (Xq (Zol J J (n:=((dg 256 x).length-1-i)%8*8) J O))<|Xj J J (Xq (Yof J J J d (bR _ Qh)))<|Xj J J (Xq (Zv 1 (((dg 256 x).length-1-i)/8) J J J J (Yb pU) Og Ig))<|r3' J (Kj 1 (enc:=Ld) J J J J J J pU J b.h O3 O2) (λ_ _=>?_);refine go 7 ⟨O,?_⟩;exact Yh (i+1,_) ⟨O1,O8,λw b=>g w (by simpa using b)⟩ O1 K1 K1
 .refine go 12 ?_;have z:o=dg U x:=Zfo f (λj u=>by rw [a j u,Hr Qb,Yk8 O]);exact Xo m _ results219 J aA (gow 1 Za z)
theorem Ybr(hx:bl x<=4000000000)(e2:bl y<=4000000000)(hy:0<y):Cal prog 267 #[v,w] [Dq v x,Dq w y] true (G:=Value×Value) (λr=>True) (λr=> .tuple #[r.1,r.2]) (λr=>[Dq r.1 (x/y),Dq r.2 (x%y)]):=by
 refine Zh func267 ntmps267 λw0 sc p S=>?_;have hX:=Mt x;have hY:=Mt y;refine go 11 ?_;refine cl 2 [1,2] (Zc9 O O) λr hr=>go 3 ?_;refine Ze J (λW=>?_) (λW=>?_)
 .have o:x<y:=hr.1.1 O;refine go 9 ?_;exact Zs (Qy 9 1 232 Ld)<|Nx S (.slice none 0 0,v) results267 J aA (gow 9 (Ps 1 Za (by rw [aX o])) (by rw [cN o];rfl))
 .have c6:y<=x:=by have:=hr.1;omega
  have e1:=Of c6;refine go 10 ?_;refine Ze J (λY=>?_) (λY=>?_)
  .have V:y<U:=by have:=(Xt Qb 1 y).1 O;simpa using this
   have m:(dg U y).getD 0 0=y:=by rw [Hr Qb];simp [aX V]
   refine go 6 ⟨O,O2,?_⟩;refine cl 3 [1] (Yfc O (by rw [m];exact hy) (by rw [m];exact V)) λv _=>go 11 ?_;refine tt (Xv [(0,_)] 4 (enc:=Ld) [x%(dg U y).getD 0 0] J J K2 Og ti232 J J J J J pU.cells J J p.h) λe4 _=>cl 4 [4] Oo λ_ _=>?_;refine Xf (Zba 4 J J pU)<|go 6 ?_;exact Nx S (_,_) results267 J aA (Ps 3 (gow 4 Za (by rw [Zh2 (jU (bR _ (by rw [m];exact hy)) (by rw [m];exact V)),m])) (by rw [m]<;>rfl))
  .refine go 3 ?_;obtain⟨k,hk⟩:∃k,k=(dg U y).length:=⟨_,rfl⟩;have e0:k<=(dg U x).length:=O;obtain⟨b,hb⟩:∃b,b=64-bl ((dg U y).getD (k-1) 0):=⟨_,rfl⟩;obtain⟨b4,_,b3,a4,b1,H⟩:=Yqh hy hk hb;obtain⟨D,c⟩:∃D,D=y*2^b:=⟨_,rfl⟩;have c7:(dg U D).length=k:=by rw [c];exact b4
   have a3:D<U^k:=by rw [c];exact a4
   have a2:U^(k-1)*9223372036854775808<=D:=by rw [c];exact H
   have l:0<D:=by rw [c];exact gI hy (dQ b)
   have d9:bl D<=4000000064:=by rw [c,Zzo hy];omega
   refine go 5 ⟨O,?_⟩;refine dt (Zv 2 ((dg U y).length-1) J J J J Zr Og Ig)<|go 1 ⟨O2,?_⟩;refine cl 4 [] (Ztc (Qa Qh (Mb Qb y) _)) λ_ _=>?_;refine Xf (Kk 44 (v':= .int .i64 (b:Int)) J (by rw [hb,hk]))<|go 3 ?_;refine jn (G:=Value×Value) [0,8] [0,1,2] (λq=>[(9,q.1),(10,q.2)]) (λq=>[(81,Dq q.1 D),(82,Oa 1 232 Ld q.2 (List.replicate ((dg U x).length+1) 0))]) (λq=>True) ?_ ?_
   .refine Ku (λ_=>False) [8]<|Zj 4 [(0,0),(1,0),(3,0),(4,0),(5,0)]<|go 6 ⟨O,?_⟩;refine Qw 3 2 6 ?_ ?_
    .refine Ot (Zm 81 [2] Zrh) λe5 _=>?_;refine Zj 0 [(7,0),(6,1),(8,3)]<|go 1 ?_;refine Kr J (Hi 82 ((dg U x).length+1) 8 (enc:=Ld) 0 J J J J Og ti232 J pU.cells pU.pos J J J p.h) λe6 _=>go 2 ?_;exact Zt<|Od (_,_) aA K2 ⟨by rw [c];rfl,rfl,aA⟩
    .refine Kl J J (Hi 82 ((dg U x).length+1) 8 (enc:=Ld) 0 J J J J Og ti232 J pU.cells pU.pos J J J p.h) (λe7 _=>?_);refine Zj 0 [(2,1),(7,0),(8,3)]<|Yw (Zm 81 [2] Zrh) λe8 _=>go 3 ?_;exact Zt<|Od (_,_) aA K2 ⟨by rw [c];rfl,rfl,aA⟩
   .rintro⟨vd,vr⟩ -;dsimp only;refine go 1 ?_;have c9:(dg U (x*2^b)).length<=(dg U x).length+1:=(Xt Qb _ _).2 (by rw [bX];exact jN ((Xt Qb _ x).1 (aI _)) (by rw [Ynx];exact dK O O) Qh);refine go 4 ?_;refine cl 5 [1] Zrh λe9 _=>?_;refine tt (t_cpy 82 5 0 J J J J J J O3 J Zr Yl2 (by rw [aT];exact c9) (by rw [aT];omega) (by rw [aT];omega) Og pU J p.h) λ_ _=>go 3 ?_;have a6:(spl (List.replicate ((dg U x).length+1) 0) 0 (dg U (x*2^b))).length=(dg U x).length+1:=by rw [He (by rw [aT];omega),aT]
    refine go 7 ?_;have d4:(List.replicate ((dg U x).length+1-k) (0:Nat)).length=(dg U x).length+1-k:=aT;refine Zg (Kk 11 (v':= .int .i64 (k:Int)) J (by rw [c7]))<|go 5 ⟨O,?_⟩;refine tt (Hi 6 ((dg U x).length+1-k) 8 (enc:=Ld) 0 J J J J Og ti232 J pU.cells pU.pos J J J p.h) (λd3 _=>?_);refine go 13 ⟨O,?_⟩;refine lp (G:=Nat×List Nat×List Nat) [8,9,10,11,12] [0,81,1,2,5] (λq=>[(13,.int .i64 ((q.1:Int)-1))]) (λq=>[(82,Oa 1 232 Ld vr q.2.1),(6,Oa 1 232 Ld d3 q.2.2)]) (λq=>(q.1<=(dg U x).length+1-k)/\(q.2.1.length=(dg U x).length+1)/\(∀d∈q.2.1,d<U)/\(q.2.2.length=(dg U x).length+1-k)/\(∀d∈q.2.2,d<U)/\(Yn U q.2.1<D*U^q.1)/\(Yn U (q.2.2.drop q.1)*U^q.1*D+Yn U q.2.1=x*2^b)) (λq=>q.1) ((dg U x).length+1-k,spl (List.replicate ((dg U x).length+1) 0) 0 (dg U (x*2^b)),List.replicate ((dg U x).length+1-k) 0) ⟨aI _,a6,Ztg (Nl Qh) (Mb Qb _) 0,O7,Nl Qh,by rw [Ztr,Mw Qb];exact Yl6 ((Xt Qb _ x).1 (aI _)) b1 b3 O a2,by rw [Ztr,Mw Qb];simp [Yn]⟩ ⟨by rw [aT];rfl,aA⟩ K2 ?_;rintro⟨a,R,q⟩ ⟨hj,a7,e,d0,Q,M,hN⟩;dsimp only at hj a7 e d0 Q M hN;dsimp only;refine go 7 ?_;refine Ze J (λZ=>?_) (λZ=>?_)
    .refine go 5 ?_;have P:Yn U R<U^(a-1+k+1):=by refine dG M ?_;rw [show a-1+k+1=k+a by omega,bW];exact aJ _ (eE a3)
     have u:tz ((R.drop (a-1)).take (a-1+k+1-(a-1)))=dg U (Yn U R/U^(a-1)):=Yn8 e O (by rw [show a-1+(a-1+k+1-(a-1))=a-1+k+1 by omega];exact P);have a9:Yn U R/U^(a-1)<D*U:=by rw [cF (cH Qh),cY,<-nV,show(a-1).succ=a by omega];exact M
     have b0:bl (Yn U R/U^(a-1))<=4294967296:=by have h1:=Of (eE a9);have h2:=Znt D U;have h3:bl U<=65:=(Qo 65 U).2 (by simp [U]);omega
     have b7:=Yol e (j:=a-1) b3 P O;have b9:(dg U D).getD (k-1) 0*U^(k-1)<=D:=by rw [Hr Qb];exact aB (aJ _ (Nat.mod_le _ _)) (nR _ _)
     have c2:Yn U R/U^(a-1)/D<=18446744073709551615:=by have:=(cF l).2 (show _<U*D by rw [aO];exact a9);simp only [U]at this ⊢;omega
     refine go 4 ?_;refine jn (G:=Nat) [8,9,10,11,12,13] [0,82,6,81,1,2,5] (λg=>[(14,.int .u64 (g:Int))]) (λg=>[]) (λg=>(Yn U R/U^(a-1)/D<=g)/\(g<U)) ?_ ?_
     .refine go 1 ?_;refine Qf (λ_=>False) [(0,0),(1,0),(2,0),(3,0),(4,0),(5,0),(6,0),(7,0),(8,0),(9,0),(10,0),(11,0)]<|go 4 ⟨O,?_⟩;refine Xj J J (Xq (Zv 82 (a-1+k) J J J J (Yb pU) Og Ig))<|go 4 ⟨O2,O,?_⟩;refine Xj J J (Xq (Zv 81 (k-1) J J J J Zr Og Ig))<|go 4 ⟨O2,?_⟩;refine Ze J (λa0=>?_) (λa0=>?_)
      .refine Qf (λ_=>False) [(0,0),(1,0),(2,0),(3,0),(4,0),(5,0),(6,0),(7,0),(8,0),(9,0),(10,0),(11,0),(12,0),(13,0),(14,0),(15,0),(16,0),(17,0),(18,1),(19,0),(20,0),(21,0),(22,0)]<|go 4 ⟨O,?_⟩;refine Xj J J (Xq (Zv 82 (a-1+k) J J J J (Yb pU) Og Ig))<|go 6 ⟨O2,O,O,?_⟩;refine Xj J J (Xq (Zv 82 (a-1+k-1) J J J J (Yb pU) Og Ig))<|go 4 ⟨O2,O,?_⟩;refine Xj J J (Xq (Zv 81 (k-1) J J J J Zr Og Ig))<|go 1 ⟨O2,?_⟩;refine Yw (Zm 6 [] (Zw8 (Qa Qh e _) (Qa Qh (Mb Qb _) _) O)) λ_ _=>go 5 ?_;exact Od _ ⟨Yk9 b9 O b7,Zwd (Qa Qh e _) O⟩ K1 aA
      .refine go 1 ?_;exact Od 18446744073709551615 ⟨c2,O3⟩ K1 aA
     .rintro g ⟨hg,f⟩;refine go 8 ⟨O,O,?_⟩;refine dt (d_mid (ii:=82) (i:=a-1) (j:=a-1+k+1) J J J J J (Yb pU) Og Ig O O O O)<|go 7 ?_;refine tt (Xv [(0,_)] 7 (enc:=Ld) [g] J J K2 Og ti232 J J J J J pU.cells J J p.h) λf0 _=>cl 7 [7] Oo λ_ _=>?_;refine Xf (Zba 7 J J pU)<|Xf (Zez 7 (Zh2 f) J J)<|cl 83 [81,7] (Ybq O (aB ((Qo 64 g).2 f) O)) λd5 _=>go 5 ?_;refine lp (G:=Nat×Value) [8,9,10,11,12,13,15] [0,82,6,81,1,2,5,7] (λq=>[(14,.int .u64 (q.1:Int)),(16,q.2)]) (λq=>[(83,Dq q.2 (D*q.1))]) (λq=>(Yn U R/U^(a-1)/D<=q.1)/\(q.1<U)) (λq=>q.1) (g,_) ⟨O1,O1⟩ ⟨J,J,aA⟩ ⟨J,aA⟩ ?_;rintro⟨g,vp⟩ ⟨hg,f⟩;dsimp only at hg f;dsimp only;have a5:bl (D*g)<=4294967296:=by have h1:=Znt D g;have h2:=(Qo 64 g).2 f;omega
      refine go 4 ?_;refine tt (Xc 7 Oo J J J K1 call183 (Zeb 82 J J pU (Zke (a-1) (a-1+k+1)) Zk1 Zn) J p.h) λ_ _=>go 1 ?_;refine tt (Xc 7 (Zc9 b0 a5) J J J K2 call223 (Zeb 82 J J pU (Yij u (by rw [u]) (Zke (a-1) (a-1+k+1))) (by rw [Fa];exact(Zk1)) (Zk 83 J J J Zn)) J p.h) λe3 B=>go 3 ?_;refine Ze J (λa1=>?_) (λa1=>?_)
      .have o:Yn U R/U^(a-1)<D*g:=B.1.1 O;have b2:1<=g:=by rcases aW g with h|h;(rw [h,iG]at o;exact absurd o (cI _));exact h
       have b8:D<=D*g:=dW _ b2;have c3:Yn U R/U^(a-1)/D<=g-1:=by have:=(cF l).2 (show _<g*D by rw [aO];exact o);omega
       refine go 6 ?_;refine dt (Zex (n:=1) J J J)<|go 3 ?_;refine Zg (Kk 14 (v':= .int .u64 ((g-1:Nat):Int)) J (Zby (Zwm b2 f)))<|go 3 ?_;refine cl 8 [83,81] (Zgv a5 b8) λd6 _=>go 3 ?_;exact Zs (Xu 8 83 J J J)<|Yh (g-1,_) ⟨c3,O9⟩ O1 K2 ⟨by rw [Nat.mul_sub_one];rfl,aA⟩
      .refine go 6 ?_;have hQ:g=Yn U R/U^(a-1)/D:=by have h1:=B.1;have h2:D*g<=Yn U R/U^(a-1):=O;exact jZ ((jC l).2 (by rw [aO];exact h2)) hg
       refine go 2 ?_;refine tt (Xc 8 Oo J J J K1 call183 (Zeb 82 J J pU (Zke (a-1) (a-1+k+1)) Zk1 Zn) J p.h) λ_ _=>go 1 ?_;refine tt (Xc 9 (Zgv b0) J J J K2 call224 (Zeb 82 J J pU (Yij u (by rw [u]) (Zke (a-1) (a-1+k+1))) (by rw [Fa];exact(Zk1)) (Zk 83 J J J Zn)) J p.h) λd7 _=>go 4 ?_;have b5:(dg U (Yn U R/U^(a-1)-D*g)).length<=a-1+k+1-(a-1):=by
        have:Yn U R/U^(a-1)-D*g<D:=by rw [hQ];have h3:=cD (Yn U R/U^(a-1)) D;have h4:=bR (Yn U R/U^(a-1)) l;omega
        have:=(Xt Qb k _).2 (jU this a3);omega
       refine go 2 ?_;refine tt (t_clr (zv:= .bool false) (i:=82) (z:=0) (a-1) J J J J O3 (Ycr O) O O Og pU (λw=>zeroValue232 w) J J p.h) λ_ _=>go 6 ?_;refine tt (t_cpy 82 9 (a-1) J J J J J J O3 J Zr (Ycr (by rw [He (by rw [aT];omega)];omega)) b5 (by rw [He (by rw [aT];omega)];omega) (by rw [He (by rw [aT];omega)];omega) Og pU J p.h) λ_ _=>go 2 ?_;have c0:a-1+(List.replicate (a-1+k+1-(a-1)) 0).length<=R.length:=by rw [aT];omega
       have c8:=He (xs:=R) (lo:=a-1) c0;have c1:a-1+(dg U (Yn U R/U^(a-1)-D*g)).length<=(spl R (a-1) (List.replicate (a-1+k+1-(a-1)) 0)).length:=O;have F:=Yoe e (j:=a-1) (n:=a-1+k+1-(a-1)) O (by rw [show a-1+(a-1+k+1-(a-1))=a-1+k+1 by omega];exact P) b5;rw [Mw Qb]at F;have b6:=Yl4 (j:=a-1) (N:=x*2^b) (Vq:=Yn U (q.drop a)) l hQ (by rw [show a-1+1=a by omega];exact hN);have a8:=b6.1;have I:=b6.2;rw [<-F]at a8 I;have c5:Yn U ((q.set (a-1) g).drop (a-1))=g+U*Yn U (q.drop a):=by rw [drop_set O,show a-1+1=a by omega];rfl
       rw [<-c5]at I;refine go 4 ?_;refine dt (Zv 6 (a-1) J J J J (Yb pU) Og Ig)<|tt (Kj 6 (enc:=Ld) J J J J J J pU J p.h O3 O2) (λ_ _=>?_);refine go 8 ⟨O,?_⟩;exact Yh (a-1,_,_) ⟨O1,(He c1).trans (c8.trans a7),Ztg (Ztg e (Nl Qh) _) (Mb Qb _) _,O8,Ki Q _ f,a8,I⟩ O1 ⟨by rw [show(((a-1:Nat):Int)-1)=(a:Int)-1-1 by omega];rfl,aA⟩ K2
    .refine go 6 ?_;obtain rfl:a=0:=O;rw [fL,jO]at M;have c4:bl (Yn U R)<=8589934592:=by have:=Of (eE M);omega
     refine go 2 ?_;refine cl 9 [6] Oo λ_ _=>?_;refine Xf (Zba 6 J J pU)<|go 1 ?_;refine cl 9 [82] Oo λ_ _=>?_;refine Xf (Zba 82 J J pU)<|Xf (Zez 82 (Ic Qb R e).symm J J)<|go 1 ?_;refine cl 10 [82] (Yqk c4 O) λd8 _=>go 5 ?_;rw [gV,fL,jO]at hN;have d1:tz q=dg U (x/y):=by rw [<-Ic Qb _ Q,<-Zow x y b,<-c,<-hN,aO,gO l,cN M,eH]
     have d2:Yn U R/2^b=x%y:=by rw [<-Zov x y b,<-c,<-hN,aO,iB,aX M]
     exact Nx S (_,_) results267 J aA (gow 6 (Ps 10 Za (by rw [d2])) d1)
theorem Zri(l:bl x<=4000000000:=by omega)(m:bl y<=4000000000:=by omega):Cal prog 217 #[v,w] [Dq v x,Dq w y] true (G:=Value) (λr=>True) (λr=>r) (λr=>[Dq r (Nat.gcd x y)]):=by
 refine Zh func217 ntmps217 λD u p j=>?_;have n:=Mt x;have o:=Mt y;refine go 7 ?_;refine Zg (Xu 1 91 J J J)<|Zg (Xu 2 92 J J J)<|lp (G:=Value×Value×Nat×Nat) [] [0,1,2] (λq=>[(0,q.1),(1,q.2.1)]) (λq=>[(91,Dq q.1 q.2.2.1),(92,Dq q.2.1 q.2.2.2)]) (λq=>(Nat.gcd q.2.2.1 q.2.2.2=Nat.gcd x y)/\(bl q.2.2.1<=4000000000)/\(bl q.2.2.2<=4000000000)) (λq=>q.2.2.2) (v,w,x,y) ⟨J,l,m⟩ K2 K2 ?_;rintro⟨z,B,a,b⟩ ⟨i,k,f⟩;dsimp only at i k f;dsimp only;refine go 8 ?_;refine Ze J (λd=>?_) (λd=>?_)
 .have c:0<b:=by rcases aW b with h|h;(subst h;simp [Gr]at d);exact h
  refine go 7 ?_;refine cl 3 [91,92] (Ybr k f c) λg _=>go 14 ?_;have e:a%b<b:=bR _ c;exact Zs (Xu 92 91 J J J)<|Zs (Xu 4 92 J J J)<|Yh (_,_,b,a%b) ⟨by dsimp only;rw [<-i,mT b,<-Nat.gcd_rec,mT],f,aB (Of (eE e)) f⟩ e K2 K2
 .have c:b=0:=(Oi Qb b).1 O;refine go 12 ?_;exact Xo j _ results217 J aA (Ps 91 Za (by rw [<-i,c,oA]))
theorem Zre{x:Int}(hs:sg s x):Cal prog 235 #[.agg #[.bool s,v]] [Dq v x.natAbs] true (G:=Bool×Value) (λr=>sg r.1 (-x)) (λr=> .agg #[.bool r.1,r.2]) (λr=>[Dq r.2 (-x).natAbs]):=by refine Zh func235 ntmps235 λg f e c=>go 2 ?_;refine Ym (Yr 2) λb _=>Ym (Ya 3) λd _=>go 9 ?_;refine dt (Qv [(0,_),(1,_)] J K4 (λa w hs=>Ip ((Yj J) a w hs) ((On 1 J Zr) a w hs)))<|go 4 ?_;exact Xo c (!s,v) results235 J (Yhz hs) (Ps 1 Za (by rw [eC]))
theorem Zef{x y:Int}(hs:sg s x)(f:sg t y)(g:bl x.natAbs<=4294967296:=by omega)(h:bl y.natAbs<=4294967296:=by omega):Cal prog 167 #[.agg #[.bool s,v],.agg #[.bool t,w]] [Dq v x.natAbs,Dq w y.natAbs] true (G:=Bool×Value) (λr=>sg r.1 (x*y)) (λr=> .agg #[.bool r.1,r.2]) (λr=>[Dq r.2 (x*y).natAbs]):=by refine Zh func167 ntmps167 λk j i c=>go 2 ?_;refine Ym (Yr 3) λb _=>Ym (Yr 4) λd _=>Ym (Ya 5) λe _=>go 3 ?_;refine Qf (λ_=>False) [(0,0),(1,0),(2,0),(3,0),(4,0),(5,0),(6,0),(7,0),(8,0),(9,1),(10,0),(11,3)]<|go 9 ?_;refine Yw (Zm 6 [1,2] (Ybq g h)) λv _=>?_;refine Xj J J (Xq (Qv [(0,_),(1,_)] J K4 (λa w hs=>Ip ((Yj J) a w hs) ((On 6 J Zr) a w hs))))<|go 4 ?_;exact Xo c (_,_) results167 J (Yh0 hs f) (Ps 6 Za (by rw [cJ]))
theorem Zmg{x:Int}(hs:sg s x)(g:bl x.natAbs<=4294967296:=by omega):Cal prog 236 #[.agg #[.bool s,v]] [Dq v x.natAbs] true (G:=Unit) (λ_=>True) (λ_=> .int .i64 x.sign) (λ_=>[]):=by
 refine Zh func236 ntmps236 λi h f d=>?_;have e:=Mt x.natAbs;refine go 2 ?_;refine Ym (Yr 2) λb _=>go 14 ?_;refine Ze J (λa=>?_) (λa=>?_)
 .refine go 8 ?_;exact Xo d () results236 (Yel a) aA Za
 .refine go 7 ?_;refine Md J (λc=>?_) (λc=>?_)
  .refine go 8 ?_;exact Xo d () results236 (Yhu hs c a) aA Za
  .refine go 9 ?_;exact Xo d () results236 (Yht hs c a) aA Za
theorem Zgt{x y:Int}(hs:sg s x)(g:sg t y)(i:bl x.natAbs<=4294967296:=by omega)(j:bl y.natAbs<=4294967296:=by omega):Cal prog 170 #[.agg #[.bool s,v],.agg #[.bool t,w]] [Dq v x.natAbs,Dq w y.natAbs] true (G:=Bool×Value) (λr=>sg r.1 (x+y)) (λr=> .agg #[.bool r.1,r.2]) (λr=>[Dq r.2 (x+y).natAbs]):=by
 refine Zh func170 ntmps170 λu q p f=>go 2 ?_;refine Ym (Yr 3) λb _=>Ym (Yr 4) λl _=>Ym (Ya 5) λm _=>go 14 ?_;refine Md J (λd=>?_) (λd=>?_)
 .have c:s=t:=by simpa using d
  refine go 1 ?_;refine Qf (λ_=>False) [(0,0),(1,0),(2,0),(3,0),(4,0),(5,0),(6,1),(7,0),(8,3)]<|go 6 ?_;refine Yw (Zm 6 [1,2] (Ybs i j)) λv _=>?_;refine Xj J J (Xq (Qv [(0,_),(1,_)] J K4 (λa w hs=>Ip ((Yj J) a w hs) ((On 6 J Zr) a w hs))))<|go 6 ?_;exact Xo f (_,_) results170 J (Yak hs (c▸g)) (Ps 6 Za (by rw [Zhu hs (c▸g)]))
 .have c:s≠t:=by simpa using d
  refine go 6 ?_;refine cl 6 [1,2] (Zc9 i j) λr k=>go 4 ?_;refine Ze J (λh=>?_) (λh=>?_)
  .have e:y.natAbs<=x.natAbs:=by have:=k.1;omega
   refine go 1 ?_;refine Qf (λ_=>False) [(0,0),(1,0),(2,0),(3,0),(4,0),(5,0),(6,1),(7,0),(8,3)]<|go 6 ?_;refine Yw (Zm 7 [1,2] (Zgv i)) λn _=>?_;refine Xj J J (Xq (Qv [(0,_),(1,_)] J K4 (λa w hs=>Ip ((Yj J) a w hs) ((On 7 J Zr) a w hs))))<|go 6 ?_;exact Xo f (_,_) results170 J (Zj9 hs g c e) (Ps 7 Za (by rw [Zbs hs g c e]))
  .have e:x.natAbs<=y.natAbs:=by have:=k.1;omega
   refine go 4 ?_;refine Qf (λ_=>False) [(0,0),(1,0),(2,0),(3,0),(4,0),(5,0),(6,1),(7,0),(8,3)]<|go 6 ?_;refine Yw (Zm 8 [2,1] (Zgv j)) λo _=>?_;refine Xj J J (Xq (Qv [(0,_),(1,_)] J K4 (λa w hs=>Ip ((Yj J) a w hs) ((On 8 J Zr) a w hs))))<|go 4 ?_;exact Xo f (_,_) results170 J (by rw [jS];exact Zj9 g hs (iL c) e) (Ps 8 Za (by rw [jS,Zbs g hs (iL c) e]))
theorem Nh{x:Int}(hs:sg s x)(e:bl x.natAbs<=4294967296:=by omega):Cal prog 166 #[.agg #[.bool s,.string (Qp x.natAbs)]] [] true (G:=Bool×Value) (λr=>sg r.1 x) (λr=> .agg #[.bool r.1,r.2]) (λr=>[Dq r.2 x.natAbs]):=by refine Zh func166 ntmps166 λh g f c=>go 2 ?_;refine Ym (Yr 1) λb _=>Ym (Ya 2) λd _=>go 3 ?_;refine Qf (λ_=>False) [(0,0),(1,0),(2,0),(3,0),(4,1),(5,0),(6,3)]<|go 4 ?_;refine Yw (Zm 3 [] (Zd0 e)) λv _=>?_;refine Xj J J (Xq (Qv [(0,_),(1,_)] J K4 (λa w hs=>Ip ((Yj J) a w hs) ((On 3 J Zr) a w hs))))<|go 4 ?_;exact Xo c (_,_) results166 J hs (Ps 3 Za J)
theorem Gc{x:Int}(hs:sg s x)(g:bl x.natAbs<=4294967296:=by omega):Qd prog 184 #[.agg #[.bool s,v]] [Dq v x.natAbs] (Zcu x):=by
 refine Zh func184 ntmps184 λi h f d=>go 2 ?_;refine Ym (Yr 2) λb _=>Ym (Ya 3) λe _=>go 8 ?_;refine cl 3 [1] Zmi λ_ _=>go 3 ?_;refine Ze J (λc=>?_) (λc=>?_)
 .refine go 2 ?_;refine dt (Qv [] J aA (λa w hs=>b80_))<|go 6 ?_;exact Nx d () results184 (Yd6 c) aA Za
 .refine go 3 ?_;cases s
  .refine Qf (λ_=>False) [(0,0),(1,0),(2,0),(3,2),(4,2),(5,2),(6,2),(7,0),(8,0),(9,0),(10,1),(11,0),(12,3),(13,3)]<|go 10 ?_;refine Yw (Zm 3 [1] Zpg) λ_ _=>?_;refine Xj J J (Xq (Qv [(0,_),(1,_)] J K4 (λa w hs=>Zzr ((Yj J) a w hs) ((Yj J) a w hs))))<|go 5 ?_;exact Nx d () results184 (by first|exact Ztm hs c|exact Ztl hs c) aA Za
  .refine Qf (λ_=>False) [(0,0),(1,0),(2,0),(3,0),(4,0),(5,0),(6,0),(7,0),(8,0),(9,0),(10,1),(11,0),(12,3),(13,3)]<|go 10 ?_;refine Yw (Zm 3 [1] Zpg) λ_ _=>?_;refine Xj J J (Xq (Qv [(0,_),(1,_)] J K4 (λa w hs=>Zzr ((Yj J) a w hs) ((Yj J) a w hs))))<|go 5 ?_;exact Nx d () results184 (by first|exact Ztm hs c|exact Ztl hs c) aA Za
theorem Zgs(x y:Int)(hs:sg s x)(m:sg t y)(M:bl y.natAbs<=3000000000)(i:y≠0)(I:bl x.natAbs<=3000000000:=by omega):Cal prog 218 #[.agg #[.bool s,v],.agg #[.bool t,w]] [Dq v x.natAbs,Dq w y.natAbs] true (G:=Bool×Value×Value) (λr=>sg r.1 (x/y)) (λr=> .tuple #[.agg #[.bool r.1,r.2.1],.agg #[.bool false,r.2.2]]) (λr=>[Dq r.2.1 (x/y).natAbs,Dq r.2.2 (x%y).natAbs]):=by
 refine Zh func218 ntmps218 λP N z f=>?_;have F:=Mt x.natAbs;have H:=Mt y.natAbs;have j:0<y.natAbs:=O;have l:x.natAbs%y.natAbs<y.natAbs:=bR _ j;have u:=Of (eE l);have q:=Of (eQ x.natAbs y.natAbs);refine go 2 ?_;refine Ym (Yr 3) λb _=>Ym (Yr 4) λn _=>Ym (Ya 5) λo _=>Ym (Ya 6) λp _=>go 8 ?_;refine cl 7 [1,2] (Ybr O O j) λg _=>go 13 ?_;refine Zg6 18 J (λe=>?_) (λe=>?_)
 .refine go 6 ?_;refine Ze J (λc=>?_) (λc=>?_)
  .subst e;have k:0<x.natAbs%y.natAbs:=by rcases aW (x.natAbs%y.natAbs)with h|h;(rw [h]at c;simp [Gr]at c);exact h
   have d:=divA hs m i k;refine Qf (λ_=>False) [(0,0),(3,0),(4,0),(5,0),(1,1),(2,1),(6,1),(7,0),(8,3)]<|go 4 ?_;refine Kr J (Xv [(0,_)] 9 (enc:=Ld) (dg U 1) J J K2 Og ti232 J J J J J pU.cells J J z.h) λv _=>Yw (Zm 10 [7,9] (Ybs O (show bl 1<=4294967296 by decide))) λB _=>Yw (Zm 11 [2,8] (Zgv O)) λD _=>go 12 ?_;refine dt (Qv [(0,_),(1,_)] J K4 (λa w hs=>Ip ((Yj J) a w hs) ((On 10 J Zr) a w hs)))<|go 1 ?_;refine dt (Qv [(0,_),(1,_)] J K4 (λa w hs=>Ip ((Yj J) a w hs) ((On 11 J Zr) a w hs)))<|go 5 ?_;exact Nx f (_,_,_) results218 J d.1 (Ps 10 (Ps 11 Za (by rw [d.2.2]<;>rfl)) (by rw [d.2.1]<;>rfl))
  .have d:=divB hs m i (.inr ((Oi Qb _).1 O));refine go 10 ?_;refine dt (Qv [(0,_),(1,_)] J K4 (λa w hs=>Ip ((Yj J) a w hs) ((On 7 J Zr) a w hs)))<|go 1 ?_;refine dt (Qv [(0,_),(1,_)] J K4 (λa w hs=>Ip ((Yj J) a w hs) ((On 8 J Zr) a w hs)))<|go 5 ?_;exact Nx f (_,_,_) results218 J d.1 (Ps 7 (Ps 8 Za (by rw [d.2.2]<;>rfl)) (by rw [d.2.1]<;>rfl))
 .have d:=divB hs m i (.inl e);refine go 17 ?_;refine dt (Qv [(0,_),(1,_)] J K4 (λa w hs=>Ip ((Yj J) a w hs) ((On 7 J Zr) a w hs)))<|go 1 ?_;refine dt (Qv [(0,_),(1,_)] J K4 (λa w hs=>Ip ((Yj J) a w hs) ((On 8 J Zr) a w hs)))<|go 5 ?_;exact Nx f (_,_,_) results218 J d.1 (Ps 7 (Ps 8 Za (by rw [d.2.2]<;>rfl)) (by rw [d.2.1]<;>rfl))
variable {P:Program} {N:Nat} {sc:Nat->Prop} {M:Nat->Prop} {env:Pw} {H:Hp} {Q:Exit->Act->World->Prop}
structure BAct (i:Nat) (A:Prop):Prop where h:A
def bq(i:Nat){A:Prop}(h:A):BAct i A:=⟨h⟩
theorem Yd3 {l:List Oper}  {n:Nat}  (i k:Nat) (a:(Region.noSelect l.toArray && Fs l.toArray ts [(i,k)] listed)=true)
  (h:LD P N sc M l.toArray (A P N sc M l.toArray ts Q n (Ev [(i,k)] listed)) [(i,k)] env H):A P N sc M l.toArray ts Q (n+1) listed env H:=
 Zj _ [(i,k)] h (by rw [a,mH];show Nat.beq (1+n) (n+1)=true;rw [iX];exact Nat.beq_refl _)
theorem Ygf    {n:Nat} (i:Nat) (c:((Region.ready .any ops listed == [i]) && !(Fl ops ts listed) && !([i]:List Nat).isEmpty)=true)
  (a:BAct i (Zfv P N sc M ops ts Q n listed env H i)):A P N sc M ops ts Q (n+1) listed env H:=Ynw [i] c λq b=>by
 rw [bO.1 b];exact a.h
theorem Zzv    {n:Nat} (i j:Nat) (d:((Region.ready .any ops listed == [i,j]) && !(Fl ops ts listed) && !([i,j]:List Nat).isEmpty)=true)
  (b:BAct i (Zfv P N sc M ops ts Q n listed env H i)) (c:BAct j (Zfv P N sc M ops ts Q n listed env H j)):A P N sc M ops ts Q (n+1) listed env H:=Ynw [i,j] d λq a=>by
 simp only [bE,dX,iF]at a;rcases a with rfl|rfl
 .exact b.h
 .exact c.h
theorem a_b3    {n:Nat} (i j k:Nat) (e:((Region.ready .any ops listed == [i,j,k]) && !(Fl ops ts listed) && !([i,j,k]:List Nat).isEmpty)=true)
  (b:BAct i (Zfv P N sc M ops ts Q n listed env H i)) (c:BAct j (Zfv P N sc M ops ts Q n listed env H j)) (d:BAct k (Zfv P N sc M ops ts Q n listed env H k)):A P N sc M ops ts Q (n+1) listed env H:=Ynw [i,j,k] e λq a=>by
 simp only [bE,dX,iF]at a;rcases a with rfl|rfl|rfl
 .exact b.h
 .exact c.h
 .exact d.h
end Go.Sky

