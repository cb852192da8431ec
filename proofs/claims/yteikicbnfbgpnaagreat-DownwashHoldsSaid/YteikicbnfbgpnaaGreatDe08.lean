/- Rules, arithmetic and contracts: part 9. No conditions but those that each theorem names. -/
import Derived.Test.YteikicbnfbgpnaaGreatDe07
set_option linter.all false
namespace Go.Sky
open Go.Proofs
set_option linter.all false
set_option synthInstance.maxHeartbeats 0
@[reducible,instance] def iUnd3:=Und.mk Tryz.underlying3
@[reducible,instance] def iUnd4:=Und.mk Tryz.underlying4
@[reducible,instance] def iUnd5:=Und.mk Tryz.underlying5
@[reducible,instance] def iUnd9:=Und.mk Tryz.underlying9
@[reducible,instance] def iUnd33:=Und.mk Tryz.underlying33
@[reducible,instance] def iUnd39:=Und.mk Tryz.underlying39
@[reducible,instance] def iUnd40:=Und.mk Tryz.underlying40
@[reducible,instance] def iUnd47:=Und.mk Tryz.underlying47
@[reducible,instance] def iUnd80:=Und.mk Tryz.underlying80
@[reducible,instance] def iUnd82:=Und.mk Tryz.underlying82
@[reducible,instance] def iUnd89:=Und.mk Tryz.underlying89
@[reducible,instance] def iUnd91:=Und.mk Tryz.underlying91
@[reducible,instance] def iUnd121:=Und.mk Tryz.underlying121
@[reducible,instance] def iUnd197:=Und.mk Tryz.underlying197
@[reducible,instance] def iUnd217:=Und.mk Tryz.underlying217
@[reducible,instance] def iUnd219:=Und.mk Tryz.underlying219
@[reducible,instance] def iUnd230:=Und.mk Tryz.underlying230
@[reducible,instance] def iUnd232:=Und.mk Tryz.underlying232
@[reducible,instance] def iUnd248:=Und.mk Tryz.underlying248
@[reducible,instance] def iUnd250:=Und.mk Tryz.underlying250
@[reducible,instance] def iUnd268:=Und.mk Tryz.underlying268
@[reducible,instance] def iUnd270:=Und.mk Tryz.underlying270
@[reducible,instance] def iUnd274:=Und.mk Tryz.underlying274
@[reducible,instance] def iUnd276:=Und.mk Tryz.underlying276
@[reducible,instance] def iUnd280:=Und.mk Tryz.underlying280
@[reducible,instance] def iUnd316:=Und.mk Tryz.underlying316
@[reducible,instance] def iSiz3:=Siz.mk Tryz.sizeOf3
@[reducible,instance] def iSiz4:=Siz.mk Tryz.sizeOf4
@[reducible,instance] def iSiz5:=Siz.mk Tryz.sizeOf5
@[reducible,instance] def iSiz9:=Siz.mk Tryz.sizeOf9
@[reducible,instance] def iSiz26:=Siz.mk Tryz.sizeOf26
@[reducible,instance] def iSiz33:=Siz.mk Tryz.sizeOf33
@[reducible,instance] def iSiz40:=Siz.mk Tryz.sizeOf40
@[reducible,instance] def iSiz47:=Siz.mk Tryz.sizeOf47
@[reducible,instance] def iSiz80:=Siz.mk Tryz.sizeOf80
@[reducible,instance] def iSiz82:=Siz.mk Tryz.sizeOf82
@[reducible,instance] def iSiz89:=Siz.mk Tryz.sizeOf89
@[reducible,instance] def iSiz91:=Siz.mk Tryz.sizeOf91
@[reducible,instance] def iSiz217:=Siz.mk Tryz.sizeOf217
@[reducible,instance] def iSiz219:=Siz.mk Tryz.sizeOf219
@[reducible,instance] def iSiz232:=Siz.mk Tryz.sizeOf232
@[reducible,instance] def iSiz248:=Siz.mk Tryz.sizeOf248
@[reducible,instance] def iSiz268:=Siz.mk Tryz.sizeOf268
@[reducible,instance] def iSiz270:=Siz.mk Tryz.sizeOf270
@[reducible,instance] def iSiz276:=Siz.mk Tryz.sizeOf276
@[reducible,instance] def iAgg4:=Agg.mk Tryz.isAgg4
@[reducible,instance] def iAgg9:=Agg.mk Tryz.isAgg9
@[reducible,instance] def iAgg26:=Agg.mk Tryz.isAgg26
@[reducible,instance] def iAgg33:=Agg.mk Tryz.isAgg33
@[reducible,instance] def iAgg80:=Agg.mk Tryz.isAgg80
@[reducible,instance] def iAgg82:=Agg.mk Tryz.isAgg82
@[reducible,instance] def iAgg89:=Agg.mk Tryz.isAgg89
@[reducible,instance] def iAgg91:=Agg.mk Tryz.isAgg91
@[reducible,instance] def iAgg217:=Agg.mk Tryz.isAgg217
@[reducible,instance] def iAgg219:=Agg.mk Tryz.isAgg219
@[reducible,instance] def iAgg268:=Agg.mk Tryz.isAgg268
@[reducible,instance] def iAgg270:=Agg.mk Tryz.isAgg270
@[reducible,instance] def iAgg276:=Agg.mk Tryz.isAgg276
@[reducible,instance] def iZer80:=Zer.mk Tryz.zeroValue80
@[reducible,instance] def iZer82:=Zer.mk Tryz.zeroValue82
@[reducible,instance] def iZer89:=Zer.mk Tryz.zeroValue89
@[reducible,instance] def iZer91:=Zer.mk Tryz.zeroValue91
@[reducible,instance] def iZer219:=Zer.mk Tryz.zeroValue219
@[reducible,instance] def iZer232:=Zer.mk Tryz.zeroValue232
@[reducible,instance] def iZer250:=Zer.mk Tryz.zeroValue250
@[reducible,instance] def iZer270:=Zer.mk Tryz.zeroValue270
@[reducible,instance] def iZer274:=Zer.mk Tryz.zeroValue274
@[reducible,instance] def iZer276:=Zer.mk Tryz.zeroValue276
@[reducible,instance] def iCalF57:=CalF.mk Tryz.call57
@[reducible,instance] def iCalF67:=CalF.mk Tryz.call67
@[reducible,instance] def iCalF69:=CalF.mk Tryz.call69
@[reducible,instance] def iCalF70:=CalF.mk Tryz.call70
@[reducible,instance] def iCalF72:=CalF.mk Tryz.call72
@[reducible,instance] def iCalF76:=CalF.mk Tryz.call76
@[reducible,instance] def iCalF78:=CalF.mk Tryz.call78
@[reducible,instance] def iCalF79:=CalF.mk Tryz.call79
@[reducible,instance] def iCalF81:=CalF.mk Tryz.call81
@[reducible,instance] def iCalF82:=CalF.mk Tryz.call82
@[reducible,instance] def iCalF97:=CalF.mk Tryz.call97
@[reducible,instance] def iCalF99:=CalF.mk Tryz.call99
@[reducible,instance] def iCalF100:=CalF.mk Tryz.call100
@[reducible,instance] def iCalF105:=CalF.mk Tryz.call105
@[reducible,instance] def iCalF106:=CalF.mk Tryz.call106
@[reducible,instance] def iCalF117:=CalF.mk Tryz.call117
@[reducible,instance] def iCalF118:=CalF.mk Tryz.call118
@[reducible,instance] def iCalF119:=CalF.mk Tryz.call119
@[reducible,instance] def iCalF126:=CalF.mk Tryz.call126
@[reducible,instance] def iCalF127:=CalF.mk Tryz.call127
@[reducible,instance] def iCalF128:=CalF.mk Tryz.call128
@[reducible,instance] def iCalF129:=CalF.mk Tryz.call129
@[reducible,instance] def iCalF130:=CalF.mk Tryz.call130
@[reducible,instance] def iCalF131:=CalF.mk Tryz.call131
@[reducible,instance] def iCalF135:=CalF.mk Tryz.call135
@[reducible,instance] def iCalF136:=CalF.mk Tryz.call136
@[reducible,instance] def iCalF138:=CalF.mk Tryz.call138
@[reducible,instance] def iCalF140:=CalF.mk Tryz.call140
@[reducible,instance] def iCalF143:=CalF.mk Tryz.call143
@[reducible,instance] def iCalF144:=CalF.mk Tryz.call144
@[reducible,instance] def iCalF146:=CalF.mk Tryz.call146
@[reducible,instance] def iCalF147:=CalF.mk Tryz.call147
@[reducible,instance] def iCalF148:=CalF.mk Tryz.call148
@[reducible,instance] def iCalF149:=CalF.mk Tryz.call149
@[reducible,instance] def iCalF164:=CalF.mk Tryz.call164
@[reducible,instance] def iCalF165:=CalF.mk Tryz.call165
@[reducible,instance] def iCalF166:=CalF.mk Tryz.call166
@[reducible,instance] def iCalF167:=CalF.mk Tryz.call167
@[reducible,instance] def iCalF169:=CalF.mk Tryz.call169
@[reducible,instance] def iCalF170:=CalF.mk Tryz.call170
@[reducible,instance] def iCalF172:=CalF.mk Tryz.call172
@[reducible,instance] def iCalF173:=CalF.mk Tryz.call173
@[reducible,instance] def iCalF178:=CalF.mk Tryz.call178
@[reducible,instance] def iCalF179:=CalF.mk Tryz.call179
@[reducible,instance] def iCalF180:=CalF.mk Tryz.call180
@[reducible,instance] def iCalF183:=CalF.mk Tryz.call183
@[reducible,instance] def iCalF184:=CalF.mk Tryz.call184
@[reducible,instance] def iCalF188:=CalF.mk Tryz.call188
@[reducible,instance] def iCalF189:=CalF.mk Tryz.call189
@[reducible,instance] def iCalF190:=CalF.mk Tryz.call190
@[reducible,instance] def iCalF191:=CalF.mk Tryz.call191
@[reducible,instance] def iCalF192:=CalF.mk Tryz.call192
@[reducible,instance] def iCalF193:=CalF.mk Tryz.call193
@[reducible,instance] def iCalF194:=CalF.mk Tryz.call194
@[reducible,instance] def iCalF195:=CalF.mk Tryz.call195
@[reducible,instance] def iCalF196:=CalF.mk Tryz.call196
@[reducible,instance] def iCalF197:=CalF.mk Tryz.call197
@[reducible,instance] def iCalF198:=CalF.mk Tryz.call198
@[reducible,instance] def iCalF200:=CalF.mk Tryz.call200
@[reducible,instance] def iCalF201:=CalF.mk Tryz.call201
@[reducible,instance] def iCalF202:=CalF.mk Tryz.call202
@[reducible,instance] def iCalF209:=CalF.mk Tryz.call209
@[reducible,instance] def iCalF210:=CalF.mk Tryz.call210
@[reducible,instance] def iCalF211:=CalF.mk Tryz.call211
@[reducible,instance] def iCalF212:=CalF.mk Tryz.call212
@[reducible,instance] def iCalF213:=CalF.mk Tryz.call213
@[reducible,instance] def iCalF214:=CalF.mk Tryz.call214
@[reducible,instance] def iCalF215:=CalF.mk Tryz.call215
@[reducible,instance] def iCalF216:=CalF.mk Tryz.call216
@[reducible,instance] def iCalF217:=CalF.mk Tryz.call217
@[reducible,instance] def iCalF218:=CalF.mk Tryz.call218
@[reducible,instance] def iCalF219:=CalF.mk Tryz.call219
@[reducible,instance] def iCalF220:=CalF.mk Tryz.call220
@[reducible,instance] def iCalF221:=CalF.mk Tryz.call221
@[reducible,instance] def iCalF222:=CalF.mk Tryz.call222
@[reducible,instance] def iCalF223:=CalF.mk Tryz.call223
@[reducible,instance] def iCalF224:=CalF.mk Tryz.call224
@[reducible,instance] def iCalF225:=CalF.mk Tryz.call225
@[reducible,instance] def iCalF226:=CalF.mk Tryz.call226
@[reducible,instance] def iCalF228:=CalF.mk Tryz.call228
@[reducible,instance] def iCalF232:=CalF.mk Tryz.call232
@[reducible,instance] def iCalF233:=CalF.mk Tryz.call233
@[reducible,instance] def iCalF234:=CalF.mk Tryz.call234
@[reducible,instance] def iCalF235:=CalF.mk Tryz.call235
@[reducible,instance] def iCalF236:=CalF.mk Tryz.call236
@[reducible,instance] def iCalF237:=CalF.mk Tryz.call237
@[reducible,instance] def iCalF238:=CalF.mk Tryz.call238
@[reducible,instance] def iCalF239:=CalF.mk Tryz.call239
@[reducible,instance] def iCalF240:=CalF.mk Tryz.call240
@[reducible,instance] def iCalF251:=CalF.mk Tryz.call251
@[reducible,instance] def iCalF254:=CalF.mk Tryz.call254
@[reducible,instance] def iCalF255:=CalF.mk Tryz.call255
@[reducible,instance] def iCalF256:=CalF.mk Tryz.call256
@[reducible,instance] def iCalF257:=CalF.mk Tryz.call257
@[reducible,instance] def iCalF258:=CalF.mk Tryz.call258
@[reducible,instance] def iCalF259:=CalF.mk Tryz.call259
@[reducible,instance] def iCalF260:=CalF.mk Tryz.call260
@[reducible,instance] def iCalF261:=CalF.mk Tryz.call261
@[reducible,instance] def iCalF262:=CalF.mk Tryz.call262
@[reducible,instance] def iCalF263:=CalF.mk Tryz.call263
@[reducible,instance] def iCalF264:=CalF.mk Tryz.call264
@[reducible,instance] def iCalF265:=CalF.mk Tryz.call265
@[reducible,instance] def iCalF266:=CalF.mk Tryz.call266
@[reducible,instance] def iCalF267:=CalF.mk Tryz.call267
@[reducible,instance] def iCalF268:=CalF.mk Tryz.call268
@[reducible,instance] def iCalF272:=CalF.mk Tryz.call272
@[reducible,instance] def iCalF280:=CalF.mk Tryz.call280
@[reducible,instance] def iCalF281:=CalF.mk Tryz.call281
@[reducible,instance] def iCalF282:=CalF.mk Tryz.call282
@[reducible,instance] def iCalF283:=CalF.mk Tryz.call283
@[reducible,instance] def iCalF284:=CalF.mk Tryz.call284
@[reducible,instance] def iCalF285:=CalF.mk Tryz.call285
@[reducible,instance] def iCalF286:=CalF.mk Tryz.call286
@[reducible,instance] def iCalF287:=CalF.mk Tryz.call287
@[reducible,instance] def iCalF288:=CalF.mk Tryz.call288
@[reducible,instance] def iCalF289:=CalF.mk Tryz.call289
@[reducible,instance] def iCalF290:=CalF.mk Tryz.call290
@[reducible,instance] def iCalF291:=CalF.mk Tryz.call291
@[reducible,instance] def iCalF292:=CalF.mk Tryz.call292
@[reducible,instance] def iCalF293:=CalF.mk Tryz.call293
@[reducible,instance] def iCalF294:=CalF.mk Tryz.call294
@[reducible,instance] def iCalF295:=CalF.mk Tryz.call295
@[reducible,instance] def iCalF297:=CalF.mk Tryz.call297
@[reducible,instance] def iCalF298:=CalF.mk Tryz.call298
@[reducible,instance] def iCalF299:=CalF.mk Tryz.call299
@[reducible,instance] def iCalF300:=CalF.mk Tryz.call300
@[reducible,instance] def iCalF301:=CalF.mk Tryz.call301
@[reducible,instance] def iCalF302:=CalF.mk Tryz.call302
@[reducible,instance] def iCalF303:=CalF.mk Tryz.call303
@[reducible,instance] def iCalF304:=CalF.mk Tryz.call304
@[reducible,instance] def iCalF305:=CalF.mk Tryz.call305
@[reducible,instance] def iCalF306:=CalF.mk Tryz.call306
@[reducible,instance] def iCalF307:=CalF.mk Tryz.call307
@[reducible,instance] def iCalF308:=CalF.mk Tryz.call308
@[reducible,instance] def iCalF309:=CalF.mk Tryz.call309
@[reducible,instance] def iCalF310:=CalF.mk Tryz.call310
@[reducible,instance] def iCalF311:=CalF.mk Tryz.call311
@[reducible,instance] def iCalF312:=CalF.mk Tryz.call312
@[reducible,instance] def iCalF313:=CalF.mk Tryz.call313
@[reducible,instance] def iCalF314:=CalF.mk Tryz.call314
@[reducible,instance] def iCalF315:=CalF.mk Tryz.call315
instance:EncT Tryz.prog 232 1 Mb:=⟨pU⟩
instance:EncE 1 Mb:=⟨_,_,pU⟩
instance:EncT Tryz.prog 5 1 Zh4:=⟨pB⟩
instance:EncE 1 Zh4:=⟨_,_,pB⟩
instance:EncT Tryz.prog 3 1 Ho:=⟨pN⟩
instance:EncE 1 Ho:=⟨_,_,pN⟩
instance:EncT Tryz.prog 3 1 Yo:=⟨pZ⟩
instance:EncE 1 Yo:=⟨_,_,pZ⟩
instance:EncT Tryz.prog 80 2 Zu8:=⟨pW⟩
instance:EncE 2 Zu8:=⟨_,_,pW⟩
instance:EncT Tryz.prog 80 2 wv:=⟨pV⟩
instance:EncE 2 wv:=⟨_,_,pV⟩
instance:EncT Tryz.prog 89 2 Zdg:=⟨pI⟩
instance:EncE 2 Zdg:=⟨_,_,pI⟩
instance {α:Type} : EncT Tryz.prog 40 1 (Kw (α:=α)):=⟨pS⟩
instance {α:Type} : EncE 1 (Kw (α:=α)):=⟨_,_,pS⟩
instance:EncT Tryz.prog 276 8 iq:=⟨pY⟩
instance:EncE 8 iq:=⟨_,_,pY⟩
instance:EncT Tryz.prog 82 4 rq:=⟨pQ⟩
instance:EncE 4 rq:=⟨_,_,pQ⟩
instance:EncT Tryz.prog 82 4 encQ:=⟨pR⟩
instance:EncE 4 encQ:=⟨_,_,pR⟩
@[reducible,instance] def iUnd23:=Und.mk Tryz.underlying23
@[reducible,instance] def iUnd25:=Und.mk Tryz.underlying25
@[reducible,instance] def iUnd35:=Und.mk Tryz.underlying35
@[reducible,instance] def iUnd38:=Und.mk Tryz.underlying38
@[reducible,instance] def iUnd46:=Und.mk Tryz.underlying46
@[reducible,instance] def iUnd50:=Und.mk Tryz.underlying50
@[reducible,instance] def iUnd61:=Und.mk Tryz.underlying61
@[reducible,instance] def iUnd130:=Und.mk Tryz.underlying130
@[reducible,instance] def iUnd135:=Und.mk Tryz.underlying135
@[reducible,instance] def iUnd140:=Und.mk Tryz.underlying140
@[reducible,instance] def iUnd166:=Und.mk Tryz.underlying166
@[reducible,instance] def iUnd182:=Und.mk Tryz.underlying182
@[reducible,instance] def iUnd186:=Und.mk Tryz.underlying186
@[reducible,instance] def iUnd189:=Und.mk Tryz.underlying189
@[reducible,instance] def iUnd190:=Und.mk Tryz.underlying190
@[reducible,instance] def iUnd193:=Und.mk Tryz.underlying193
@[reducible,instance] def iUnd210:=Und.mk Tryz.underlying210
@[reducible,instance] def iUnd242:=Und.mk Tryz.underlying242
@[reducible,instance] def iUnd243:=Und.mk Tryz.underlying243
@[reducible,instance] def iUnd331:=Und.mk Tryz.underlying331
@[reducible,instance] def iSiz23:=Siz.mk Tryz.sizeOf23
@[reducible,instance] def iSiz25:=Siz.mk Tryz.sizeOf25
@[reducible,instance] def iSiz35:=Siz.mk Tryz.sizeOf35
@[reducible,instance] def iSiz38:=Siz.mk Tryz.sizeOf38
@[reducible,instance] def iSiz46:=Siz.mk Tryz.sizeOf46
@[reducible,instance] def iSiz64:=Siz.mk Tryz.sizeOf64
@[reducible,instance] def iSiz130:=Siz.mk Tryz.sizeOf130
@[reducible,instance] def iSiz135:=Siz.mk Tryz.sizeOf135
@[reducible,instance] def iSiz162:=Siz.mk Tryz.sizeOf162
@[reducible,instance] def iSiz182:=Siz.mk Tryz.sizeOf182
@[reducible,instance] def iSiz189:=Siz.mk Tryz.sizeOf189
@[reducible,instance] def iSiz210:=Siz.mk Tryz.sizeOf210
@[reducible,instance] def iSiz242:=Siz.mk Tryz.sizeOf242
@[reducible,instance] def iSiz243:=Siz.mk Tryz.sizeOf243
@[reducible,instance] def iSiz330:=Siz.mk Tryz.sizeOf330
@[reducible,instance] def iAgg3:=Agg.mk Tryz.isAgg3
@[reducible,instance] def iAgg23:=Agg.mk Tryz.isAgg23
@[reducible,instance] def iAgg25:=Agg.mk Tryz.isAgg25
@[reducible,instance] def iAgg35:=Agg.mk Tryz.isAgg35
@[reducible,instance] def iAgg38:=Agg.mk Tryz.isAgg38
@[reducible,instance] def iAgg40:=Agg.mk Tryz.isAgg40
@[reducible,instance] def iAgg46:=Agg.mk Tryz.isAgg46
@[reducible,instance] def iAgg64:=Agg.mk Tryz.isAgg64
@[reducible,instance] def iAgg130:=Agg.mk Tryz.isAgg130
@[reducible,instance] def iAgg135:=Agg.mk Tryz.isAgg135
@[reducible,instance] def iAgg162:=Agg.mk Tryz.isAgg162
@[reducible,instance] def iAgg182:=Agg.mk Tryz.isAgg182
@[reducible,instance] def iAgg189:=Agg.mk Tryz.isAgg189
@[reducible,instance] def iAgg210:=Agg.mk Tryz.isAgg210
@[reducible,instance] def iAgg243:=Agg.mk Tryz.isAgg243
@[reducible,instance] def iAgg330:=Agg.mk Tryz.isAgg330
@[reducible,instance] def iZer3:=Zer.mk Tryz.zeroValue3
@[reducible,instance] def iZer23:=Zer.mk Tryz.zeroValue23
@[reducible,instance] def iZer25:=Zer.mk Tryz.zeroValue25
@[reducible,instance] def iZer26:=Zer.mk Tryz.zeroValue26
@[reducible,instance] def iZer35:=Zer.mk Tryz.zeroValue35
@[reducible,instance] def iZer38:=Zer.mk Tryz.zeroValue38
@[reducible,instance] def iZer64:=Zer.mk Tryz.zeroValue64
@[reducible,instance] def iZer130:=Zer.mk Tryz.zeroValue130
@[reducible,instance] def iZer135:=Zer.mk Tryz.zeroValue135
@[reducible,instance] def iZer162:=Zer.mk Tryz.zeroValue162
@[reducible,instance] def iZer166:=Zer.mk Tryz.zeroValue166
@[reducible,instance] def iZer182:=Zer.mk Tryz.zeroValue182
@[reducible,instance] def iZer189:=Zer.mk Tryz.zeroValue189
@[reducible,instance] def iZer210:=Zer.mk Tryz.zeroValue210
@[reducible,instance] def iZer243:=Zer.mk Tryz.zeroValue243
@[reducible,instance] def iCalF14:=CalF.mk Tryz.call14
@[reducible,instance] def iCalF15:=CalF.mk Tryz.call15
@[reducible,instance] def iCalF16:=CalF.mk Tryz.call16
@[reducible,instance] def iCalF17:=CalF.mk Tryz.call17
@[reducible,instance] def iCalF18:=CalF.mk Tryz.call18
@[reducible,instance] def iCalF19:=CalF.mk Tryz.call19
@[reducible,instance] def iCalF20:=CalF.mk Tryz.call20
@[reducible,instance] def iCalF21:=CalF.mk Tryz.call21
@[reducible,instance] def iCalF22:=CalF.mk Tryz.call22
@[reducible,instance] def iCalF23:=CalF.mk Tryz.call23
@[reducible,instance] def iCalF24:=CalF.mk Tryz.call24
@[reducible,instance] def iCalF25:=CalF.mk Tryz.call25
@[reducible,instance] def iCalF26:=CalF.mk Tryz.call26
@[reducible,instance] def iCalF27:=CalF.mk Tryz.call27
@[reducible,instance] def iCalF28:=CalF.mk Tryz.call28
@[reducible,instance] def iCalF29:=CalF.mk Tryz.call29
@[reducible,instance] def iCalF30:=CalF.mk Tryz.call30
@[reducible,instance] def iCalF31:=CalF.mk Tryz.call31
@[reducible,instance] def iCalF32:=CalF.mk Tryz.call32
@[reducible,instance] def iCalF33:=CalF.mk Tryz.call33
@[reducible,instance] def iCalF34:=CalF.mk Tryz.call34
@[reducible,instance] def iCalF35:=CalF.mk Tryz.call35
@[reducible,instance] def iCalF53:=CalF.mk Tryz.call53
@[reducible,instance] def iCalF54:=CalF.mk Tryz.call54
@[reducible,instance] def iCalF61:=CalF.mk Tryz.call61
@[reducible,instance] def iCalF62:=CalF.mk Tryz.call62
@[reducible,instance] def iCalF63:=CalF.mk Tryz.call63
@[reducible,instance] def iCalF64:=CalF.mk Tryz.call64
@[reducible,instance] def iCalF65:=CalF.mk Tryz.call65
@[reducible,instance] def iCalF66:=CalF.mk Tryz.call66
@[reducible,instance] def iCalF68:=CalF.mk Tryz.call68
@[reducible,instance] def iCalF71:=CalF.mk Tryz.call71
@[reducible,instance] def iCalF73:=CalF.mk Tryz.call73
@[reducible,instance] def iCalF74:=CalF.mk Tryz.call74
@[reducible,instance] def iCalF75:=CalF.mk Tryz.call75
@[reducible,instance] def iCalF77:=CalF.mk Tryz.call77
@[reducible,instance] def iCalF80:=CalF.mk Tryz.call80
@[reducible,instance] def iCalF83:=CalF.mk Tryz.call83
@[reducible,instance] def iCalF84:=CalF.mk Tryz.call84
@[reducible,instance] def iCalF85:=CalF.mk Tryz.call85
@[reducible,instance] def iCalF86:=CalF.mk Tryz.call86
@[reducible,instance] def iCalF87:=CalF.mk Tryz.call87
@[reducible,instance] def iCalF88:=CalF.mk Tryz.call88
@[reducible,instance] def iCalF89:=CalF.mk Tryz.call89
@[reducible,instance] def iCalF113:=CalF.mk Tryz.call113
@[reducible,instance] def iCalF114:=CalF.mk Tryz.call114
@[reducible,instance] def iCalF115:=CalF.mk Tryz.call115
@[reducible,instance] def iCalF121:=CalF.mk Tryz.call121
@[reducible,instance] def iCalF124:=CalF.mk Tryz.call124
@[reducible,instance] def iCalF125:=CalF.mk Tryz.call125
@[reducible,instance] def iCalF132:=CalF.mk Tryz.call132
@[reducible,instance] def iCalF133:=CalF.mk Tryz.call133
@[reducible,instance] def iCalF134:=CalF.mk Tryz.call134
@[reducible,instance] def iCalF137:=CalF.mk Tryz.call137
@[reducible,instance] def iCalF139:=CalF.mk Tryz.call139
@[reducible,instance] def iCalF141:=CalF.mk Tryz.call141
@[reducible,instance] def iCalF142:=CalF.mk Tryz.call142
@[reducible,instance] def iCalF145:=CalF.mk Tryz.call145
@[reducible,instance] def iCalF150:=CalF.mk Tryz.call150
@[reducible,instance] def iCalF151:=CalF.mk Tryz.call151
@[reducible,instance] def iCalF152:=CalF.mk Tryz.call152
@[reducible,instance] def iCalF153:=CalF.mk Tryz.call153
@[reducible,instance] def iCalF154:=CalF.mk Tryz.call154
@[reducible,instance] def iCalF155:=CalF.mk Tryz.call155
@[reducible,instance] def iCalF156:=CalF.mk Tryz.call156
@[reducible,instance] def iCalF157:=CalF.mk Tryz.call157
@[reducible,instance] def iCalF158:=CalF.mk Tryz.call158
@[reducible,instance] def iCalF159:=CalF.mk Tryz.call159
@[reducible,instance] def iCalF163:=CalF.mk Tryz.call163
@[reducible,instance] def iCalF168:=CalF.mk Tryz.call168
@[reducible,instance] def iCalF177:=CalF.mk Tryz.call177
@[reducible,instance] def iCalF181:=CalF.mk Tryz.call181
@[reducible,instance] def iCalF185:=CalF.mk Tryz.call185
@[reducible,instance] def iCalF186:=CalF.mk Tryz.call186
@[reducible,instance] def iCalF187:=CalF.mk Tryz.call187
@[reducible,instance] def iCalF199:=CalF.mk Tryz.call199
@[reducible,instance] def iCalF203:=CalF.mk Tryz.call203
@[reducible,instance] def iCalF204:=CalF.mk Tryz.call204
@[reducible,instance] def iCalF205:=CalF.mk Tryz.call205
@[reducible,instance] def iCalF206:=CalF.mk Tryz.call206
@[reducible,instance] def iCalF207:=CalF.mk Tryz.call207
@[reducible,instance] def iCalF208:=CalF.mk Tryz.call208
@[reducible,instance] def iCalF227:=CalF.mk Tryz.call227
@[reducible,instance] def iCalF229:=CalF.mk Tryz.call229
@[reducible,instance] def iCalF230:=CalF.mk Tryz.call230
@[reducible,instance] def iCalF231:=CalF.mk Tryz.call231
@[reducible,instance] def iCalF241:=CalF.mk Tryz.call241
@[reducible,instance] def iCalF247:=CalF.mk Tryz.call247
@[reducible,instance] def iCalF252:=CalF.mk Tryz.call252
@[reducible,instance] def iCalF253:=CalF.mk Tryz.call253
@[reducible,instance] def iCalF271:=CalF.mk Tryz.call271
@[reducible,instance] def iCalF278:=CalF.mk Tryz.call278
@[reducible,instance] def iCalF279:=CalF.mk Tryz.call279
@[reducible,instance] def iUnd162:=Und.mk Tryz.underlying162
@[reducible,instance] def iUnd165:=Und.mk Tryz.underlying165
@[reducible,instance] def iAgg50:=Agg.mk Tryz.isAgg50
@[reducible,instance] def iZer4:=Zer.mk Tryz.zeroValue4
@[reducible,instance] def iZer165:=Zer.mk Tryz.zeroValue165
@[reducible,instance] def iCalF40:=CalF.mk Tryz.call40
@[reducible,instance] def iCalF42:=CalF.mk Tryz.call42
@[reducible,instance] def iCalF52:=CalF.mk Tryz.call52
@[reducible,instance] def iCalF55:=CalF.mk Tryz.call55
@[reducible,instance] def iCalF56:=CalF.mk Tryz.call56
@[reducible,instance] def iCalF93:=CalF.mk Tryz.call93
@[reducible,instance] def iCalF94:=CalF.mk Tryz.call94
@[reducible,instance] def iCalF95:=CalF.mk Tryz.call95
@[reducible,instance] def iCalF96:=CalF.mk Tryz.call96
@[reducible,instance] def iCalF98:=CalF.mk Tryz.call98
@[reducible,instance] def iCalF110:=CalF.mk Tryz.call110
@[reducible,instance] def iCalF112:=CalF.mk Tryz.call112
@[reducible,instance] def iCalF116:=CalF.mk Tryz.call116
@[reducible,instance] def iCalF120:=CalF.mk Tryz.call120
@[reducible,instance] def iCalF161:=CalF.mk Tryz.call161
@[reducible,instance] def iCalF162:=CalF.mk Tryz.call162
@[reducible,instance] def iCalF176:=CalF.mk Tryz.call176
open Go.Proofs.Tryz
set_option synthInstance.maxSize 100000
set_option maxRecDepth 20000
set_option maxHeartbeats 1000000
set_option linter.unusedSimpArgs false
def Yen(v:Value)(xs:List Nat):Cal prog 183 #[v] [Ym 1 Mb v xs] true (G:=Unit) (λ_=>True) (λ_=>Lq v (tz xs).length) (λ_=>[Ym 1 Mb (Lq v (tz xs).length) (tz xs)]):=by
 refine Zf func183 ntmps183 λp o n c=>?_;refine Oi (Zu4 (i:=1) J Zo) (λa=>?_);refine Oi (Ip (i:=1) J Zo) λm=>go 7 ?_;refine lp (G:=Nat) [] [0] (λk=>[(0,Lq v k)]) (λk=>[(1,Ym 1 Mb (Lq v k) (xs.take k))]) (λk=>(k<=xs.length)/\(tz (xs.take k)=tz xs)) (λk=>k) xs.length ⟨aI _,by rw [bP]⟩ ⟨by rw [a];rfl,aA⟩ ⟨by rw [a,bP];rfl,aA⟩ ?_;rintro k ⟨h,j⟩;have f:(xs.take k).length=k:=by rw [aR];omega
 refine go 7 ?_;refine Yl (d:=6) J (λl=>?_) (λl=>?_)
 .refine go 4 ⟨O1,?_⟩;refine Kv (Zy (ii:=1) (i:=k-1) J J J J Zo Pk Lx) J J<|go 5 ⟨O1,?_⟩;refine Zc J (λg=>?_) (λg=>?_)
  .have b:=Zwa h O1 (by omega:(xs.take k).getD (k-1) 0=0);refine go 8 ⟨O1,?_⟩;refine dt (Zyk (ii:=1) (i:=k-1) J J J J Zo Pk Lx)<|go 3 ?_;exact Yg (Yde 1 1 (k-1) J J)<|Yq (k-1) ⟨O2,by rw [<-j,<-b]⟩ O2 ⟨by rw [<-Gv v k (k-1)];rfl,aA⟩ ⟨by rw [Gv,iM,dD O1];rfl,aA⟩
  .refine go 12 ?_;have e:tz xs=xs.take k:=by rw [<-j];exact Zey h O1
   exact Xj c () results183 (by rw [e,f]) aA (Ns 1 Za (by rw [e,f]))
 .refine go 23 ?_;have e:tz xs=xs.take k:=by rw [<-j];exact Zey h O1
  exact Xj c () results183 (by rw [e,f]) aA (Ns 1 Za (by rw [e,f]))
def Pr(v:Value)(xs:List Nat):Cal prog 183 #[v] [Ym 1 Mb v xs] false (G:=Unit) (λ_=>True) (λ_=>Lq v (tz xs).length) (λ_=>[]):=(Yen v xs).bare
def Zxh(v w:Value)(x y:Nat)(z:bl x<=4294967296)(N:bl y<=4294967296):Cal prog 222 #[v,w] [Ea v x,Ea w y] false (G:=Value) (λr=>True) (λr=>r) (λr=>[Ea r (x+y)]):=by
 refine Zf func222 ntmps222 λS P s p=>?_;have I:=Nq x;have M:=Nq y;refine go 5 ?_;refine jn (G:=Value×Value×Nat×Nat) [] [0,1,2] (λq=>[(0,q.1),(1,q.2.1)]) (λq=>[(91,Ea q.1 q.2.2.1),(92,Ea q.2.1 q.2.2.2)]) (λq=>(q.2.2.1+q.2.2.2=x+y)/\((dg U q.2.2.2).length<=(dg U q.2.2.1).length)/\((dg U q.2.2.1).length<=1099511627776)) ?_ ?_
 .refine go 9 ?_;refine Zc J (λg=>?_) (λg=>?_)
  .refine go 6 ?_;exact Yg (Qy 2 91 J J J)<|Yg (Qy 1 92 J J J)<|Oj (w,v,y,x) ⟨O2,O2,O2⟩ K2 K2
  .refine go 1 ?_;exact Yg (Qy 1 91 J J J)<|Yg (Qy 2 92 J J J)<|Oj (v,w,x,y) ⟨O2,O2,O2⟩ K2 K2
 .rintro⟨Q,R,a,b⟩ ⟨hs,u,l⟩;dsimp only at hs u l;dsimp only;refine go 5 ⟨O1,?_⟩;refine tt (Gt (i:=3) (n:=(dg U a).length+1) (by_:=8) (enc:=Mb) 0 J J J J Pk ti232 J pU.cells pU.pos J J J s.h) λv _=>go 17 ?_;refine lp (G:=Nat×List Nat×Nat) [0,1,5,21] [0,91,92,1,2] (λq=>[(22,.int .i64 (q.1:Int)),(6,.int .u64 (q.2.2:Int))]) (λq=>[(3,Ox 1 232 Mb v q.2.1)]) (λq=>(q.1<=(dg U a).length)/\(q.2.1.length=(dg U a).length+1)/\(∀d∈q.2.1,d<U)/\(q.2.2<=1)/\(Ye U (q.2.1.take q.1)+q.2.2*U^q.1=Ye U ((dg U a).take q.1)+Ye U ((dg U b).take q.1))) (λq=>(dg U a).length-q.1) (0,List.replicate ((dg U a).length+1) 0,0) ⟨O2,O7,Ok _ Xm,O2,by simp [Ye]⟩ K2 K1 ?_;rintro⟨k,o,c⟩ ⟨D,m,e,B,f⟩;dsimp only at D m e B f;dsimp only;refine go 6 ?_;refine Zc J (λh=>?_) (λh=>?_)
  .refine go 15 ?_;refine jn (G:=Unit) [0,1,5,6,7,21,22] [0,3,91,92,1,2] (λ_=>[(8,.int .u64 ((dg U b).getD k 0:Int))]) (λ_=>[]) (λ_=>True) ?_ ?_
   .refine go 8 ?_;refine Zc J (λj=>?_) (λj=>?_)
    .refine go 7 ⟨O3,O3,?_⟩
     try (have t:(dg U b).getD k 0=0:=by simp [List.getD,bD (by omega:(dg U b).length<=k)])
     exact Oj () aA ⟨by first|rfl|(rw [t];rfl),aA⟩ aA
    .refine go 1 ?_
     try (have t:(dg U b).getD k 0=0:=by simp [List.getD,bD (by omega:(dg U b).length<=k)])
     exact Oj () aA ⟨by first|rfl|(rw [t];rfl),aA⟩ aA
   .rintro _ -;refine go 9 ⟨O3,O3,?_⟩;refine dt (Zpt J J J J O1 Zhc)<|go 4 ⟨O3,?_⟩;refine tt (Lj (i:=3) (enc:=Mb) _ J J J J J J pU J s.h O4 O3) (λ_ _=>?_);refine go 8 ⟨O1,?_⟩;exact Yq (k+1,_,_) ⟨O2,O9,Le e _ _ (bN _ Xm),by have F:=Xh Xm (Na Xi a) k;have H:=Xh Xm (Na Xi b) k;simp only [U]at *;omega,Yib f O1⟩ O2 K2 K1
  .refine go 6 ?_;obtain rfl:k=(dg U a).length:=O1;refine go 6 ⟨O3,?_⟩;refine tt (Lj (i:=3) (enc:=Mb) _ J J J J J J pU J s.h O4 O3) λ_ _=>go 5 ?_;refine cl 3 [3] (Pr _ _) λ_ _=>?_;refine Xp (Zbd 3 J J pU)<|go 4 ?_;have z:tz (o.set (dg U a).length c)=dg U (x+y):=by
    rw [<-Kj Xi _ (Le e _ _ (by simp only [U];omega)),<-hs];congr 1
    conv=>rhs;rw [<-Nh Xi a,<-Nh Xi b]
    rw [bZ (aI (dg U a).length),Nn U (dg U b) _ u]at f;rw [<-f,<-Dw U o _ c O1,Nn _ _ _ O9]
   exact Xj p _ results222 J aA (gow 3 Za z)
def Zfo(v w:Value)(x y:Nat)(t:bl x<=4294967296)(l:y<=x:=by omega):Cal prog 224 #[v,w] [Ea v x,Ea w y] false (G:=Value) (λr=>True) (λr=>r) (λr=>[Ea r (x-y)]):=by
 refine Zf func224 ntmps224 λM I s h=>?_;have D:=Nq x;have F:=Nq y;have H:=Pu l;refine go 9 ?_;refine tt (Gt (i:=3) (n:=(dg U x).length) (by_:=8) (enc:=Mb) 0 J J J J Pk ti232 J pU.cells pU.pos J J J s.h) λv _=>go 17 ?_;refine lp (G:=Nat×List Nat×Nat) [0,1,5,13] [0,1,2] (λq=>[(14,.int .i64 (q.1:Int)),(6,.int .u64 (q.2.2:Int))]) (λq=>[(3,Ox 1 232 Mb v q.2.1)]) (λq=>(q.1<=(dg U x).length)/\(q.2.1.length=(dg U x).length)/\(∀d∈q.2.1,d<U)/\(q.2.2<=1)/\(Ye U (q.2.1.take q.1)+Ye U ((dg U y).take q.1)=Ye U ((dg U x).take q.1)+q.2.2*U^q.1)) (λq=>(dg U x).length-q.1) (0,List.replicate ((dg U x).length) 0,0) ⟨O2,O7,Ok _ Xm,O2,by simp [Ye]⟩ K2 K1 ?_;rintro⟨k,o,c⟩ ⟨B,b,a,p,j⟩;dsimp only at B b a p j;dsimp only;refine go 6 ?_;refine Zc J (λe=>?_) (λe=>?_)
 .refine go 15 ?_;refine jn (G:=Unit) [0,1,5,6,7,13,14] [0,3,1,2] (λ_=>[(8,.int .u64 ((dg U y).getD k 0:Int))]) (λ_=>[]) (λ_=>True) ?_ ?_
  .refine go 8 ?_;refine Zc J (λf=>?_) (λf=>?_)
   .refine go 7 ⟨O3,O3,?_⟩
    try (have m:(dg U y).getD k 0=0:=by simp [List.getD,bD (by omega:(dg U y).length<=k)])
    exact Oj () aA ⟨by first|rfl|(rw [m];rfl),aA⟩ aA
   .refine go 1 ?_
    try (have m:(dg U y).getD k 0=0:=by simp [List.getD,bD (by omega:(dg U y).length<=k)])
    exact Oj () aA ⟨by first|rfl|(rw [m];rfl),aA⟩ aA
  .rintro _ -;refine go 9 ⟨O3,O3,?_⟩;refine dt (Ylq J J J J O1 Zzz)<|go 4 ⟨O3,?_⟩;refine tt (Lj (i:=3) (enc:=Mb) _ J J J J J J pU J s.h O4 O3) (λ_ _=>?_);refine go 8 ⟨O1,?_⟩;exact Yq (k+1,_,_) ⟨O2,O9,Le a _ _ (bN _ Xm),Yhr _ _ _,Yce p (Xh Xm (Na Xi x) k) (Xh Xm (Na Xi y) k) j O1⟩ O2 K2 K1
 .refine go 8 ?_;refine cl 3 [3] (Pr _ _) λ_ _=>?_;refine Xp (Zbd 3 J J pU)<|go 4 ?_;obtain rfl:k=(dg U x).length:=O1;have t:tz o=dg U (x-y):=by rw [<-Kj Xi _ a];congr 1;have g:(dg U y).length<=(dg U x).length:=O1;rw [Nn U o _ O1,Nn U (dg U y) _ g,Nn U (dg U x) _ (aI _),Nh Xi,Nh Xi]at j;have z:=Zgg Xm o a;rw [b]at z;have u:c=0\/c=1:=O1;rcases u with rfl|rfl<;>omega
  exact Xj h _ results224 J aA (gow 3 Za t)
def Zbv(v w:Value)(x y:Nat)(q:bl x<=4294967296)(s:bl y<=4294967296):Cal prog 223 #[v,w] [Ea v x,Ea w y] false (G:=Int) (λr=>(r<0↔x<y)/\(0<r↔y<x)) (λr=> .int .i64 r) (λr=>[]):=by
 refine Zf func223 ntmps223 λu t p a=>?_;have m:=Nq x;have n:=Nq y;refine go 15 ?_;refine Zc J (λe=>?_) (λe=>?_)
 .refine go 12 ⟨O1,?_⟩;exact Xj a _ results223 J ⟨⟨λh=>Zad Xi O1,λh=>by have:=Pu (dS h);omega⟩,⟨λh=>Zad Xi O1,λh=>by have:=Pu (dS h);omega⟩⟩ Za
 .have c:(dg U x).length=(dg U y).length:=O1;refine go 12 ⟨O1,?_⟩;refine lp (G:=Nat) [0,1] [0,1,2] (λk=>[(5,.int .i64 ((k:Int)-1))]) (λk=>[]) (λk=>(k<=(dg U x).length)/\((dg U x).drop k=(dg U y).drop k)) (λk=>k) (dg U x).length ⟨O2,by rw [iO,c,iO]⟩ K1 aA ?_;rintro k ⟨o,d⟩;refine go 7 ?_;refine Zc J (λf=>?_) (λf=>?_)
  .refine go 6 ?_;refine Xw (λ_=>False) [(0,0),(1,0),(2,0),(3,0),(4,0),(5,0),(6,0),(7,0),(8,0),(9,0)]<|go 2 ?_;refine Xn J J (Xr (Zy (ii:=1) (i:=k-1) J J J J Zo Pk Lx))<|go 3 ⟨O3,?_⟩;refine Xn J J (Xr (Zy (ii:=2) (i:=k-1) J J J J Zo Pk Lx))<|go 5 ⟨O3,?_⟩;refine Zc J (λg=>?_) (λg=>?_)
   .refine go 12 ?_;have b:=Zp1 Xm (xs:=dg U x) (ys:=dg U y) (Na Xi x) (k:=k-1) O1 O1 (by rw [show k-1+1=k by omega];exact d) O1;rw [Nh Xi,Nh Xi]at b;exact Xj a (-1) results223 J O1 Za
   .refine go 1 ?_;refine Xw (λ_=>False) [(0,0),(1,0),(2,0),(3,0),(4,0),(5,0),(6,0),(7,0),(8,0),(9,0)]<|go 2 ?_;refine Xn J J (Xr (Zy (ii:=1) (i:=k-1) J J J J Zo Pk Lx))<|go 3 ⟨O3,?_⟩;refine Xn J J (Xr (Zy (ii:=2) (i:=k-1) J J J J Zo Pk Lx))<|go 5 ⟨O3,?_⟩;refine Zc J (λj=>?_) (λj=>?_)
    .refine go 12 ?_;have b:=Zp1 Xm (xs:=dg U y) (ys:=dg U x) (Na Xi y) (k:=k-1) O1 O1 (by rw [show k-1+1=k by omega];exact d.symm) O1;rw [Nh Xi,Nh Xi]at b;exact Xj a 1 results223 J O1 Za
    .refine go 9 ⟨O1,?_⟩;exact Yq (k-1) ⟨O2,by have:=Zf3 (xs:=dg U x) (ys:=dg U y) (k:=k-1) O1 O1 (by rw [show k-1+1=k by omega];exact d) O1;exact this⟩ O2 ⟨by rw [show(((k-1:Nat):Int)-1)=(k:Int)-1-1 by omega];rfl,aA⟩ aA
  .refine go 11 ?_;obtain rfl:k=0:=O1;have l:x=y:=(Zg8 Xi).1 (by simpa using d);exact Xj a 0 results223 J O1 Za
def Yhx(x y:Nat)(b:x<U)(c:y<U):Xo prog 268 #[.int .u64 (x:Int),.int .u64 (y:Int)] [] (.tuple #[.int .u64 ((x*y/U:Nat):Int),.int .u64 ((x*y%U:Nat):Int)]):=by refine Zf func268 ntmps268 λf e d a=>?_;simp only [U]at b c;refine go 9 ?_;refine dt (Zqu J J J b)<|go 6 ?_;refine dt (Gk (n:=32) (n':=4294967296) J J J J J)<|go 6 ?_;refine dt (Zqu J J J c)<|go 6 ?_;refine dt (Gk (n:=32) (n':=4294967296) J J J J J)<|go 7 ?_;refine dt (Dr J J J)<|go 7 ?_;refine dt (Dr J J J)<|go 1 ?_;refine dt (Gk (n:=32) (n':=4294967296) J J J J J)<|dt (Cp J J J)<|go 6 ?_;refine dt (Zqu J J J (bN _ Xm))<|go 6 ?_;refine dt (Gk (n:=32) (n':=4294967296) J J J J J)<|go 8 ?_;refine dt (Dr J J J)<|dt (Cp J J J)<|go 7 ?_;refine dt (Dr J J J)<|go 1 ?_;refine dt (Cp J J J)<|go 1 ?_;refine dt (Gk (n:=32) (n':=4294967296) J J J J J)<|dt (Cp J J J)<|go 7 ?_;refine dt (Dr J J J)<|go 4 ?_;exact Mn a () results268 (by rw [Yeq b c _ _ rfl rfl]) aA Za
def Zxf(v w:Value)(x y:Nat)(H:bl x<=4294967296)(Q:bl y<=4294967296):Cal prog 220 #[v,w] [Ea v x,Ea w y] false (G:=Value) (λr=>True) (λr=>r) (λr=>[Ea r (x*y)]):=by
 refine Zf func220 ntmps220 λS R D B=>?_;have N:=Nq x;have P:=Nq y;refine go 12 ⟨O1,?_⟩;refine tt (Gt (i:=3) (n:=(dg U x).length+(dg U y).length) (by_:=8) (enc:=Mb) 0 J J J J Pk ti232 J pU.cells pU.pos J J J D.h) λv _=>go 12 ?_;refine lp (G:=Nat×List Nat) [1,5,20,21] [0,1,2] (λq=>[(22,.int .i64 (q.1:Int))]) (λq=>[(3,Ox 1 232 Mb v q.2)]) (λq=>(q.1<=(dg U x).length)/\(q.2.length=(dg U x).length+(dg U y).length)/\(∀d∈q.2,d<U)/\(∀j,q.1+(dg U y).length<=j->q.2.getD j 0=0)/\(Ye U (q.2.take (q.1+(dg U y).length))=Ye U ((dg U x).take q.1)*y)) (λq=>(dg U x).length-q.1) (0,List.replicate ((dg U x).length+(dg U y).length) 0) ⟨O2,O7,Ok _ Xm,λj _=>Kh _ j,by simp [Ye,nS,Gb]⟩ K1 K1 ?_;rintro⟨i,o⟩ ⟨hi,t,g,I,u⟩;dsimp only at hi t g I u;dsimp only;refine go 6 ?_;refine Zc J (λm=>?_) (λm=>?_)
 .refine go 27 ⟨O3,O3,?_⟩;refine lp (G:=Nat×List Nat×Nat) [1,5,6,7,20,21,22,27,28] [0,1,2] (λq=>[(29,.int .i64 (q.1:Int)),(8,.int .u64 (q.2.2:Int))]) (λq=>[(3,Ox 1 232 Mb v q.2.1)]) (λq=>(q.1<=(dg U y).length)/\(q.2.1.length=(dg U x).length+(dg U y).length)/\(∀d∈q.2.1,d<U)/\(∀j,i+(dg U y).length<=j->q.2.1.getD j 0=0)/\(q.2.2<U)/\(Ye U (q.2.1.take (i+(dg U y).length))+q.2.2*U^(i+q.1)=Ye U ((dg U x).take i)*y+(dg U x).getD i 0*U^i*Ye U ((dg U y).take q.1))) (λq=>(dg U y).length-q.1) (0,o,0) ⟨O2,t,g,I,Xm,by rw [u];simp [Ye]⟩ K2 K1 ?_;rintro⟨k,p,c⟩ ⟨M,z,a,l,f,h⟩;dsimp only at M z a l f h;dsimp only;have b:=Yaq (Xh Xm (Na Xi x) i) (Xh Xm (Na Xi y) k) (Xh Xm a (i+k)) f;refine go 6 ?_;refine Zc J (λs=>?_) (λs=>?_)
  .refine go 17 ⟨O3,O3,?_⟩;refine cl 3 [] (Yhx _ _ (Xh Xm (Na Xi _) _) (Xh Xm (Na Xi _) _)) λ_ _=>?_;refine go 14 ⟨O1,?_⟩;refine dt (Zy (ii:=3) (i:=i+k) J J J J (Yn pU) Pk Lx)<|go 1 ⟨O3,?_⟩;refine dt (Zpt (c:=0) J J J J O1 Zhc)<|go 11 ?_;refine dt (Cp J J J)<|go 7 ?_;refine dt (Zpt (c:=0) J J J J O1 Zhc)<|go 15 ⟨O1,?_⟩;refine dt (Cp J J J)<|dt (Zy (ii:=3) (i:=i+k) J J J J (Yn pU) Pk Lx)<|tt (Lj (i:=3) (enc:=Mb) _ J J J J J J pU J D.h O4 O3) (λ_ _=>?_);refine go 8 ⟨O1,?_⟩;exact Yq (k+1,_,_) ⟨O2,O9,Le a _ _ (bN _ Xm),λj F=>by rw [Of _ _ _ _ _ O1,aE O1];exact l j F,b.2,Yep h O1 O1 b.1⟩ O2 K2 K1
  .refine go 5 ?_;obtain rfl:k=(dg U y).length:=O1;have e:=h;rw [bZ (aI (dg U y).length),Nh Xi]at e;refine go 7 ⟨O1,?_⟩;refine dt (Zy (ii:=3) (i:=i+(dg U y).length) J J J J (Yn pU) Pk Lx)<|tt (Lj (i:=3) (enc:=Mb) _ J J J J J J pU J D.h O4 O3) (λ_ _=>?_);refine go 7 ⟨O1,?_⟩;exact Yq (i+1,_) ⟨O2,O9,Le a _ _ f,λj F=>by rw [Of _ _ _ _ _ O1,aE O1];exact l j O1,by dsimp only;rw [show i+1+(dg U y).length=i+(dg U y).length+1 by omega,Dw _ _ _ _ O1,Xv,bK,<-e]⟩ O2 K1 K1
 .refine go 8 ?_;refine cl 3 [3] (Pr _ _) λ_ _=>?_;refine Xp (Zbd 3 J J pU)<|go 4 ?_;obtain rfl:i=(dg U x).length:=O1;have H:tz o=dg U (x*y):=by rw [<-Kj Xi _ g];congr 1;rw [Nn U o _ O1,bZ (aI _),Nh Xi]at u;exact u
  exact Xj B _ results220 J aA (gow 3 Za H)
set_option maxHeartbeats 1000000 in
def Ztn(x:Nat)(q:x<U):Xo prog 251 #[.int .u64 (x:Int)] [] (.int .i64 (bl x:Int)):=by
 refine Zf func251 ntmps251 λz y w g=>?_;simp only [U]at q;have c:=Hg x 32;have a:=Hg x 16;have l:=Hg x 8;have b:=Hg x 24;have d:=Hg x 40;have e:=Hg x 48;have f:=Hg x 56;have f32:=Zba 32 x;have f16:=Zba 16 x;have f8:=Zba 8 x;have f24:=Zba 24 x;have f40:=Zba 40 x;have f48:=Zba 48 x;have f56:=Zba 56 x;have r:=aX x (2^32) (2^16);have s:=aX x (2^32) (2^8);have t:=aX x (2^16) (2^8);have u:=aX (x/2^32) (2^16) (2^8);have v:=aX x (2^32) (2^16*2^8);simp only [Nat.reducePow,Nat.reduceMul]at *;refine go 12 ?_;refine Zc J (λm=>?_) (λm=>?_)
 .refine go 3 ?_;refine dt (Gk (n:=32) (n':=4294967296) J J J J J)<|go 14 ?_;refine Zc J (λo=>?_) (λo=>?_)
  .refine go 3 ?_;refine dt (Gk (n:=16) (n':=65536) J J J J J)<|go 16 ⟨O1,?_⟩;refine Zc J (λp=>?_) (λp=>?_)
   .refine go 3 ?_;refine dt (Gk (n:=8) (n':=256) J J J J J)<|go 13 ⟨O1,?_⟩;refine dt (Zdv J J Al uT5)<|dt (Zhw J J J uT9 J O1 O4 O8)<|dt (Za2 J J uT5 uT3 (Br _))<|go 5 ⟨Dj _ O1 O1,?_⟩;exact Xj g () results251 (Bq (n:=x) O1 (by first|omega|(simp only [aX,Nat.reduceMul,c,a,l,b,d,e,f];omega))).symm aA Za
   .refine go 6 ?_;refine dt (Zdv J J Al uT5)<|dt (Zhw J J J uT9 J O1 O4 O8)<|dt (Za2 J J uT5 uT3 (Br _))<|go 5 ⟨Dj _ O1 O1,?_⟩;exact Xj g () results251 (Bq (n:=x) O1 (by first|omega|(simp only [aX,Nat.reduceMul,c,a,l,b,d,e,f];omega))).symm aA Za
  .refine go 9 ?_;refine Zc J (λi=>?_) (λi=>?_)
   .refine go 3 ?_;refine dt (Gk (n:=8) (n':=256) J J J J J)<|go 13 ⟨O1,?_⟩;refine dt (Zdv J J Al uT5)<|dt (Zhw J J J uT9 J O1 O4 O8)<|dt (Za2 J J uT5 uT3 (Br _))<|go 5 ⟨Dj _ O1 O1,?_⟩;exact Xj g () results251 (Bq (n:=x) O1 (by first|omega|(simp only [aX,Nat.reduceMul,c,a,l,b,d,e,f];omega))).symm aA Za
   .refine go 6 ?_;refine dt (Zdv J J Al uT5)<|dt (Zhw J J J uT9 J O1 O4 O8)<|dt (Za2 J J uT5 uT3 (Br _))<|go 5 ⟨Dj _ O1 O1,?_⟩;exact Xj g () results251 (Bq (n:=x) O1 (by first|omega|(simp only [aX,Nat.reduceMul,c,a,l,b,d,e,f];omega))).symm aA Za
 .refine go 9 ?_;refine Zc J (λh=>?_) (λh=>?_)
  .refine go 3 ?_;refine dt (Gk (n:=16) (n':=65536) J J J J J)<|go 16 ⟨O1,?_⟩;refine Zc J (λj=>?_) (λj=>?_)
   .refine go 3 ?_;refine dt (Gk (n:=8) (n':=256) J J J J J)<|go 13 ⟨O1,?_⟩;refine dt (Zdv J J Al uT5)<|dt (Zhw J J J uT9 J O1 O4 O8)<|dt (Za2 J J uT5 uT3 (Br _))<|go 5 ⟨Dj _ O1 O1,?_⟩;exact Xj g () results251 (Bq (n:=x) O1 (by first|omega|(simp only [aX,Nat.reduceMul,c,a,l,b,d,e,f];omega))).symm aA Za
   .refine go 6 ?_;refine dt (Zdv J J Al uT5)<|dt (Zhw J J J uT9 J O1 O4 O8)<|dt (Za2 J J uT5 uT3 (Br _))<|go 5 ⟨Dj _ O1 O1,?_⟩;exact Xj g () results251 (Bq (n:=x) O1 (by first|omega|(simp only [aX,Nat.reduceMul,c,a,l,b,d,e,f];omega))).symm aA Za
  .refine go 9 ?_;refine Zc J (λk=>?_) (λk=>?_)
   .refine go 3 ?_;refine dt (Gk (n:=8) (n':=256) J J J J J)<|go 13 ⟨O1,?_⟩;refine dt (Zdv J J Al uT5)<|dt (Zhw J J J uT9 J O1 O4 O8)<|dt (Za2 J J uT5 uT3 (Br _))<|go 5 ⟨Dj _ O1 O1,?_⟩;exact Xj g () results251 (Bq (n:=x) O1 (by first|omega|(simp only [aX,Nat.reduceMul,c,a,l,b,d,e,f];omega))).symm aA Za
   .refine go 6 ?_;refine dt (Zdv J J Al uT5)<|dt (Zhw J J J uT9 J O1 O4 O8)<|dt (Za2 J J uT5 uT3 (Br _))<|go 5 ⟨Dj _ O1 O1,?_⟩;exact Xj g () results251 (Bq (n:=x) O1 (by first|omega|(simp only [aX,Nat.reduceMul,c,a,l,b,d,e,f];omega))).symm aA Za
def Zqd(x:Nat)(b:x<U):Xo prog 272 #[.int .u64 (x:Int)] [] (.int .i64 ((64-bl x:Nat):Int)):=by refine Zf func272 ntmps272 λf e d a=>?_;have c:bl x<=64:=(Xz 64 x).2 b;refine go 8 ?_;refine cl 0 [] (Ztn _ b) λ_ _=>?_;refine go 5 ⟨O1,?_⟩;exact Xj a () results272 (by congr 1;omega) aA Za
def Zkf(v:Value)(x:Nat)(g:bl x<=1099511627776:=by omega):Xo prog 232 #[v] [Ea v x] (.int .i64 (bl x:Int)):=by
 refine Zf func232 ntmps232 λk j f b=>?_;have e:=Nq x;refine go 13 ?_;refine Zc J (λa=>?_) (λa=>?_)
 .refine go 7 ?_;have c:x=0:=(Pn Xi x).1 O1;exact Xj b () results232 (by rw [c];rfl) aA Za
 .have d:0<x:=by rcases aU x with rfl|h;(simp [Hs]at a);exact h
  obtain⟨l,m,n,o⟩:=Zwk d;refine go 11 ⟨O1,O1,?_⟩;refine dt (Zy (ii:=1) (i:=(dg U x).length-1) J J J J Zo Pk Lx)<|go 1 ⟨O3,?_⟩;refine cl 1 [] (Zqd _ (Xh Xm (Na Xi _) _)) λ_ _=>?_;refine go 5 ⟨O1,?_⟩;exact Xj b () results232 (by congr 1;omega) aA Za
def Ybe(v:Value)(xs:List Nat)(g:xs.length*8<=140737488355328):Ymx prog 309 #[v] [Ym 1 Mb v xs] (G:=Value) (λr=>True) (λr=>r) (λr=>Ox 1 232 Mb r xs):=by
 refine Zy6 func309 J ntmps309 J K1 ?_;intro k h d e;have d:=Hw.mk d;simp only [Qv,Yy];refine Oi (f_nil (i:=1) J Zo) λc=>go 9 ?_;refine dt (Zyo J J J (i:=1) J Zo Pk)<|go 2 ?_;refine Mr J (λb=>?_) (λb=>?_)
 .refine go 7 ?_;obtain rfl:xs=[]:=c (by simpa using b);exact Yg (Oy 9 1 232 Mb)<|Znl (.inl J) (.slice none 0 0) _ (λa w hs=>Zde hs results309 J) J aA J 9 J J J
 .refine go 4 ?_;refine tt (t_bs0 (i:=2) (enc:=Mb) J J J Pk pU J d.h) λv _=>go 1 ?_;refine tt (Lp (i:=2) (j:=1) (by_:=8) J J J J J J O4 J Zo Pk ti232 J pU J J J O9 O4 J d.h) λf _=>go 4 ?_;exact Znl (.inl J) _ _ (λa w hs=>Zde hs results309 J) J aA J 2 J (by rfl) J
set_option maxHeartbeats 1600000 in
def Zto(h l y:Nat)(hl:l<U)(hy:y<U)(hh:h<y):Xo prog 294 #[.int .u64 (h:Int),.int .u64 (l:Int),.int .u64 (y:Int)] [] (.tuple #[.int .u64 (((h*U+l)/y:Nat):Int),.int .u64 (((h*U+l)%y:Nat):Int)]):=by
 refine Zf func294 ntmps294 λw0 sc hw a8=>?_;have c0:U=18446744073709551616:=rfl;have hp:0<y:=O1;have c1:bl y<=64:=(Xz 64 y).2 hy;obtain⟨s,hs⟩:∃s,s=64-bl y:=⟨_,rfl⟩;obtain⟨Y,i⟩:∃Y,Y=y*2^s:=⟨_,rfl⟩;obtain⟨b6,S⟩:=Yek hp hy hs;rw [<-i]at b6 S;have V:=S;obtain⟨D,hD⟩:∃D,D=(h*U+l)*2^s:=⟨_,rfl⟩;obtain⟨u,Z⟩:∃u,u=D/U:=⟨_,rfl⟩;obtain⟨v,a0⟩:∃v,v=D%U:=⟨_,rfl⟩;obtain⟨v1,Q⟩:∃x,x=v/4294967296:=⟨_,rfl⟩;obtain⟨v0,P⟩:∃x,x=v%4294967296:=⟨_,rfl⟩;obtain⟨e,b1⟩:∃x,x=Y/4294967296:=⟨_,rfl⟩;obtain⟨N,a9⟩:∃x,x=Y%4294967296:=⟨_,rfl⟩;have f:Y=e*4294967296+N:=O1;have b7:=shl_lt hh (show y*2^s<U by rw [<-i];exact S);have c3:u<Y:=by rw [Z,hD,i];exact top_lt hl hh
 have hu:u<e*4294967296+N:=O1;have c4:v<U:=by rw [a0];exact bN _ Xm
 have b0:2147483648<=e:=O1;have j:e<4294967296:=O1;have g:N<4294967296:=O1;have M:v1<4294967296:=O1;have I:v0<4294967296:=O1;obtain⟨Q1,o⟩:∃x,x=(u*4294967296+v1)/Y:=⟨_,rfl⟩;obtain⟨t,H⟩:∃x,x=(u*4294967296+v1)%Y:=⟨_,rfl⟩;have c2:t<Y:=by rw [H];exact bN _ O1
 have ht:t<e*4294967296+N:=O1;obtain⟨Q0,m⟩:∃x,x=(t*4294967296+v0)/Y:=⟨_,rfl⟩;have R:0<Y:=O1;obtain⟨a6,a7⟩:=dv_two (D:=D) R Z a0 Q P;rw [<-o,<-H,<-m]at a6;rw [<-H]at a7;have b8:Q0<4294967296:=by rw [m,f];exact dv_Q I ht
 have b9:Q1<4294967296:=by rw [o,f];exact dv_Q M hu
 refine go 13 ?_;refine Zc J (λa1=>?_) (λa1=>?_)
 .exfalso;omega
 .refine go 10 ?_;refine Zc J (λa2=>?_) (λa2=>?_)
  .exfalso;omega
  .refine go 9 ?_;refine Zc J (λa3=>?_) (λa3=>?_)
   .refine go 1 ?_;refine Xw (λ_=>False) [(0,0),(1,0),(2,0),(3,0),(4,0),(5,0),(6,0),(7,3)]<|go 2 ?_;refine Xn J J (Xr (Ybz J J J))<|go 2 ?_;refine Xn J J (Xr (u_rem J J J O1))<|go 6 ?_;exact Mn a8 () results294 (by have h0:h=0:=O1;rw [h0];simp) aA Za
   .refine go 5 ?_;refine cl 0 [] (Zqd _ hy) λ_ _=>?_;refine dt (Zpu J J uT3 underlying230 (by simp only [U];omega))<|go 4 ?_;refine Zg (Lk 8 (v':= .int .u64 (s:Int)) J (by rw [hs]))<|go 3 ?_;refine dt (Zme J J J J)<|go 4 ?_;refine Zg (Lk 2 (v':= .int .u64 (Y:Int)) J (by rw [i,aS (by rw [<-i];exact V)]))<|go 2 ?_;refine dt (Gk (n:=32) (n':=4294967296) J J J J J)<|go 6 ?_;refine dt (Zqu J J J)<|go 7 ?_;refine dt (Zme J J J J)<|go 2 ?_;refine dt (Zdh J J J (by first|exact bN _ Xm|omega))<|dt (Zmd J J (n:=64-s) J (by simp only [U];omega))<|dt (Yiw J J J (bN _ Xm) (aZ (eW _ _) hl))<|go 4 ?_;refine Zg (Lk 11 (v':= .int .u64 (u:Int)) J (by rw [Z,hD,Yee O1 b7 hl]))<|go 3 ?_;refine dt (Zme J J J J)<|go 4 ?_;refine Zg (Lk 12 (v':= .int .u64 (v:Int)) J (by rw [a0,hD,Yas h l s]))<|go 2 ?_;refine dt (Gk (n:=32) (n':=4294967296) J J J J J)<|go 4 ?_;refine Zg (Lk 13 (v':= .int .u64 (v1:Int)) J (by rw [Q]))<|go 2 ?_;refine dt (Zqu J J J)<|go 4 ?_;refine Zg (Lk 14 (v':= .int .u64 (v0:Int)) J (by rw [Zts,P]))<|Zg (Lk 9 (v':= .int .u64 (e:Int)) J (by rw [b1]))<|Zg (Lk 10 (v':= .int .u64 (N:Int)) J (by rw [Zts,a9]))<|go 3 ?_;refine dt (Ybz J J J)<|go 8 ?_;refine dt (Dr J J J)<|dt (Zdh J J J (by first|exact bN _ Xm|omega))<|go 3 ?_;refine jn (G:=Unit) [2,8,9,10,11,13,14] [0] (λ_=>[(15,.int .u64 ((Q1:Nat):Int))]) (λ_=>[]) (λ_=>True) ?_ ?_
    .refine go 1 ?_;refine Zg (Lk 16 (v':= .int .u64 ((u%e:Nat):Int)) J (by rw [rsub O1 O1]))<|lp (G:=Nat×Nat) [2,8,9,10,11,13,14] [0] (λq=>[(15,.int .u64 (q.1:Int)),(16,.int .u64 (q.2:Int))]) (λq=>[]) (λq=>(dvI u v1 e N q.1 q.2)/\(q.2<4294967296)) (λq=>q.1) (u/e,u%e) ⟨dv0 b0 j g M hu,gN (bN _ O1) j⟩ K2 aA ?_;rintro⟨a,r⟩ ⟨k,hr⟩;dsimp only at k hr;dsimp only;have b4:=k.1;have b5:=k.2.1;refine go 6 ?_;refine Yl (d:=69) J (λb2=>?_) (λb2=>?_)
     .refine go 16 ?_;have b:=Zir O1 k M hu O1;have c:=b.1;refine go 2 ?_;refine dt (Zdh (n:=1) J J J)<|go 4 ?_;refine Zg (Lk 15 (v':= .int .u64 ((a-1:Nat):Int)) J (Zao (Zs3 c O1)))<|go 3 ?_;refine dt (Cp J J J)<|go 4 ?_;refine Zg (Lk 16 (v':= .int .u64 ((r+e:Nat):Int)) J (Zao (aS O1)))<|go 5 ?_;refine Zc J (λa4=>?_) (λa4=>?_)
      .refine go 4 ?_;have z:Q1=a-1:=by rw [o,f];exact(Zf1 O1 g b.2 O1 O1).symm
       exact Oj () aA ⟨by rw [z];rfl,aA⟩ aA
      .refine go 2 ?_;exact Yq (a-1,r+e) ⟨b.2,O10⟩ O2 K2 aA
     .have W:=Zr7 (show a<4294967296 by omega) g;have e1:=aS (show a*N<U from W);have e2:=aS (show 4294967296*r<U by omega);have e3:=aS (show 4294967296*r+v1<U by omega);refine go 2 ?_;refine Kv (Dr J J J) J J<|go 1 ?_;refine Kv (Dr J J J) J J<|go 1 ?_;refine Kv (Cp J J J) J J<|go 4 ?_;refine Zc J (λp=>?_) (λp=>?_)
      .rw [e1,e2,e3]at p;refine go 4 ?_;have b:=Zir O1 k M hu O1;have c:=b.1;refine go 2 ?_;refine dt (Zdh (n:=1) J J J)<|go 4 ?_;refine Zg (Lk 15 (v':= .int .u64 ((a-1:Nat):Int)) J (Zao (Zs3 c O1)))<|go 3 ?_;refine dt (Cp J J J)<|go 4 ?_;refine Zg (Lk 16 (v':= .int .u64 ((r+e:Nat):Int)) J (Zao (aS O1)))<|go 5 ?_;refine Zc J (λB=>?_) (λB=>?_)
       .refine go 4 ?_;have z:Q1=a-1:=by rw [o,f];exact(Zf1 O1 g b.2 O1 O1).symm
        exact Oj () aA ⟨by rw [z];rfl,aA⟩ aA
       .refine go 2 ?_;exact Yq (a-1,r+e) ⟨b.2,O10⟩ O2 K2 aA
      .rw [e1,e2,e3]at p;refine go 4 ?_;have z:Q1=a:=by rw [o,f];exact(Zpq O1 k O1).symm
       exact Oj () aA ⟨by rw [z];rfl,aA⟩ aA
    .rintro _ -;refine go 3 ?_;refine dt (Dr J J J)<|go 1 ?_;refine dt (Cp J J J)<|go 2 ?_;refine dt (Dr J J J)<|dt (Zdh J J J (by first|exact bN _ Xm|omega))<|go 4 ?_;refine Zg (Lk 17 (v':= .int .u64 (t:Int)) J (by rw [H,o,Zyc R V]))<|go 3 ?_;refine dt (Ybz J J J)<|go 8 ?_;refine dt (Dr J J J)<|dt (Zdh J J J (by first|exact bN _ Xm|omega))<|go 3 ?_;refine jn (G:=Unit) [2,8,14,15,17] [0] (λ_=>[(18,.int .u64 ((Q0:Nat):Int))]) (λ_=>[]) (λ_=>True) ?_ ?_
     .refine go 1 ?_;refine Zg (Lk 16 (v':= .int .u64 ((t%e:Nat):Int)) J (by rw [rsub O1 O1]))<|lp (G:=Nat×Nat) [2,8,9,10,14,15,17] [0] (λq=>[(18,.int .u64 (q.1:Int)),(16,.int .u64 (q.2:Int))]) (λq=>[]) (λq=>(dvI t v0 e N q.1 q.2)/\(q.2<4294967296)) (λq=>q.1) (t/e,t%e) ⟨dv0 b0 j g I ht,gN (bN _ O1) j⟩ K2 aA ?_;rintro⟨a,r⟩ ⟨k,hr⟩;dsimp only at k hr;dsimp only;have b4:=k.1;have b5:=k.2.1;refine go 6 ?_;refine Yl (d:=104) J (λb3=>?_) (λb3=>?_)
      .refine go 16 ?_;have b:=Zir O1 k I ht O1;have c:=b.1;refine go 2 ?_;refine dt (Zdh (n:=1) J J J)<|go 4 ?_;refine Zg (Lk 18 (v':= .int .u64 ((a-1:Nat):Int)) J (Zao (Zs3 c O1)))<|go 3 ?_;refine dt (Cp J J J)<|go 4 ?_;refine Zg (Lk 16 (v':= .int .u64 ((r+e:Nat):Int)) J (Zao (aS O1)))<|go 5 ?_;refine Zc J (λa5=>?_) (λa5=>?_)
       .refine go 4 ?_;have z:Q0=a-1:=by rw [m,f];exact(Zf1 O1 g b.2 O1 O1).symm
        exact Oj () aA ⟨by rw [z];rfl,aA⟩ aA
       .refine go 2 ?_;exact Yq (a-1,r+e) ⟨b.2,O10⟩ O2 K2 aA
      .have W:=Zr7 (show a<4294967296 by omega) g;have e1:=aS (show a*N<U from W);have e2:=aS (show 4294967296*r<U by omega);have e3:=aS (show 4294967296*r+v0<U by omega);refine go 2 ?_;refine Kv (Dr J J J) J J<|go 1 ?_;refine Kv (Dr J J J) J J<|go 1 ?_;refine Kv (Cp J J J) J J<|go 4 ?_;refine Zc J (λw=>?_) (λw=>?_)
       .rw [e1,e2,e3]at w;refine go 4 ?_;have b:=Zir O1 k I ht O1;have c:=b.1;refine go 2 ?_;refine dt (Zdh (n:=1) J J J)<|go 4 ?_;refine Zg (Lk 18 (v':= .int .u64 ((a-1:Nat):Int)) J (Zao (Zs3 c O1)))<|go 3 ?_;refine dt (Cp J J J)<|go 4 ?_;refine Zg (Lk 16 (v':= .int .u64 ((r+e:Nat):Int)) J (Zao (aS O1)))<|go 5 ?_;refine Zc J (λF=>?_) (λF=>?_)
        .refine go 4 ?_;have z:Q0=a-1:=by rw [m,f];exact(Zf1 O1 g b.2 O1 O1).symm
         exact Oj () aA ⟨by rw [z];rfl,aA⟩ aA
        .refine go 2 ?_;exact Yq (a-1,r+e) ⟨b.2,O10⟩ O2 K2 aA
       .rw [e1,e2,e3]at w;refine go 4 ?_;have z:Q0=a:=by rw [m,f];exact(Zpq O1 k O1).symm
        exact Oj () aA ⟨by rw [z];rfl,aA⟩ aA
     .rintro _ -;refine go 3 ?_;refine dt (Dr J J J)<|go 1 ?_;refine dt (Cp J J J)<|go 1 ?_;refine dt (Dr J J J)<|go 1 ?_;refine dt (Cp J J J)<|go 2 ?_;refine dt (Dr J J J)<|dt (Zdh J J J (by first|exact bN _ Xm|omega))<|go 1 ?_;refine dt (Zmd J J J J)<|go 5 ?_;have hA:(Q1*4294967296%U+Q0)%U=(h*U+l)/y:=by rw [<-Zmn _ y s,<-hD,<-i,a6];simp only [U];omega
      have hB:((t*4294967296%U+v0)%U+(U-(Q0*Y)%U))%U/2^s=(h*U+l)%y:=by rw [<-Zmm _ y s,<-hD,<-i,a7,m,Zyc R V]
      exact Mn a8 () results294 (by rw [hA,hB]) aA Za
def Yap(v:Value)(x d:Nat)(u:bl x<=8589934592)(f:0<d)(g:d<U):Cal prog 292 #[v,.int .u64 (d:Int)] [Ea v x] false (G:=Value) (λr=>True) (λr=> .tuple #[r,.int .u64 ((x%d:Nat):Int)]) (λr=>[Ea r (x/d)]):=by
 refine Zf func292 ntmps292 λy w l j=>?_;have t:=Nq x;refine go 10 ?_;refine tt (Gt (i:=2) (n:=(dg U x).length) (by_:=8) (enc:=Mb) 0 J J J J Pk ti232 J pU.cells pU.pos J J J l.h) (λv _=>?_);refine go 18 ⟨O1,?_⟩;refine lp (G:=Nat×List Nat×Nat) [0,1,6] [0,1] (λq=>[(8,.int .i64 ((q.1:Int)-1)),(7,.int .u64 (q.2.2:Int))]) (λq=>[(2,Ox 1 232 Mb v q.2.1)]) (λq=>(q.1<=(dg U x).length)/\(q.2.1.length=(dg U x).length)/\(q.2.2<d)/\(∀d∈q.2.1,d<U)/\(Ye U (q.2.1.drop q.1)*d+q.2.2=Ye U ((dg U x).drop q.1))) (λq=>q.1) ((dg U x).length,List.replicate (dg U x).length 0,0) ⟨aI _,O7,O2,Ok _ Xm,by simp [Ye]⟩ K2 K1 ?_;rintro⟨k,o,r⟩ ⟨m,h,c,a,e⟩;dsimp only at m h c a e;dsimp only;refine go 7 ?_;refine Zc J (λb=>?_) (λb=>?_)
 .refine go 10 ?_;refine dt (Zy (ii:=1) (i:=k-1) J J J J Zo Pk Lx)<|go 2 ⟨O3,?_⟩;refine cl 2 [] (Zto _ _ _ (Xh Xm (Na Xi _) _) g c) λ_ _=>go 3 ?_;refine dt (Zy (ii:=2) (i:=k-1) J J J J (Yn pU) Pk Lx)<|tt (Lj (i:=2) (enc:=Mb) _ J J J J J J pU J l.h O4 O3) (λ_ _=>?_);refine go 9 ⟨O1,?_⟩;exact Yq (k-1,_,_) ⟨O2,O9,bN _ f,Le a _ _ (Zsv (Xh Xm (Na Xi x) _) c),Zt3 f O1 O1 (by rw [show k-1+1=k by omega];exact e)⟩ O2 ⟨by rw [show(((k-1:Nat):Int)-1)=(k:Int)-1-1 by omega];rfl,rfl,aA⟩ K1
 .refine go 8 ?_;refine cl 2 [2] (Pr _ _) λ_ _=>?_;refine Xp (Zbd 2 J J pU)<|go 6 ?_;obtain rfl:k=0:=O1;rw [gU,gU,Nh Xi]at e;have s:tz o=dg U (x/d):=by rw [<-Kj Xi _ a,<-e,aP,gL f,cS c,eE]
  have p:r=x%d:=by rw [<-e,aP,iA,aS c]
  exact Mn j _ results292 (by rw [p]) aA (gow 2 Za s)
def Zou(v:Value)(x s:Nat)(V:bl x<=4294967296:=by omega)(hs:s<=4294967296:=by omega):Cal prog 293 #[v,.int .i64 (s:Int)] [Ea v x] false (G:=Value) (λr=>True) (λr=>r) (λr=>[Ea r (x*2^s)]):=by
 refine Zf func293 ntmps293 λY W H z=>?_;obtain⟨w,R⟩:∃w,w=s/64:=⟨_,rfl⟩;obtain⟨b,P⟩:∃b,b=s%64:=⟨_,rfl⟩;have S:=Nq x;refine go 13 ?_;refine Zc J (λm=>?_) (λm=>?_)
 .refine go 7 ?_;refine Yg (Oy 9 1 232 Mb) ?_;have I:x=0:=(Pn Xi x).1 O1;exact Xj z (.slice none 0 0) results293 J aA (gow 9 Za (by rw [I,gM];rfl))
 .refine go 5 ?_;refine dt (Zdt J J J)<|go 1 ?_;refine dt (Zlb J J J)<|go 5 ?_;refine Zg (Lk 5 (v':= .int .i64 (w:Int)) J (by congr 1;omega))<|Zg (Lk 6 (v':= .int .i64 (b:Int)) J (by congr 1;omega))<|go 6 ⟨O1,O1,?_⟩;refine tt (Gt (i:=2) (n:=(dg U x).length+w+1) (by_:=8) (enc:=Mb) 0 J J J J Pk ti232 J pU.cells pU.pos J J J H.h) λv _=>go 12 ?_;refine lp (G:=Nat×List Nat) [5,6,7,23,24] [0,1] (λq=>[(25,.int .i64 (q.1:Int))]) (λq=>[(2,Ox 1 232 Mb v q.2)]) (λq=>(q.1<=(dg U x).length)/\(q.2.length=(dg U x).length+w+1)/\(q.2.getD (w+q.1) 0<2^b)/\(∀j,w+q.1<j->q.2.getD j 0=0)/\(∀d∈q.2,d<U)/\(Ye U (q.2.take ((dg U x).length+w+1))=Ye U ((dg U x).take q.1)*2^b*U^w)) (λq=>(dg U x).length-q.1) (0,List.replicate ((dg U x).length+w+1) 0) ⟨O2,O7,by rw [Kh];exact dO b,λj _=>Kh _ j,Ok _ Xm,by rw [nS,Gb];simp [Ye]⟩ K1 K1 ?_;rintro⟨i,o⟩ ⟨hi,y,N,l,a,D⟩;dsimp only at hi y N l a D;dsimp only;have B:i<(dg U x).length->_:=λQ=>Ycz (xs:=dg U x) (show b<=63 by omega) y.symm (show w+i+1<_ by omega) N (l (w+i+1) O1) (Xh Xm (Na Xi x) i) D;refine go 6 ?_;refine Zc J (λp=>?_) (λp=>?_)
  .refine go 14 ⟨O3,O3,?_⟩;have f:=Xh Xm (Na Xi x) i;refine Xw (λ_=>False) [(0,0),(1,0),(2,0),(3,0),(4,0),(5,0),(6,0),(7,0),(8,0),(9,0),(10,0),(11,3)]<|go 4 ⟨O1,?_⟩;refine Xn J J (Xr (Zy (ii:=2) (i:=w+i) J J J J (Yn pU) Pk Lx))<|go 3 ⟨O3,?_⟩;refine Xn J J (Xr (Zme J J (n:=b) J J))<|Xn J J (Xr (Yiw J J J (Xh Xm a _) (bN _ Xm)))<|Xn J J (Xr (Zy (ii:=2) (i:=w+i) J J J J (Yn pU) Pk Lx))<|r3' J (Lj (i:=2) (enc:=Mb) _ J J J J J J pU J H.h O4 O3) λ_ _=>go 8 ?_;refine Zc J (λt=>?_) (λt=>?_)
   .have c:=Le (Le a (w+i) (o.getD (w+i) 0 ||| (dg U x).getD i 0*2^b%U) (kG (n:=64) (Xh Xm a _) (bN _ Xm))) (w+i+1) ((dg U x).getD i 0/2^(64-b)) (aZ (eW _ _) f);have g:((o.set (w+i) (o.getD (w+i) 0 ||| (dg U x).getD i 0*2^b%U)).set (w+i+1) ((dg U x).getD i 0/2^(64-b))).getD (w+i+1) 0<2^b:=by rw [Of _ _ _ _ _ O9,aH rfl];exact Zej O1 f
    have k:∀j,w+i+1<j->((o.set (w+i) (o.getD (w+i) 0 ||| (dg U x).getD i 0*2^b%U)).set (w+i+1) ((dg U x).getD i 0/2^(64-b))).getD j 0=0:=λj u=>by rw [Of _ _ _ _ _ O9,aE O1,Of _ _ _ _ _ O1,aE O1];exact l j O1
    have e:=B O1;refine go 9 ⟨O1,O1,O1,?_⟩;refine dt (Zmd J J (n:=64-b) J O1)<|dt (Zy (ii:=2) (i:=w+i+1) J J J J (Yn pU) Pk Lx O1 (by simp only [cH];omega))<|tt (Lj (i:=2) (enc:=Mb) _ J J J J J J pU J H.h O4 (by simp only [cH];omega)) (λ_ _=>?_);refine go 7 ⟨O1,?_⟩;exact Yq (i+1,_) ⟨O2,O9,by dsimp only;rw [show w+(i+1)=w+i+1 by omega];exact g,λj u=>by have F:w+(i+1)<j:=u;dsimp only;exact k j O1,c,e⟩ O2 K1 K1
   .obtain rfl:b=0:=O1;have c:=Le a (w+i) (o.getD (w+i) 0 ||| (dg U x).getD i 0*2^0%U) (kG (n:=64) (Xh Xm a _) (bN _ Xm));have g:(o.set (w+i) (o.getD (w+i) 0 ||| (dg U x).getD i 0*2^0%U)).getD (w+i+1) 0<2^0:=by rw [Of _ _ _ _ _ O1,aE O1,l _ O1];exact dO 0
    have k:∀j,w+i+1<j->(o.set (w+i) (o.getD (w+i) 0 ||| (dg U x).getD i 0*2^0%U)).getD j 0=0:=λj u=>by rw [Of _ _ _ _ _ O1,aE O1];exact l j O1
    have e:=B O1;rw [show(dg U x).getD i 0/2^(64-0)=0 from cS f]at e;have h:=Zl3 (o.set (w+i) (o.getD (w+i) 0 ||| (dg U x).getD i 0*2^0%U)) (w+i+1) (by rw [Of _ _ _ _ _ O1,aE O1,l _ O1]);rw [h]at e;refine go 7 ⟨O1,?_⟩;exact Yq (i+1,_) ⟨O2,O9,by dsimp only;rw [show w+(i+1)=w+i+1 by omega];exact g,λj u=>by have F:w+(i+1)<j:=u;dsimp only;exact k j O1,c,e⟩ O2 K1 K1
  .refine go 8 ?_;refine cl 2 [2] (Pr _ _) λ_ _=>?_;refine Xp (Zbd 2 J J pU)<|go 4 ?_;obtain rfl:i=(dg U x).length:=O1;have M:tz o=dg U (x*2^s):=by rw [<-Kj Xi _ a];congr 1;rw [Nn U o _ O1,bZ (aI _),Nh Xi,Zck,cN,<-bR,show b+64*w=s by omega]at D;exact D
   exact Xj z _ results293 J aA (gow 2 Za M)
def Ykn(v:Value)(x s:Nat)(Q:bl x<=8589934592)(hs:s<=8589934592):Cal prog 295 #[v,.int .i64 (s:Int)] [Ea v x] false (G:=Value) (λr=>True) (λr=>r) (λr=>[Ea r (x/2^s)]):=by
 refine Zf func295 ntmps295 λS R D B=>?_;obtain⟨w,m⟩:∃w,w=s/64:=⟨_,rfl⟩;obtain⟨b,k⟩:∃b,b=s%64:=⟨_,rfl⟩;have P:=Nq x;have M:((dg U x).drop w).length=(dg U x).length-w:=dX;refine go 8 ?_;refine dt (Zdt J J J)<|go 1 ?_;refine dt (Zlb J J J)<|go 6 ?_;refine Zg (Lk 5 (v':= .int .i64 (w:Int)) J (by congr 1;omega))<|Zg (Lk 6 (v':= .int .i64 (b:Int)) J (by congr 1;omega))<|go 7 ?_;refine Zc J (λu=>?_) (λu=>?_)
 .refine go 7 ?_;refine Yg (Oy 9 1 232 Mb) ?_;have F:x/2^s=0:=by rw [Ao m k,cS ((Xk Xi w x).1 O1),Nat.zero_div]
  exact Xj B (.slice none 0 0) results295 J aA (gow 9 Za (by rw [F];rfl))
 .refine go 6 ?_;refine dt (d_suf (ii:=1) (i:=w) J J J J Zo Pk Lx O1 O1)<|Xp (s_suf 1 2 (w) J J O1)<|tt (Znu (n:=3) (Ybe _ _ (by simp only [dX];omega)) J J J K1 call309 (Zt 2 J J J Zx) J D.h) λv _=>go 3 ?_;refine jn (G:=List Nat) [7] [0,1,2] (λo=>[]) (λo=>[(3,Ox 1 232 Mb v o)]) (λo=>(o.length=(dg U x).length-w)/\(∀j,j<o.length->o.getD j 0=x/2^s/U^j%U)) ?_ ?_
  .refine go 6 ?_;refine Zc J (λy=>?_) (λy=>?_)
   .refine go 8 ?_;refine lp (G:=Nat×List Nat) [0,5,6,7,24] [0,1,2] (λq=>[(25,.int .i64 (q.1:Int))]) (λq=>[(3,Ox 1 232 Mb v q.2)]) (λq=>(q.1<=(dg U x).length-w)/\(q.2.length=(dg U x).length-w)/\(∀j,j<q.1->q.2.getD j 0=x/2^s/U^j%U)/\(∀j,q.1<=j->q.2.getD j 0=x/U^w/U^j%U)/\(∀d∈q.2,d<U)) (λq=>(dg U x).length-w-q.1) (0,(dg U x).drop w) ⟨bG _,O7,λj f=>absurd f (cI j),λj _=>Zyf x w j,λd I=>Na Xi x d (kS I)⟩ K1 K1 ?_;rintro⟨i,o⟩ ⟨hi,t,p,l,a⟩;dsimp only at hi t p l a;dsimp only;refine go 6 ?_;refine Zc J (λz=>?_) (λz=>?_)
    .refine go 17 ⟨O3,O3,?_⟩;refine dt (Zmd J J (n:=b) J J)<|go 1 ⟨O3,?_⟩;refine tt (Lj (i:=3) (enc:=Mb) _ J J J J J J pU J D.h O4 O3) (λ_ _=>?_);refine go 11 ⟨O1,?_⟩;refine Zc J (λg=>?_) (λg=>?_)
     .simp only [cH]at g;have c:∀j,((o.set i (o.getD i 0/2^b)).set i ((o.set i (o.getD i 0/2^b)).getD i 0 ||| ((dg U x).getD (w+i+1) 0*2^(64-b))%U)).getD j 0=if i=j then x/2^s/U^i%U else o.getD j 0:=λj=>by
       rw [Of _ _ _ _ _ O9,Of _ _ _ _ _ O1,Of _ _ _ _ _ O1];split
       .rw [aH rfl,l i (aI _),Ht Xi,Ao m k,Zsw,show x/U^(w+i+1)=x/U^w/U^i/U by rw [aX,aX,<-bX,<-bR];rfl,Zq7 _ _ O1]
       .rfl
      have h:=Le (Le a i (o.getD i 0/2^b) (aZ (eW _ _) (Xh Xm a _))) i ((o.set i (o.getD i 0/2^b)).getD i 0 ||| ((dg U x).getD (w+i+1) 0*2^(64-b))%U) (kG (n:=64) (Xh Xm (Le a _ _ (aZ (eW _ _) (Xh Xm a _))) _) (bN _ Xm));refine Xw (λ_=>False) [(0,0),(1,0),(2,0),(3,0),(4,0),(5,0),(6,0),(7,0),(8,0),(9,0),(10,0),(11,0),(12,0),(13,0),(14,0),(15,0),(16,3)]<|go 9 ⟨O3,O3,O1,O1,?_⟩;refine Xn J J (Xr (Zy (ii:=1) (i:=w+i+1) J J J J Zo Pk Lx O1 O3))<|go 3 ⟨O3,O1,?_⟩;refine Xn J J (Xr (Zme J J (n:=64-b) J O1))<|Xn J J (Xr (Yiw J J J (Xh Xm (Le a _ _ (aZ (eW _ _) (Xh Xm a _))) _) (bN _ Xm)))<|go 1 ⟨O3,?_⟩;refine r3' J (Lj (i:=3) (enc:=Mb) _ J J J J J J pU J D.h O4 O3) (λ_ _=>?_);refine go 7 ⟨O1,?_⟩;exact Yq (i+1,_) ⟨O2,O9,λj f=>by dsimp only;rw [c j];split;(· rename_i e;rw [<-e]);exact p j (by have:j<i+1:=f;omega),λj f=>by dsimp only;rw [c j,aE (by have:i+1<=j:=f;omega)];exact l j (by have:i+1<=j:=f;omega),h⟩ O2 K1 K1
     .have c:∀j,(o.set i (o.getD i 0/2^b)).getD j 0=if i=j then x/2^s/U^i%U else o.getD j 0:=λj=>by
       rw [Of _ _ _ _ _ O1];split
       .rw [l i (aI _),Ao m k,Zsw,Zz6 _ _ O1];rw [aX,<-bX];exact cS (Zxn (by simp only [cH]at g;omega))
       .rfl
      have h:=Le a i (o.getD i 0/2^b) (aZ (eW _ _) (Xh Xm a _));refine go 7 ⟨O1,?_⟩;exact Yq (i+1,_) ⟨O2,O9,λj f=>by dsimp only;rw [c j];split;(· rename_i e;rw [<-e]);exact p j (by have:j<i+1:=f;omega),λj f=>by dsimp only;rw [c j,aE (by have:i+1<=j:=f;omega)];exact l j (by have:i+1<=j:=f;omega),h⟩ O2 K1 K1
    .refine go 4 ?_;exact Oj _ ⟨O1,by intro j f;rw [p j O1]⟩ aA K1
   .refine go 1 ?_;exact Oj _ ⟨O7,by intro j f;rw [Zyf,Ao m k,show b=0 by omega,fW,Nat.div_one]⟩ aA K1
  .rintro o ⟨t,N⟩;refine go 3 ?_;refine cl 3 [3] (Pr _ _) λ_ _=>?_;refine Xp (Zbd 3 J J pU)<|go 4 ?_;have H:tz o=dg U (x/2^s):=Zt0 Xi N (by rw [t,Ao m k];exact aZ (eW _ _) (Zxn O1));exact Xj B _ results295 J aA (gow 3 Za H)
def Zm5(v:Value)(x:Nat)(t:bl x<=4294967296:=by omega):Xo prog 233 #[v] [Ea v x] (.string (Xu x)):=by
 refine Zf func233 ntmps233 λw u h g=>?_;have s:=Nq x;have p:=Zkt x;have r:=lenU x;have m:(List.replicate (dg 256 x).length (0:Nat)).length=(dg 256 x).length:=aV;refine go 8 ?_;refine cl 1 [1] (Zkf _ _) λ_ _=>?_;refine go 1 ⟨O1,?_⟩;refine dt (Zdt J J J)<|tt (Gt (i:=2) (n:=(dg 256 x).length) (by_:=1) (enc:=Zh4) 0 J J J J Zhf ti5 J pB.cells pB.pos J J J h.h) λv _=>go 12 ?_;refine lp (G:=Nat×List Nat) [0,3,12] [0,1] (λq=>[(13,.int .i64 (q.1:Int))]) (λq=>[(2,Ox 1 5 Zh4 v q.2)]) (λq=>(q.1<=(dg 256 x).length)/\(q.2.length=(dg 256 x).length)/\(∀j,j<q.1->q.2.getD j 0=x/256^((dg 256 x).length-1-j)%256)) (λq=>(dg 256 x).length-q.1) (0,List.replicate (dg 256 x).length 0) ⟨O2,O7,λj d=>absurd d (cI j)⟩ K1 K1 ?_;rintro⟨i,o⟩ ⟨hi,f,b⟩;dsimp only at hi f b;dsimp only;refine go 6 ?_;refine Zc J (λc=>?_) (λc=>?_)
 .refine go 20 ⟨O1,O1,?_⟩;refine Zg (Lk 5 (v':= .int .i64 (((dg 256 x).length-1-i:Nat):Int)) J (by congr 1;omega)) ?_;have a:=Zp7 x ((dg 256 x).length-1-i);rw [<-Ht Xi]at a;refine go 5 ?_;refine dt (Zdt J J J)<|dt (Zy (ii:=1) (i:=((dg 256 x).length-1-i)/8) J J J J Zo Pk Lx)<|go 2 ⟨O1,?_⟩;refine dt (Zlb J J J)<|go 1 ⟨O1,?_⟩;refine dt (Zmd J J (n:=((dg 256 x).length-1-i)%8*8) J O1)<|dt (Zdv J J Al uT5)<|go 1 ⟨O3,?_⟩;refine tt (Lj (i:=2) (enc:=Zh4) _ J J J J J J pB J h.h O4 O3) (λ_ _=>?_);refine go 7 ⟨O1,?_⟩;exact Yq (i+1,_) ⟨O2,O9,λj d=>by dsimp only;rw [Of _ _ _ _ _ O1];split;(· rename_i e;rw [<-e];exact a);exact b j O1⟩ O2 K1 K1
 .refine go 8 ?_;refine dt (d_b2s J J (i:=2) J (Yn pB) Zhf uT9 uT5)<|go 4 ?_;have k:Xu x=⟨(o.map UInt8.ofNat).toArray⟩:=by
   have l:o=(dg 256 x).reverse:=by refine Zeh O9 (λj d=>?_);rw [b j O1,Zo7 _ _ _ O1,Ht O1]
   rw [l];rfl
  exact Xj g () results233 (by rw [k]) aA Za
def Zcn(x:Nat)(B:bl x<=4294967296:=by omega):Cal prog 219 #[.string (Xu x)] [] false (G:=Value) (λr=>True) (λr=>r) (λr=>[Ea r x]):=by
 refine Zf func219 ntmps219 λF D b m=>?_;have z:=Nq x;have u:=Zkt x;have y:=lenU x;have p:=Et x;refine go 10 ⟨O1,?_⟩;refine dt (Zdt J J J)<|tt (Gt (i:=1) (n:=(dg U x).length) (by_:=8) (enc:=Mb) 0 J J J J Pk ti232 J pU.cells pU.pos J J J b.h) λv _=>go 12 ?_;refine lp (G:=Nat×List Nat) [0,3,12] [0] (λq=>[(13,.int .i64 (q.1:Int))]) (λq=>[(1,Ox 1 232 Mb v q.2)]) (λq=>(q.1<=(dg 256 x).length)/\(q.2.length=(dg U x).length)/\(∀w,w<q.2.length->q.2.getD w 0=hi x ((dg 256 x).length-q.1) w)) (λq=>(dg 256 x).length-q.1) (0,List.replicate (dg U x).length 0) ⟨O2,O7,λw b=>by dsimp only at *;rw [aV]at b;rw [Kh,hi_top O1]⟩ K1 K1 ?_;rintro⟨i,o⟩ ⟨l,f,a⟩;dsimp only at l f a;dsimp only;refine go 6 ?_;refine Zc J (λk=>?_) (λk=>?_)
 .refine go 20 ⟨O1,O1,?_⟩;refine Zg (Lk 5 (v':= .int .i64 (((dg 256 x).length-1-i:Nat):Int)) J (by congr 1;omega)) ?_;have c:=Ztm x i O1;have h:=a (((dg 256 x).length-1-i)/8) O1;have d:o.getD (((dg 256 x).length-1-i)/8) 0<U:=by rw [h];exact bN _ Xm
  have g:∀w,w<o.length->(o.set (((dg 256 x).length-1-i)/8) (o.getD (((dg 256 x).length-1-i)/8) 0 ||| (((Xu x).data.toList.getD i 0).toNat*2^(((dg 256 x).length-1-i)%8*8))%U)).getD w 0=hi x ((dg 256 x).length-(i+1)) w:=λw b=>by
   rw [c,h,show(dg 256 x).length-i=(dg 256 x).length-1-i+1 by omega,Yk5,Of _ _ _ _ _ O1,show(dg 256 x).length-(i+1)=(dg 256 x).length-1-i by omega];split
   .rename_i e;rw [e]
   .rename_i e;rw [a w b,show(dg 256 x).length-i=(dg 256 x).length-1-i+1 by omega];exact Yfg e
  refine Xw (λ_=>False) [(0,0),(1,0),(2,0),(3,0),(4,0),(5,0),(6,0),(7,0),(8,0),(9,0),(10,0),(11,0),(12,0),(13,0),(14,0),(15,3)]<|go 2 ?_;refine Xn J J (Xr (Zdt J J J))<|Xn J J (Xr (Zy (ii:=1) (i:=((dg 256 x).length-1-i)/8) J J J J (Yn pU) Pk Lx))<|go 3 ⟨O3,?_⟩;refine Xn J J (Xr (Yg0 J J J uT9 J))<|Xn J J (Xr (Zpu J J uT5 Al (by have:=(((Xu x).data.toList.getD i 0).toNat_lt);simp only [U];omega)))<|go 1 ?_;refine Xn J J (Xr (Zlb J J J))<|go 1 ⟨O1,?_⟩;refine Xn J J (Xr (Zme J J (n:=((dg 256 x).length-1-i)%8*8) J O1))<|Xn J J (Xr (Yiw J J J (d) (bN _ Xm)))<|Xn J J (Xr (Zy (ii:=1) (i:=((dg 256 x).length-1-i)/8) J J J J (Yn pU) Pk Lx))<|r3' J (Lj (i:=1) (enc:=Mb) _ J J J J J J pU J b.h O4 O3) (λ_ _=>?_);refine go 7 ⟨O1,?_⟩;exact Yq (i+1,_) ⟨O2,O9,λw b=>g w (by simpa using b)⟩ O2 K1 K1
 .refine go 12 ?_;have t:o=dg U x:=Zeh f (λj s=>by rw [a j s,Ht Xi,Yfi O1]);exact Xj m _ results219 J aA (gow 1 Za t)
set_option maxHeartbeats 2000000 in
def Zxg(v w:Value)(x y:Nat)(hx:bl x<=4000000000)(e0:bl y<=4000000000)(hy:0<y):Cal prog 267 #[v,w] [Ea v x,Ea w y] true (G:=Value×Value) (λr=>True) (λr=> .tuple #[r.1,r.2]) (λr=>[Ea r.1 (x/y),Ea r.2 (x%y)]):=by
 refine Zf func267 ntmps267 λw0 sc p P=>?_;have hX:=Nq x;have hY:=Nq y;refine go 11 ?_;refine cl 2 [1,2] (Zbv _ _ _ _ O1 O1) λr hr=>go 3 ?_;refine Zc J (λS=>?_) (λS=>?_)
 .have o:x<y:=hr.1.1 O1;refine go 9 ?_;exact Yg (Oy 9 1 232 Mb)<|Mn P (.slice none 0 0,v) results267 J aA (gow 9 (Ns 1 Za (by rw [aS o])) (by rw [cS o];rfl))
 .have c4:y<=x:=by have:=hr.1;omega
  have d9:=Pu c4;refine go 10 ?_;refine Zc J (λV=>?_) (λV=>?_)
  .have Q:y<U:=by have:=(Xk Xi 1 y).1 O1;simpa using this
   have m:(dg U y).getD 0 0=y:=by rw [Ht Xi];simp [aS Q]
   refine go 6 ⟨O1,O3,?_⟩;refine cl 3 [1] (Yap _ _ _ O1 (by rw [m];exact hy) (by rw [m];exact Q)) λv _=>go 11 ?_;refine tt (Qr (i:=4) (ivs:=[(0,_)]) (enc:=Mb) [x%(dg U y).getD 0 0] J J K2 Pk ti232 J J J J J pU.cells J J p.h) λe2 _=>cl 4 [4] (Pr _ _) λ_ _=>?_;refine Xp (Zbd 4 J J pU)<|go 6 ?_;exact Mn P (_,_) results267 J aA (Ns 3 (gow 4 Za (by rw [Zgj (gN (bN _ (by rw [m];exact hy)) (by rw [m];exact Q)),m])) (by rw [m]<;>rfl))
  .refine go 3 ?_;obtain⟨k,hk⟩:∃k,k=(dg U y).length:=⟨_,rfl⟩;have d8:k<=(dg U x).length:=O1;obtain⟨b,hb⟩:∃b,b=64-bl ((dg U y).getD (k-1) 0):=⟨_,rfl⟩;obtain⟨b2,_,b1,a2,a9,B⟩:=Ykk hy hk hb;obtain⟨D,c⟩:∃D,D=y*2^b:=⟨_,rfl⟩;have c5:(dg U D).length=k:=by rw [c];exact b2
   have a1:D<U^k:=by rw [c];exact a2
   have a0:U^(k-1)*9223372036854775808<=D:=by rw [c];exact B
   have l:0<D:=by rw [c];exact gD hy (dO b)
   have d7:bl D<=4000000064:=by rw [c,Zvv _ _ hy];omega
   refine go 5 ⟨O1,?_⟩;refine dt (Zy (ii:=2) (i:=(dg U y).length-1) J J J J Zo Pk Lx)<|go 1 ⟨O3,?_⟩;refine cl 4 [] (Zqd _ (Xh Xm (Na Xi y) _)) λ_ _=>?_;refine Xp (Lk 44 (v':= .int .i64 (b:Int)) J (by rw [hb,hk]))<|go 3 ?_;refine jn (G:=Value×Value) [0,8] [0,1,2] (λq=>[(9,q.1),(10,q.2)]) (λq=>[(81,Ea q.1 D),(82,Ox 1 232 Mb q.2 (List.replicate ((dg U x).length+1) 0))]) (λq=>True) ?_ ?_
   .refine Hr (λ_=>False) [8]<|Zm (n:=4) [(0,0),(1,0),(3,0),(4,0),(5,0)]<|go 6 ⟨O1,?_⟩;refine Qs (n:=3) 2 6 ?_ ?_
    .refine Nm (Zj 81 [2] (Zou _ _ _)) λe3 _=>?_;refine Zm (n:=0) [(7,0),(6,1),(8,3)]<|go 1 ?_;refine Dn J (Gt (i:=82) (n:=(dg U x).length+1) (by_:=8) (enc:=Mb) 0 J J J J Pk ti232 J pU.cells pU.pos J J J p.h) λe4 _=>go 2 ?_;exact Zz<|Oj (_,_) aA K2 ⟨by rw [c];rfl,rfl,aA⟩
    .refine Aa J (Gt (i:=82) (n:=(dg U x).length+1) (by_:=8) (enc:=Mb) 0 J J J J Pk ti232 J pU.cells pU.pos J J J p.h) (λe5 _=>?_);refine Zm (n:=0) [(2,1),(7,0),(8,3)]<|Yv (Zj 81 [2] (Zou _ _ _)) λe6 _=>go 3 ?_;exact Zz<|Oj (_,_) aA K2 ⟨by rw [c];rfl,rfl,aA⟩
   .rintro⟨vd,vr⟩ -;dsimp only;refine go 1 ?_;have c7:(dg U (x*2^b)).length<=(dg U x).length+1:=(Xk Xi _ _).2 (by rw [bX];exact jI ((Xk Xi _ x).1 (aI _)) (by rw [Yig];exact dE O1 O1) Xm);refine go 4 ?_;refine cl 5 [1] (Zou _ _ _) λe7 _=>?_;refine tt (t_cpy (i:=82) (j:=5) 0 J J J J J J O4 J Zo (Ygm _ _ _) (by rw [aV];exact c7) (by rw [aV];omega) (by rw [aV];omega) Pk pU J p.h) λ_ _=>go 3 ?_;have a4:(spl (List.replicate ((dg U x).length+1) 0) 0 (dg U (x*2^b))).length=(dg U x).length+1:=by rw [Kt _ _ _ (by rw [aV];omega),aV]
    refine go 7 ?_;have d2:(List.replicate ((dg U x).length+1-k) (0:Nat)).length=(dg U x).length+1-k:=aV;refine Zg (Lk 11 (v':= .int .i64 (k:Int)) J (by rw [c5]))<|go 5 ⟨O1,?_⟩;refine tt (Gt (i:=6) (n:=(dg U x).length+1-k) (by_:=8) (enc:=Mb) 0 J J J J Pk ti232 J pU.cells pU.pos J J J p.h) (λd1 _=>?_);refine go 13 ⟨O1,?_⟩;refine lp (G:=Nat×List Nat×List Nat) [8,9,10,11,12] [0,81,1,2,5] (λq=>[(13,.int .i64 ((q.1:Int)-1))]) (λq=>[(82,Ox 1 232 Mb vr q.2.1),(6,Ox 1 232 Mb d1 q.2.2)]) (λq=>(q.1<=(dg U x).length+1-k)/\(q.2.1.length=(dg U x).length+1)/\(∀d∈q.2.1,d<U)/\(q.2.2.length=(dg U x).length+1-k)/\(∀d∈q.2.2,d<U)/\(Ye U q.2.1<D*U^q.1)/\(Ye U (q.2.2.drop q.1)*U^q.1*D+Ye U q.2.1=x*2^b)) (λq=>q.1) ((dg U x).length+1-k,spl (List.replicate ((dg U x).length+1) 0) 0 (dg U (x*2^b)),List.replicate ((dg U x).length+1-k) 0) ⟨aI _,a4,Zqh (Ok _ Xm) (Na Xi _) 0,O7,Ok _ Xm,by rw [Zqt,Nh Xi];exact Ygq ((Xk Xi _ x).1 (aI _)) a9 b1 O1 a0,by rw [Zqt,Nh Xi];simp [Ye]⟩ ⟨by rw [aV];rfl,aA⟩ K2 ?_;rintro⟨a,R,q⟩ ⟨hj,a5,e,c8,M,H,hN⟩;dsimp only at hj a5 e c8 M H hN;dsimp only;refine go 7 ?_;refine Zc J (λW=>?_) (λW=>?_)
    .refine go 5 ?_;have I:Ye U R<U^(a-1+k+1):=by refine cZ H ?_;rw [show a-1+k+1=k+a by omega,bR];exact aN _ (dS a1)
     have s:tz ((R.drop (a-1)).take (a-1+k+1-(a-1)))=dg U (Ye U R/U^(a-1)):=Yip e O1 (by rw [show a-1+(a-1+k+1-(a-1))=a-1+k+1 by omega];exact I);have a7:Ye U R/U^(a-1)<D*U:=by rw [cC (cD Xm),cN,<-nT,show(a-1).succ=a by omega];exact H
     have a8:bl (Ye U R/U^(a-1))<=4294967296:=by have h1:=Pu (dS a7);have h2:=Zlm D U;have h3:bl U<=65:=(Xz 65 U).2 (by simp [U]);omega
     have b5:=Yi1 e (j:=a-1) b1 I O1;have b7:(dg U D).getD (k-1) 0*U^(k-1)<=D:=by rw [Ht Xi];exact aB (aN _ (Nat.mod_le _ _)) (nP _ _)
     have c0:Ye U R/U^(a-1)/D<=18446744073709551615:=by have:=(cC l).2 (show _<U*D by rw [aP];exact a7);simp only [U]at this ⊢;omega
     refine go 4 ?_;refine jn (G:=Nat) [8,9,10,11,12,13] [0,82,6,81,1,2,5] (λg=>[(14,.int .u64 (g:Int))]) (λg=>[]) (λg=>(Ye U R/U^(a-1)/D<=g)/\(g<U)) ?_ ?_
     .refine go 1 ?_;refine Xw (λ_=>False) [(0,0),(1,0),(2,0),(3,0),(4,0),(5,0),(6,0),(7,0),(8,0),(9,0),(10,0),(11,0)]<|go 4 ⟨O1,?_⟩;refine Xn J J (Xr (Zy (ii:=82) (i:=a-1+k) J J J J (Yn pU) Pk Lx))<|go 4 ⟨O3,O1,?_⟩;refine Xn J J (Xr (Zy (ii:=81) (i:=k-1) J J J J Zo Pk Lx))<|go 4 ⟨O3,?_⟩;refine Zc J (λY=>?_) (λY=>?_)
      .refine Xw (λ_=>False) [(0,0),(1,0),(2,0),(3,0),(4,0),(5,0),(6,0),(7,0),(8,0),(9,0),(10,0),(11,0),(12,0),(13,0),(14,0),(15,0),(16,0),(17,0),(18,1),(19,0),(20,0),(21,0),(22,0)]<|go 4 ⟨O1,?_⟩;refine Xn J J (Xr (Zy (ii:=82) (i:=a-1+k) J J J J (Yn pU) Pk Lx))<|go 6 ⟨O3,O1,O1,?_⟩;refine Xn J J (Xr (Zy (ii:=82) (i:=a-1+k-1) J J J J (Yn pU) Pk Lx))<|go 4 ⟨O3,O1,?_⟩;refine Xn J J (Xr (Zy (ii:=81) (i:=k-1) J J J J Zo Pk Lx))<|go 1 ⟨O3,?_⟩;refine Yv (Zj 6 [] (Zto _ _ _ (Xh Xm e _) (Xh Xm (Na Xi _) _) O1)) λ_ _=>go 5 ?_;exact Oj _ ⟨Yfk b7 O1 b5,Zsv (Xh Xm e _) O1⟩ K1 aA
      .refine go 1 ?_;exact Oj 18446744073709551615 ⟨c0,O4⟩ K1 aA
     .rintro g ⟨hg,f⟩;refine go 8 ⟨O1,O1,?_⟩;refine dt (d_mid (ii:=82) (i:=a-1) (j:=a-1+k+1) J J J J J (Yn pU) Pk Lx O1 O1 O1 O1)<|go 7 ?_;refine tt (Qr (i:=7) (ivs:=[(0,_)]) (enc:=Mb) [g] J J K2 Pk ti232 J J J J J pU.cells J J p.h) λe8 _=>cl 7 [7] (Pr _ _) λ_ _=>?_;refine Xp (Zbd 7 J J pU)<|Xp (Zhl 7 (Zgj f) J J)<|cl 83 [81,7] (Zxf _ _ _ _ O1 (aB ((Xz 64 g).2 f) O1)) λd3 _=>go 5 ?_;refine lp (G:=Nat×Value) [8,9,10,11,12,13,15] [0,82,6,81,1,2,5,7] (λq=>[(14,.int .u64 (q.1:Int)),(16,q.2)]) (λq=>[(83,Ea q.2 (D*q.1))]) (λq=>(Ye U R/U^(a-1)/D<=q.1)/\(q.1<U)) (λq=>q.1) (g,_) ⟨O2,O2⟩ ⟨J,J,aA⟩ ⟨J,aA⟩ ?_;rintro⟨g,vp⟩ ⟨hg,f⟩;dsimp only at hg f;dsimp only;have a3:bl (D*g)<=4294967296:=by have h1:=Zlm D g;have h2:=(Xz 64 g).2 f;omega
      refine go 4 ?_;refine tt (Pt (n:=7) (Pr _ _) J J J K1 call183 (Zcv 82 J J pU (Zih (a-1) (a-1+k+1)) (Ziu _ _ _ _) Zx) J p.h) λ_ _=>go 1 ?_;refine tt (Pt (n:=7) (Zbv _ _ _ _ a8 a3) J J J K2 call223 (Zcv 82 J J pU (Ydk s (by rw [s]) (Zih (a-1) (a-1+k+1))) (by rw [Gd];exact(Ziu _ _ _ _)) (Zt 83 J J J Zx)) J p.h) λe1 t=>go 3 ?_;refine Zc J (λZ=>?_) (λZ=>?_)
      .have o:Ye U R/U^(a-1)<D*g:=t.1.1 O1;have b0:1<=g:=by rcases aU g with h|h;(rw [h,iD]at o;exact absurd o (cI _));exact h
       have b6:D<=D*g:=dU _ b0;have c1:Ye U R/U^(a-1)/D<=g-1:=by have:=(cC l).2 (show _<g*D by rw [aP];exact o);omega
       refine go 6 ?_;refine dt (Zdh (n:=1) J J J)<|go 3 ?_;refine Zg (Lk 14 (v':= .int .u64 ((g-1:Nat):Int)) J (Zao (Zs3 b0 f)))<|go 3 ?_;refine cl 8 [83,81] (Zfo _ _ _ _ a3 b6) λd4 _=>go 3 ?_;exact Yg (Qy 8 83 J J J)<|Yq (g-1,_) ⟨c1,O10⟩ O2 K2 ⟨by rw [Nat.mul_sub_one];rfl,aA⟩
      .refine go 6 ?_;have hQ:g=Ye U R/U^(a-1)/D:=by have h1:=t.1;have h2:D*g<=Ye U R/U^(a-1):=O1;exact jT ((iY l).2 (by rw [aP];exact h2)) hg
       refine go 2 ?_;refine tt (Pt (n:=8) (Pr _ _) J J J K1 call183 (Zcv 82 J J pU (Zih (a-1) (a-1+k+1)) (Ziu _ _ _ _) Zx) J p.h) λ_ _=>go 1 ?_;refine tt (Pt (n:=9) (Zfo _ _ _ _ a8) J J J K2 call224 (Zcv 82 J J pU (Ydk s (by rw [s]) (Zih (a-1) (a-1+k+1))) (by rw [Gd];exact(Ziu _ _ _ _)) (Zt 83 J J J Zx)) J p.h) λd5 _=>go 4 ?_;have b3:(dg U (Ye U R/U^(a-1)-D*g)).length<=a-1+k+1-(a-1):=by
        have:Ye U R/U^(a-1)-D*g<D:=by rw [hQ];have h3:=cE (Ye U R/U^(a-1)) D;have h4:=bN (Ye U R/U^(a-1)) l;omega
        have:=(Xk Xi k _).2 (gN this a1);omega
       refine go 2 ?_;refine tt (t_clr (zv:= .bool false) (i:=82) (z:=0) (a-1) J J J J O4 (Zyd _ _ _ O1) O1 O1 Pk pU (λw=>zeroValue232 w) J J p.h) λ_ _=>go 6 ?_;refine tt (t_cpy (i:=82) (j:=9) (a-1) J J J J J J O4 J Zo (Zyd _ _ _ (by rw [Kt _ _ _ (by rw [aV];omega)];omega)) b3 (by rw [Kt _ _ _ (by rw [aV];omega)];omega) (by rw [Kt _ _ _ (by rw [aV];omega)];omega) Pk pU J p.h) λ_ _=>go 2 ?_;have b8:a-1+(List.replicate (a-1+k+1-(a-1)) 0).length<=R.length:=by rw [aV];omega
       have c6:=Kt R (a-1) _ b8;have b9:a-1+(dg U (Ye U R/U^(a-1)-D*g)).length<=(spl R (a-1) (List.replicate (a-1+k+1-(a-1)) 0)).length:=O1;have u:=Yiv e (j:=a-1) (n:=a-1+k+1-(a-1)) O1 (by rw [show a-1+(a-1+k+1-(a-1))=a-1+k+1 by omega];exact I) b3;rw [Nh Xi]at u;have b4:=Ygp (j:=a-1) (N:=x*2^b) (Vq:=Ye U (q.drop a)) l hQ (by rw [show a-1+1=a by omega];exact hN);have a6:=b4.1;have F:=b4.2;rw [<-u]at a6 F;have c3:Ye U ((q.set (a-1) g).drop (a-1))=g+U*Ye U (q.drop a):=by rw [drop_set _ _ _ O1,show a-1+1=a by omega];rfl
       rw [<-c3]at F;refine go 4 ?_;refine dt (Zy (ii:=6) (i:=a-1) J J J J (Yn pU) Pk Lx)<|tt (Lj (i:=6) (enc:=Mb) _ J J J J J J pU J p.h O4 O3) (λ_ _=>?_);refine go 8 ⟨O1,?_⟩;exact Yq (a-1,_,_) ⟨O2,(Kt _ _ _ b9).trans (c6.trans a5),Zqh (Zqh e (Ok _ Xm) _) (Na Xi _) _,O9,Le M _ _ f,a6,F⟩ O2 ⟨by rw [show(((a-1:Nat):Int)-1)=(a:Int)-1-1 by omega];rfl,aA⟩ K2
    .refine go 6 ?_;obtain rfl:a=0:=O1;rw [fW,iP]at H;have c2:bl (Ye U R)<=8589934592:=by have:=Pu (dS H);omega
     refine go 2 ?_;refine cl 9 [6] (Pr _ _) λ_ _=>?_;refine Xp (Zbd 6 J J pU)<|go 1 ?_;refine cl 9 [82] (Pr _ _) λ_ _=>?_;refine Xp (Zbd 82 J J pU)<|Xp (Zhl 82 (Kj Xi R e).symm J J)<|go 1 ?_;refine cl 10 [82] (Ykn _ _ _ c2 O1) λd6 _=>go 5 ?_;rw [gU,fW,iP]at hN;have c9:tz q=dg U (x/y):=by rw [<-Kj Xi _ M,<-Zmn x y b,<-c,<-hN,aP,gL l,cS H,eE]
     have d0:Ye U R/2^b=x%y:=by rw [<-Zmm x y b,<-c,<-hN,aP,iA,aS H]
     exact Mn P (_,_) results267 J aA (gow 6 (Ns 10 Za (by rw [d0])) c9)
def Zov(v w:Value)(x y:Nat)(l:bl x<=4000000000:=by omega)(m:bl y<=4000000000:=by omega):Cal prog 217 #[v,w] [Ea v x,Ea w y] true (G:=Value) (λr=>True) (λr=>r) (λr=>[Ea r (Nat.gcd x y)]):=by
 refine Zf func217 ntmps217 λz s p j=>?_;have n:=Nq x;have o:=Nq y;refine go 7 ?_;refine Zg (Qy 1 91 J J J)<|Zg (Qy 2 92 J J J)<|lp (G:=Value×Value×Nat×Nat) [] [0,1,2] (λq=>[(0,q.1),(1,q.2.1)]) (λq=>[(91,Ea q.1 q.2.2.1),(92,Ea q.2.1 q.2.2.2)]) (λq=>(Nat.gcd q.2.2.1 q.2.2.2=Nat.gcd x y)/\(bl q.2.2.1<=4000000000)/\(bl q.2.2.2<=4000000000)) (λq=>q.2.2.2) (v,w,x,y) ⟨J,l,m⟩ K2 K2 ?_;rintro⟨t,u,a,b⟩ ⟨i,k,f⟩;dsimp only at i k f;dsimp only;refine go 8 ?_;refine Zc J (λd=>?_) (λd=>?_)
 .have c:0<b:=by rcases aU b with h|h;(subst h;simp [Hs]at d);exact h
  refine go 7 ?_;refine cl 3 [91,92] (Zxg _ _ _ _ k f c) λg _=>go 14 ?_;have e:a%b<b:=bN _ c;exact Yg (Qy 92 91 J J J)<|Yg (Qy 4 92 J J J)<|Yq (_,_,b,a%b) ⟨by dsimp only;rw [<-i,mQ b,<-Nat.gcd_rec,mQ],f,aB (Pu (dS e)) f⟩ e K2 K2
 .have c:b=0:=(Pn Xi b).1 O1;refine go 12 ?_;exact Xj j _ results217 J aA (Ns 91 Za (by rw [<-i,c,nZ]))
def Zop(s:Bool)(v:Value)(x:Int)(hs:sg s x):Cal prog 235 #[.agg #[.bool s,v]] [Ea v x.natAbs] true (G:=Bool×Value) (λr=>sg r.1 (-x)) (λr=> .agg #[.bool r.1,r.2]) (λr=>[Ea r.2 (-x).natAbs]):=by refine Zf func235 ntmps235 λg f e c=>go 2 ?_;refine Yh (Yi 2) λb _=>Yh (Zw 3) λd _=>go 9 ?_;refine dt (Qa (ivs:=[(0,_),(1,_)]) J K4 (λa w hs=>Kb ((Zr J) a w hs) ((Pg (i:=1) J Zo) a w hs)))<|go 4 ?_;exact Xj c (!s,v) results235 J (Yc3 hs) (Ns 1 Za (by rw [eC]))
def Zcz(s t:Bool)(v w:Value)(x y:Int)(hs:sg s x)(f:sg t y)(g:bl x.natAbs<=4294967296:=by omega)(h:bl y.natAbs<=4294967296:=by omega):Cal prog 167 #[.agg #[.bool s,v],.agg #[.bool t,w]] [Ea v x.natAbs,Ea w y.natAbs] true (G:=Bool×Value) (λr=>sg r.1 (x*y)) (λr=> .agg #[.bool r.1,r.2]) (λr=>[Ea r.2 (x*y).natAbs]):=by refine Zf func167 ntmps167 λl k j c=>go 2 ?_;refine Yh (Yi 3) λb _=>Yh (Yi 4) λd _=>Yh (Zw 5) λe _=>go 3 ?_;refine Xw (λ_=>False) [(0,0),(1,0),(2,0),(3,0),(4,0),(5,0),(6,0),(7,0),(8,0),(9,1),(10,0),(11,3)]<|go 9 ?_;refine Yv (Zj 6 [1,2] (Zxf _ _ _ _ g h)) λv _=>?_;refine Xn J J (Xr (Qa (ivs:=[(0,_),(1,_)]) J K4 (λa w hs=>Kb ((Zr J) a w hs) ((Pg (i:=6) J Zo) a w hs))))<|go 4 ?_;exact Xj c (_,_) results167 J (Yc4 hs f) (Ns 6 Za (by rw [cF]))
def Zkc(s:Bool)(v:Value)(x:Int)(hs:sg s x)(g:bl x.natAbs<=4294967296:=by omega):Cal prog 236 #[.agg #[.bool s,v]] [Ea v x.natAbs] true (G:=Unit) (λ_=>True) (λ_=> .int .i64 x.sign) (λ_=>[]):=by
 refine Zf func236 ntmps236 λi h f d=>?_;have e:=Nq x.natAbs;refine go 2 ?_;refine Yh (Yi 2) λb _=>go 14 ?_;refine Zc J (λa=>?_) (λa=>?_)
 .refine go 8 ?_;exact Xj d () results236 (Zz5 a) aA Za
 .refine go 7 ?_;refine Mr J (λc=>?_) (λc=>?_)
  .refine go 8 ?_;exact Xj d () results236 (Ycy hs c a) aA Za
  .refine go 9 ?_;exact Xj d () results236 (Ycx hs c a) aA Za
def Zfn(s t:Bool)(v w:Value)(x y:Int)(hs:sg s x)(g:sg t y)(j:bl x.natAbs<=4294967296:=by omega)(k:bl y.natAbs<=4294967296:=by omega):Cal prog 170 #[.agg #[.bool s,v],.agg #[.bool t,w]] [Ea v x.natAbs,Ea w y.natAbs] true (G:=Bool×Value) (λr=>sg r.1 (x+y)) (λr=> .agg #[.bool r.1,r.2]) (λr=>[Ea r.2 (x+y).natAbs]):=by
 refine Zf func170 ntmps170 λz u q f=>go 2 ?_;refine Yh (Yi 3) λb _=>Yh (Yi 4) λm _=>Yh (Zw 5) λn _=>go 14 ?_;refine Mr J (λd=>?_) (λd=>?_)
 .have c:s=t:=by simpa using d
  refine go 1 ?_;refine Xw (λ_=>False) [(0,0),(1,0),(2,0),(3,0),(4,0),(5,0),(6,1),(7,0),(8,3)]<|go 6 ?_;refine Yv (Zj 6 [1,2] (Zxh _ _ _ _ j k)) λv _=>?_;refine Xn J J (Xr (Qa (ivs:=[(0,_),(1,_)]) J K4 (λa w hs=>Kb ((Zr J) a w hs) ((Pg (i:=6) J Zo) a w hs))))<|go 6 ?_;exact Xj f (_,_) results170 J (Zwq hs (c▸g)) (Ns 6 Za (by rw [Zge hs (c▸g)]))
 .have c:s≠t:=by simpa using d
  refine go 6 ?_;refine cl 6 [1,2] (Zbv _ _ _ _ j k) λr l=>go 4 ?_;refine Zc J (λh=>?_) (λh=>?_)
  .have e:y.natAbs<=x.natAbs:=by have:=l.1;omega
   refine go 1 ?_;refine Xw (λ_=>False) [(0,0),(1,0),(2,0),(3,0),(4,0),(5,0),(6,1),(7,0),(8,3)]<|go 6 ?_;refine Yv (Zj 7 [1,2] (Zfo _ _ _ _ j)) λo _=>?_;refine Xn J J (Xr (Qa (ivs:=[(0,_),(1,_)]) J K4 (λa w hs=>Kb ((Zr J) a w hs) ((Pg (i:=7) J Zo) a w hs))))<|go 6 ?_;exact Xj f (_,_) results170 J (Zie hs g c e) (Ns 7 Za (by rw [Zak hs g c e]))
  .have e:x.natAbs<=y.natAbs:=by have:=l.1;omega
   refine go 4 ?_;refine Xw (λ_=>False) [(0,0),(1,0),(2,0),(3,0),(4,0),(5,0),(6,1),(7,0),(8,3)]<|go 6 ?_;refine Yv (Zj 8 [2,1] (Zfo _ _ _ _ k)) λp _=>?_;refine Xn J J (Xr (Qa (ivs:=[(0,_),(1,_)]) J K4 (λa w hs=>Kb ((Zr J) a w hs) ((Pg (i:=8) J Zo) a w hs))))<|go 4 ?_;exact Xj f (_,_) results170 J (by rw [jJ];exact Zie g hs (iJ c) e) (Ns 8 Za (by rw [jJ,Zak g hs (iJ c) e]))
def Xy(s:Bool)(x:Int)(hs:sg s x)(e:bl x.natAbs<=4294967296:=by omega):Cal prog 166 #[.agg #[.bool s,.string (Xu x.natAbs)]] [] true (G:=Bool×Value) (λr=>sg r.1 x) (λr=> .agg #[.bool r.1,r.2]) (λr=>[Ea r.2 x.natAbs]):=by refine Zf func166 ntmps166 λh g f c=>go 2 ?_;refine Yh (Yi 1) λb _=>Yh (Zw 2) λd _=>go 3 ?_;refine Xw (λ_=>False) [(0,0),(1,0),(2,0),(3,0),(4,1),(5,0),(6,3)]<|go 4 ?_;refine Yv (Zj 3 [] (Zcn _ e)) λv _=>?_;refine Xn J J (Xr (Qa (ivs:=[(0,_),(1,_)]) J K4 (λa w hs=>Kb ((Zr J) a w hs) ((Pg (i:=3) J Zo) a w hs))))<|go 4 ?_;exact Xj c (_,_) results166 J hs (Ns 3 Za J)
def Iy(s:Bool)(v:Value)(x:Int)(hs:sg s x)(g:bl x.natAbs<=4294967296:=by omega):Xo prog 184 #[.agg #[.bool s,v]] [Ea v x.natAbs] (Zbf x):=by
 refine Zf func184 ntmps184 λi h f d=>go 2 ?_;refine Yh (Yi 2) λb _=>Yh (Zw 3) λe _=>go 8 ?_;refine cl 3 [1] (Zkf _ _) λ_ _=>go 3 ?_;refine Zc J (λc=>?_) (λc=>?_)
 .refine go 2 ?_;refine dt (Qa (ivs:=[]) J aA (λa w hs=>b80_))<|go 6 ?_;exact Mn d () results184 (Zzs c) aA Za
 .refine go 3 ?_;cases s
  .refine Xw (λ_=>False) [(0,0),(1,0),(2,0),(3,2),(4,2),(5,2),(6,2),(7,0),(8,0),(9,0),(10,1),(11,0),(12,3),(13,3)]<|go 10 ?_;refine Yv (Zj 3 [1] (Zm5 _ _)) λ_ _=>?_;refine Xn J J (Xr (Qa (ivs:=[(0,_),(1,_)]) J K4 (λa w hs=>Zvx ((Zr J) a w hs) ((Zr J) a w hs))))<|go 5 ?_;exact Mn d () results184 (by first|exact Zqo hs c|exact Zqn hs c) aA Za
  .refine Xw (λ_=>False) [(0,0),(1,0),(2,0),(3,0),(4,0),(5,0),(6,0),(7,0),(8,0),(9,0),(10,1),(11,0),(12,3),(13,3)]<|go 10 ?_;refine Yv (Zj 3 [1] (Zm5 _ _)) λ_ _=>?_;refine Xn J J (Xr (Qa (ivs:=[(0,_),(1,_)]) J K4 (λa w hs=>Zvx ((Zr J) a w hs) ((Zr J) a w hs))))<|go 5 ?_;exact Mn d () results184 (by first|exact Zqo hs c|exact Zqn hs c) aA Za
def Ot(s t:Bool)(v w:Value)(x y:Int)(hs:sg s x)(o:sg t y)(k:y≠0)(N:bl x.natAbs<=3000000000:=by omega)(P:bl y.natAbs<=3000000000:=by omega):Cal prog 218 #[.agg #[.bool s,v],.agg #[.bool t,w]] [Ea v x.natAbs,Ea w y.natAbs] true (G:=Bool×Value×Value) (λr=>sg r.1 (x/y)) (λr=> .tuple #[.agg #[.bool r.1,r.2.1],.agg #[.bool false,r.2.2]]) (λr=>[Ea r.2.1 (x/y).natAbs,Ea r.2.2 (x%y).natAbs]):=by
 refine Zf func218 ntmps218 λR Q D j=>?_;have I:=Nq x.natAbs;have M:=Nq y.natAbs;have l:0<y.natAbs:=O1;have n:x.natAbs%y.natAbs<y.natAbs:=bN _ l;have B:=Pu (dS n);have z:=Pu (eW x.natAbs y.natAbs);refine go 2 ?_;refine Yh (Yi 3) λb _=>Yh (Yi 4) λp _=>Yh (Zw 5) λq _=>Yh (Zw 6) λu _=>go 8 ?_;refine cl 7 [1,2] (Zxg _ _ _ _ O1 O1 l) λg _=>go 13 ?_;refine Zb0 (d:=18) J (λf=>?_) (λf=>?_)
 .refine go 6 ?_;refine Zc J (λc=>?_) (λc=>?_)
  .subst f;have m:0<x.natAbs%y.natAbs:=by rcases aU (x.natAbs%y.natAbs)with h|h;(rw [h]at c;simp [Hs]at c);exact h
   have e:=divA hs o k m;refine Xw (λ_=>False) [(0,0),(3,0),(4,0),(5,0),(1,1),(2,1),(6,1),(7,0),(8,3)]<|go 4 ?_;refine Dn J (Qr (i:=9) (ivs:=[(0,_)]) (enc:=Mb) (dg U 1) J J K2 Pk ti232 J J J J J pU.cells J J D.h) λv _=>Yv (Zj 10 [7,9] (Zxh _ _ _ _ O1 (show bl 1<=4294967296 by decide))) λF _=>Yv (Zj 11 [2,8] (Zfo _ _ _ _ O1)) λH _=>go 12 ?_;refine dt (Qa (ivs:=[(0,_),(1,_)]) J K4 (λa w hs=>Kb ((Zr J) a w hs) ((Pg (i:=10) J Zo) a w hs)))<|go 1 ?_;refine dt (Qa (ivs:=[(0,_),(1,_)]) J K4 (λa w hs=>Kb ((Zr J) a w hs) ((Pg (i:=11) J Zo) a w hs)))<|go 5 ?_;exact Mn j (_,_,_) results218 J e.1 (Ns 10 (Ns 11 Za (by rw [e.2.2]<;>rfl)) (by rw [e.2.1]<;>rfl))
  .have e:=divB hs o k (.inr ((Pn Xi _).1 O1));refine go 10 ?_;refine dt (Qa (ivs:=[(0,_),(1,_)]) J K4 (λa w hs=>Kb ((Zr J) a w hs) ((Pg (i:=7) J Zo) a w hs)))<|go 1 ?_;refine dt (Qa (ivs:=[(0,_),(1,_)]) J K4 (λa w hs=>Kb ((Zr J) a w hs) ((Pg (i:=8) J Zo) a w hs)))<|go 5 ?_;exact Mn j (_,_,_) results218 J e.1 (Ns 7 (Ns 8 Za (by rw [e.2.2]<;>rfl)) (by rw [e.2.1]<;>rfl))
 .have e:=divB hs o k (.inl f);refine go 17 ?_;refine dt (Qa (ivs:=[(0,_),(1,_)]) J K4 (λa w hs=>Kb ((Zr J) a w hs) ((Pg (i:=7) J Zo) a w hs)))<|go 1 ?_;refine dt (Qa (ivs:=[(0,_),(1,_)]) J K4 (λa w hs=>Kb ((Zr J) a w hs) ((Pg (i:=8) J Zo) a w hs)))<|go 5 ?_;exact Mn j (_,_,_) results218 J e.1 (Ns 7 (Ns 8 Za (by rw [e.2.2]<;>rfl)) (by rw [e.2.1]<;>rfl))
end Go.Sky

