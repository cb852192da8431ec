/- Rules, arithmetic and contracts: part 9. No conditions but those that each theorem names. -/
import Derived.Test.YteikicbnfbgpnaaGreatEb07
set_option linter.all false
namespace Go.Sky
open Go.Proofs
set_option linter.all false
set_option synthInstance.maxHeartbeats 0
@[reducible,instance] def iUnd3:=Und.mk Tryz.underlying3
@[reducible,instance] def iUnd4:=Und.mk Tryz.underlying4
@[reducible,instance] def iUnd5:=Und.mk Tryz.underlying5
@[reducible,instance] def iUnd9:=Und.mk Tryz.underlying9
@[reducible,instance] def iUnd33:=Und.mk Tryz.underlying33
@[reducible,instance] def iUnd39:=Und.mk Tryz.underlying39
@[reducible,instance] def iUnd40:=Und.mk Tryz.underlying40
@[reducible,instance] def iUnd47:=Und.mk Tryz.underlying47
@[reducible,instance] def iUnd80:=Und.mk Tryz.underlying80
@[reducible,instance] def iUnd82:=Und.mk Tryz.underlying82
@[reducible,instance] def iUnd89:=Und.mk Tryz.underlying89
@[reducible,instance] def iUnd91:=Und.mk Tryz.underlying91
@[reducible,instance] def iUnd121:=Und.mk Tryz.underlying121
@[reducible,instance] def iUnd197:=Und.mk Tryz.underlying197
@[reducible,instance] def iUnd217:=Und.mk Tryz.underlying217
@[reducible,instance] def iUnd219:=Und.mk Tryz.underlying219
@[reducible,instance] def iUnd230:=Und.mk Tryz.underlying230
@[reducible,instance] def iUnd232:=Und.mk Tryz.underlying232
@[reducible,instance] def iUnd248:=Und.mk Tryz.underlying248
@[reducible,instance] def iUnd250:=Und.mk Tryz.underlying250
@[reducible,instance] def iUnd268:=Und.mk Tryz.underlying268
@[reducible,instance] def iUnd270:=Und.mk Tryz.underlying270
@[reducible,instance] def iUnd274:=Und.mk Tryz.underlying274
@[reducible,instance] def iUnd276:=Und.mk Tryz.underlying276
@[reducible,instance] def iUnd280:=Und.mk Tryz.underlying280
@[reducible,instance] def iUnd316:=Und.mk Tryz.underlying316
@[reducible,instance] def iSiz3:=Siz.mk Tryz.sizeOf3
@[reducible,instance] def iSiz4:=Siz.mk Tryz.sizeOf4
@[reducible,instance] def iSiz5:=Siz.mk Tryz.sizeOf5
@[reducible,instance] def iSiz9:=Siz.mk Tryz.sizeOf9
@[reducible,instance] def iSiz26:=Siz.mk Tryz.sizeOf26
@[reducible,instance] def iSiz33:=Siz.mk Tryz.sizeOf33
@[reducible,instance] def iSiz40:=Siz.mk Tryz.sizeOf40
@[reducible,instance] def iSiz47:=Siz.mk Tryz.sizeOf47
@[reducible,instance] def iSiz80:=Siz.mk Tryz.sizeOf80
@[reducible,instance] def iSiz82:=Siz.mk Tryz.sizeOf82
@[reducible,instance] def iSiz89:=Siz.mk Tryz.sizeOf89
@[reducible,instance] def iSiz91:=Siz.mk Tryz.sizeOf91
@[reducible,instance] def iSiz217:=Siz.mk Tryz.sizeOf217
@[reducible,instance] def iSiz219:=Siz.mk Tryz.sizeOf219
@[reducible,instance] def iSiz232:=Siz.mk Tryz.sizeOf232
@[reducible,instance] def iSiz248:=Siz.mk Tryz.sizeOf248
@[reducible,instance] def iSiz268:=Siz.mk Tryz.sizeOf268
@[reducible,instance] def iSiz270:=Siz.mk Tryz.sizeOf270
@[reducible,instance] def iSiz276:=Siz.mk Tryz.sizeOf276
@[reducible,instance] def iAgg4:=Agg.mk Tryz.isAgg4
@[reducible,instance] def iAgg9:=Agg.mk Tryz.isAgg9
@[reducible,instance] def iAgg26:=Agg.mk Tryz.isAgg26
@[reducible,instance] def iAgg33:=Agg.mk Tryz.isAgg33
@[reducible,instance] def iAgg80:=Agg.mk Tryz.isAgg80
@[reducible,instance] def iAgg82:=Agg.mk Tryz.isAgg82
@[reducible,instance] def iAgg89:=Agg.mk Tryz.isAgg89
@[reducible,instance] def iAgg91:=Agg.mk Tryz.isAgg91
@[reducible,instance] def iAgg217:=Agg.mk Tryz.isAgg217
@[reducible,instance] def iAgg219:=Agg.mk Tryz.isAgg219
@[reducible,instance] def iAgg268:=Agg.mk Tryz.isAgg268
@[reducible,instance] def iAgg270:=Agg.mk Tryz.isAgg270
@[reducible,instance] def iAgg276:=Agg.mk Tryz.isAgg276
@[reducible,instance] def iZer80:=Zer.mk Tryz.zeroValue80
@[reducible,instance] def iZer82:=Zer.mk Tryz.zeroValue82
@[reducible,instance] def iZer89:=Zer.mk Tryz.zeroValue89
@[reducible,instance] def iZer91:=Zer.mk Tryz.zeroValue91
@[reducible,instance] def iZer219:=Zer.mk Tryz.zeroValue219
@[reducible,instance] def iZer232:=Zer.mk Tryz.zeroValue232
@[reducible,instance] def iZer250:=Zer.mk Tryz.zeroValue250
@[reducible,instance] def iZer270:=Zer.mk Tryz.zeroValue270
@[reducible,instance] def iZer274:=Zer.mk Tryz.zeroValue274
@[reducible,instance] def iZer276:=Zer.mk Tryz.zeroValue276
@[reducible,instance] def iCalF57:=CalF.mk Tryz.call57
@[reducible,instance] def iCalF67:=CalF.mk Tryz.call67
@[reducible,instance] def iCalF69:=CalF.mk Tryz.call69
@[reducible,instance] def iCalF70:=CalF.mk Tryz.call70
@[reducible,instance] def iCalF72:=CalF.mk Tryz.call72
@[reducible,instance] def iCalF76:=CalF.mk Tryz.call76
@[reducible,instance] def iCalF78:=CalF.mk Tryz.call78
@[reducible,instance] def iCalF79:=CalF.mk Tryz.call79
@[reducible,instance] def iCalF81:=CalF.mk Tryz.call81
@[reducible,instance] def iCalF82:=CalF.mk Tryz.call82
@[reducible,instance] def iCalF97:=CalF.mk Tryz.call97
@[reducible,instance] def iCalF99:=CalF.mk Tryz.call99
@[reducible,instance] def iCalF100:=CalF.mk Tryz.call100
@[reducible,instance] def iCalF105:=CalF.mk Tryz.call105
@[reducible,instance] def iCalF106:=CalF.mk Tryz.call106
@[reducible,instance] def iCalF117:=CalF.mk Tryz.call117
@[reducible,instance] def iCalF118:=CalF.mk Tryz.call118
@[reducible,instance] def iCalF119:=CalF.mk Tryz.call119
@[reducible,instance] def iCalF126:=CalF.mk Tryz.call126
@[reducible,instance] def iCalF127:=CalF.mk Tryz.call127
@[reducible,instance] def iCalF128:=CalF.mk Tryz.call128
@[reducible,instance] def iCalF129:=CalF.mk Tryz.call129
@[reducible,instance] def iCalF130:=CalF.mk Tryz.call130
@[reducible,instance] def iCalF131:=CalF.mk Tryz.call131
@[reducible,instance] def iCalF135:=CalF.mk Tryz.call135
@[reducible,instance] def iCalF136:=CalF.mk Tryz.call136
@[reducible,instance] def iCalF138:=CalF.mk Tryz.call138
@[reducible,instance] def iCalF140:=CalF.mk Tryz.call140
@[reducible,instance] def iCalF143:=CalF.mk Tryz.call143
@[reducible,instance] def iCalF144:=CalF.mk Tryz.call144
@[reducible,instance] def iCalF146:=CalF.mk Tryz.call146
@[reducible,instance] def iCalF147:=CalF.mk Tryz.call147
@[reducible,instance] def iCalF148:=CalF.mk Tryz.call148
@[reducible,instance] def iCalF149:=CalF.mk Tryz.call149
@[reducible,instance] def iCalF164:=CalF.mk Tryz.call164
@[reducible,instance] def iCalF165:=CalF.mk Tryz.call165
@[reducible,instance] def iCalF166:=CalF.mk Tryz.call166
@[reducible,instance] def iCalF167:=CalF.mk Tryz.call167
@[reducible,instance] def iCalF169:=CalF.mk Tryz.call169
@[reducible,instance] def iCalF170:=CalF.mk Tryz.call170
@[reducible,instance] def iCalF172:=CalF.mk Tryz.call172
@[reducible,instance] def iCalF173:=CalF.mk Tryz.call173
@[reducible,instance] def iCalF178:=CalF.mk Tryz.call178
@[reducible,instance] def iCalF179:=CalF.mk Tryz.call179
@[reducible,instance] def iCalF180:=CalF.mk Tryz.call180
@[reducible,instance] def iCalF183:=CalF.mk Tryz.call183
@[reducible,instance] def iCalF184:=CalF.mk Tryz.call184
@[reducible,instance] def iCalF188:=CalF.mk Tryz.call188
@[reducible,instance] def iCalF189:=CalF.mk Tryz.call189
@[reducible,instance] def iCalF190:=CalF.mk Tryz.call190
@[reducible,instance] def iCalF191:=CalF.mk Tryz.call191
@[reducible,instance] def iCalF192:=CalF.mk Tryz.call192
@[reducible,instance] def iCalF193:=CalF.mk Tryz.call193
@[reducible,instance] def iCalF194:=CalF.mk Tryz.call194
@[reducible,instance] def iCalF195:=CalF.mk Tryz.call195
@[reducible,instance] def iCalF196:=CalF.mk Tryz.call196
@[reducible,instance] def iCalF197:=CalF.mk Tryz.call197
@[reducible,instance] def iCalF198:=CalF.mk Tryz.call198
@[reducible,instance] def iCalF200:=CalF.mk Tryz.call200
@[reducible,instance] def iCalF201:=CalF.mk Tryz.call201
@[reducible,instance] def iCalF202:=CalF.mk Tryz.call202
@[reducible,instance] def iCalF209:=CalF.mk Tryz.call209
@[reducible,instance] def iCalF210:=CalF.mk Tryz.call210
@[reducible,instance] def iCalF211:=CalF.mk Tryz.call211
@[reducible,instance] def iCalF212:=CalF.mk Tryz.call212
@[reducible,instance] def iCalF213:=CalF.mk Tryz.call213
@[reducible,instance] def iCalF214:=CalF.mk Tryz.call214
@[reducible,instance] def iCalF215:=CalF.mk Tryz.call215
@[reducible,instance] def iCalF216:=CalF.mk Tryz.call216
@[reducible,instance] def iCalF217:=CalF.mk Tryz.call217
@[reducible,instance] def iCalF218:=CalF.mk Tryz.call218
@[reducible,instance] def iCalF219:=CalF.mk Tryz.call219
@[reducible,instance] def iCalF220:=CalF.mk Tryz.call220
@[reducible,instance] def iCalF221:=CalF.mk Tryz.call221
@[reducible,instance] def iCalF222:=CalF.mk Tryz.call222
@[reducible,instance] def iCalF223:=CalF.mk Tryz.call223
@[reducible,instance] def iCalF224:=CalF.mk Tryz.call224
@[reducible,instance] def iCalF225:=CalF.mk Tryz.call225
@[reducible,instance] def iCalF226:=CalF.mk Tryz.call226
@[reducible,instance] def iCalF228:=CalF.mk Tryz.call228
@[reducible,instance] def iCalF232:=CalF.mk Tryz.call232
@[reducible,instance] def iCalF233:=CalF.mk Tryz.call233
@[reducible,instance] def iCalF234:=CalF.mk Tryz.call234
@[reducible,instance] def iCalF235:=CalF.mk Tryz.call235
@[reducible,instance] def iCalF236:=CalF.mk Tryz.call236
@[reducible,instance] def iCalF237:=CalF.mk Tryz.call237
@[reducible,instance] def iCalF238:=CalF.mk Tryz.call238
@[reducible,instance] def iCalF239:=CalF.mk Tryz.call239
@[reducible,instance] def iCalF240:=CalF.mk Tryz.call240
@[reducible,instance] def iCalF251:=CalF.mk Tryz.call251
@[reducible,instance] def iCalF254:=CalF.mk Tryz.call254
@[reducible,instance] def iCalF255:=CalF.mk Tryz.call255
@[reducible,instance] def iCalF256:=CalF.mk Tryz.call256
@[reducible,instance] def iCalF257:=CalF.mk Tryz.call257
@[reducible,instance] def iCalF258:=CalF.mk Tryz.call258
@[reducible,instance] def iCalF259:=CalF.mk Tryz.call259
@[reducible,instance] def iCalF260:=CalF.mk Tryz.call260
@[reducible,instance] def iCalF261:=CalF.mk Tryz.call261
@[reducible,instance] def iCalF262:=CalF.mk Tryz.call262
@[reducible,instance] def iCalF263:=CalF.mk Tryz.call263
@[reducible,instance] def iCalF264:=CalF.mk Tryz.call264
@[reducible,instance] def iCalF265:=CalF.mk Tryz.call265
@[reducible,instance] def iCalF266:=CalF.mk Tryz.call266
@[reducible,instance] def iCalF267:=CalF.mk Tryz.call267
@[reducible,instance] def iCalF268:=CalF.mk Tryz.call268
@[reducible,instance] def iCalF272:=CalF.mk Tryz.call272
@[reducible,instance] def iCalF280:=CalF.mk Tryz.call280
@[reducible,instance] def iCalF281:=CalF.mk Tryz.call281
@[reducible,instance] def iCalF282:=CalF.mk Tryz.call282
@[reducible,instance] def iCalF283:=CalF.mk Tryz.call283
@[reducible,instance] def iCalF284:=CalF.mk Tryz.call284
@[reducible,instance] def iCalF285:=CalF.mk Tryz.call285
@[reducible,instance] def iCalF286:=CalF.mk Tryz.call286
@[reducible,instance] def iCalF287:=CalF.mk Tryz.call287
@[reducible,instance] def iCalF288:=CalF.mk Tryz.call288
@[reducible,instance] def iCalF289:=CalF.mk Tryz.call289
@[reducible,instance] def iCalF290:=CalF.mk Tryz.call290
@[reducible,instance] def iCalF291:=CalF.mk Tryz.call291
@[reducible,instance] def iCalF292:=CalF.mk Tryz.call292
@[reducible,instance] def iCalF293:=CalF.mk Tryz.call293
@[reducible,instance] def iCalF294:=CalF.mk Tryz.call294
@[reducible,instance] def iCalF295:=CalF.mk Tryz.call295
@[reducible,instance] def iCalF297:=CalF.mk Tryz.call297
@[reducible,instance] def iCalF298:=CalF.mk Tryz.call298
@[reducible,instance] def iCalF299:=CalF.mk Tryz.call299
@[reducible,instance] def iCalF300:=CalF.mk Tryz.call300
@[reducible,instance] def iCalF301:=CalF.mk Tryz.call301
@[reducible,instance] def iCalF302:=CalF.mk Tryz.call302
@[reducible,instance] def iCalF303:=CalF.mk Tryz.call303
@[reducible,instance] def iCalF304:=CalF.mk Tryz.call304
@[reducible,instance] def iCalF305:=CalF.mk Tryz.call305
@[reducible,instance] def iCalF306:=CalF.mk Tryz.call306
@[reducible,instance] def iCalF307:=CalF.mk Tryz.call307
@[reducible,instance] def iCalF308:=CalF.mk Tryz.call308
@[reducible,instance] def iCalF309:=CalF.mk Tryz.call309
@[reducible,instance] def iCalF310:=CalF.mk Tryz.call310
@[reducible,instance] def iCalF311:=CalF.mk Tryz.call311
@[reducible,instance] def iCalF312:=CalF.mk Tryz.call312
@[reducible,instance] def iCalF313:=CalF.mk Tryz.call313
@[reducible,instance] def iCalF314:=CalF.mk Tryz.call314
@[reducible,instance] def iCalF315:=CalF.mk Tryz.call315
instance:EncT Tryz.prog 232 1 Mm:=⟨pU⟩
instance:EncE 1 Mm:=⟨_,_,pU⟩
instance:EncT Tryz.prog 5 1 Ziy:=⟨pB⟩
instance:EncE 1 Ziy:=⟨_,_,pB⟩
instance:EncT Tryz.prog 3 1 Hc:=⟨pN⟩
instance:EncE 1 Hc:=⟨_,_,pN⟩
instance:EncT Tryz.prog 3 1 Yg:=⟨pZ⟩
instance:EncE 1 Yg:=⟨_,_,pZ⟩
instance:EncT Tryz.prog 80 2 Zxe:=⟨pW⟩
instance:EncE 2 Zxe:=⟨_,_,pW⟩
instance:EncT Tryz.prog 80 2 wv:=⟨pV⟩
instance:EncE 2 wv:=⟨_,_,pV⟩
instance:EncT Tryz.prog 89 2 Gk:=⟨pI⟩
instance:EncE 2 Gk:=⟨_,_,pI⟩
instance {α:Type} : EncT Tryz.prog 40 1 (Nq (α:=α)):=⟨pS⟩
instance {α:Type} : EncE 1 (Nq (α:=α)):=⟨_,_,pS⟩
instance:EncT Tryz.prog 276 8 iq:=⟨pY⟩
instance:EncE 8 iq:=⟨_,_,pY⟩
instance:EncT Tryz.prog 82 4 rq:=⟨pQ⟩
instance:EncE 4 rq:=⟨_,_,pQ⟩
instance:EncT Tryz.prog 82 4 encQ:=⟨pR⟩
instance:EncE 4 encQ:=⟨_,_,pR⟩
@[reducible,instance] def iUnd23:=Und.mk Tryz.underlying23
@[reducible,instance] def iUnd25:=Und.mk Tryz.underlying25
@[reducible,instance] def iUnd35:=Und.mk Tryz.underlying35
@[reducible,instance] def iUnd38:=Und.mk Tryz.underlying38
@[reducible,instance] def iUnd46:=Und.mk Tryz.underlying46
@[reducible,instance] def iUnd50:=Und.mk Tryz.underlying50
@[reducible,instance] def iUnd61:=Und.mk Tryz.underlying61
@[reducible,instance] def iUnd130:=Und.mk Tryz.underlying130
@[reducible,instance] def iUnd135:=Und.mk Tryz.underlying135
@[reducible,instance] def iUnd140:=Und.mk Tryz.underlying140
@[reducible,instance] def iUnd162:=Und.mk Tryz.underlying162
@[reducible,instance] def iUnd165:=Und.mk Tryz.underlying165
@[reducible,instance] def iUnd166:=Und.mk Tryz.underlying166
@[reducible,instance] def iUnd182:=Und.mk Tryz.underlying182
@[reducible,instance] def iUnd186:=Und.mk Tryz.underlying186
@[reducible,instance] def iUnd189:=Und.mk Tryz.underlying189
@[reducible,instance] def iUnd190:=Und.mk Tryz.underlying190
@[reducible,instance] def iUnd193:=Und.mk Tryz.underlying193
@[reducible,instance] def iUnd210:=Und.mk Tryz.underlying210
@[reducible,instance] def iUnd242:=Und.mk Tryz.underlying242
@[reducible,instance] def iUnd243:=Und.mk Tryz.underlying243
@[reducible,instance] def iUnd331:=Und.mk Tryz.underlying331
@[reducible,instance] def iSiz23:=Siz.mk Tryz.sizeOf23
@[reducible,instance] def iSiz25:=Siz.mk Tryz.sizeOf25
@[reducible,instance] def iSiz35:=Siz.mk Tryz.sizeOf35
@[reducible,instance] def iSiz38:=Siz.mk Tryz.sizeOf38
@[reducible,instance] def iSiz46:=Siz.mk Tryz.sizeOf46
@[reducible,instance] def iSiz64:=Siz.mk Tryz.sizeOf64
@[reducible,instance] def iSiz130:=Siz.mk Tryz.sizeOf130
@[reducible,instance] def iSiz135:=Siz.mk Tryz.sizeOf135
@[reducible,instance] def iSiz162:=Siz.mk Tryz.sizeOf162
@[reducible,instance] def iSiz182:=Siz.mk Tryz.sizeOf182
@[reducible,instance] def iSiz189:=Siz.mk Tryz.sizeOf189
@[reducible,instance] def iSiz210:=Siz.mk Tryz.sizeOf210
@[reducible,instance] def iSiz242:=Siz.mk Tryz.sizeOf242
@[reducible,instance] def iSiz243:=Siz.mk Tryz.sizeOf243
@[reducible,instance] def iSiz330:=Siz.mk Tryz.sizeOf330
@[reducible,instance] def iAgg3:=Agg.mk Tryz.isAgg3
@[reducible,instance] def iAgg23:=Agg.mk Tryz.isAgg23
@[reducible,instance] def iAgg25:=Agg.mk Tryz.isAgg25
@[reducible,instance] def iAgg35:=Agg.mk Tryz.isAgg35
@[reducible,instance] def iAgg38:=Agg.mk Tryz.isAgg38
@[reducible,instance] def iAgg40:=Agg.mk Tryz.isAgg40
@[reducible,instance] def iAgg46:=Agg.mk Tryz.isAgg46
@[reducible,instance] def iAgg50:=Agg.mk Tryz.isAgg50
@[reducible,instance] def iAgg61:=Agg.mk Tryz.isAgg61
@[reducible,instance] def iAgg64:=Agg.mk Tryz.isAgg64
@[reducible,instance] def iAgg130:=Agg.mk Tryz.isAgg130
@[reducible,instance] def iAgg135:=Agg.mk Tryz.isAgg135
@[reducible,instance] def iAgg162:=Agg.mk Tryz.isAgg162
@[reducible,instance] def iAgg182:=Agg.mk Tryz.isAgg182
@[reducible,instance] def iAgg189:=Agg.mk Tryz.isAgg189
@[reducible,instance] def iAgg210:=Agg.mk Tryz.isAgg210
@[reducible,instance] def iAgg243:=Agg.mk Tryz.isAgg243
@[reducible,instance] def iAgg330:=Agg.mk Tryz.isAgg330
@[reducible,instance] def iZer3:=Zer.mk Tryz.zeroValue3
@[reducible,instance] def iZer4:=Zer.mk Tryz.zeroValue4
@[reducible,instance] def iZer23:=Zer.mk Tryz.zeroValue23
@[reducible,instance] def iZer25:=Zer.mk Tryz.zeroValue25
@[reducible,instance] def iZer26:=Zer.mk Tryz.zeroValue26
@[reducible,instance] def iZer35:=Zer.mk Tryz.zeroValue35
@[reducible,instance] def iZer38:=Zer.mk Tryz.zeroValue38
@[reducible,instance] def iZer64:=Zer.mk Tryz.zeroValue64
@[reducible,instance] def iZer130:=Zer.mk Tryz.zeroValue130
@[reducible,instance] def iZer135:=Zer.mk Tryz.zeroValue135
@[reducible,instance] def iZer162:=Zer.mk Tryz.zeroValue162
@[reducible,instance] def iZer165:=Zer.mk Tryz.zeroValue165
@[reducible,instance] def iZer166:=Zer.mk Tryz.zeroValue166
@[reducible,instance] def iZer182:=Zer.mk Tryz.zeroValue182
@[reducible,instance] def iZer189:=Zer.mk Tryz.zeroValue189
@[reducible,instance] def iZer210:=Zer.mk Tryz.zeroValue210
@[reducible,instance] def iZer243:=Zer.mk Tryz.zeroValue243
@[reducible,instance] def iCalF14:=CalF.mk Tryz.call14
@[reducible,instance] def iCalF15:=CalF.mk Tryz.call15
@[reducible,instance] def iCalF16:=CalF.mk Tryz.call16
@[reducible,instance] def iCalF17:=CalF.mk Tryz.call17
@[reducible,instance] def iCalF18:=CalF.mk Tryz.call18
@[reducible,instance] def iCalF19:=CalF.mk Tryz.call19
@[reducible,instance] def iCalF20:=CalF.mk Tryz.call20
@[reducible,instance] def iCalF21:=CalF.mk Tryz.call21
@[reducible,instance] def iCalF22:=CalF.mk Tryz.call22
@[reducible,instance] def iCalF23:=CalF.mk Tryz.call23
@[reducible,instance] def iCalF24:=CalF.mk Tryz.call24
@[reducible,instance] def iCalF25:=CalF.mk Tryz.call25
@[reducible,instance] def iCalF26:=CalF.mk Tryz.call26
@[reducible,instance] def iCalF27:=CalF.mk Tryz.call27
@[reducible,instance] def iCalF28:=CalF.mk Tryz.call28
@[reducible,instance] def iCalF29:=CalF.mk Tryz.call29
@[reducible,instance] def iCalF30:=CalF.mk Tryz.call30
@[reducible,instance] def iCalF31:=CalF.mk Tryz.call31
@[reducible,instance] def iCalF32:=CalF.mk Tryz.call32
@[reducible,instance] def iCalF33:=CalF.mk Tryz.call33
@[reducible,instance] def iCalF34:=CalF.mk Tryz.call34
@[reducible,instance] def iCalF35:=CalF.mk Tryz.call35
@[reducible,instance] def iCalF36:=CalF.mk Tryz.call36
@[reducible,instance] def iCalF37:=CalF.mk Tryz.call37
@[reducible,instance] def iCalF38:=CalF.mk Tryz.call38
@[reducible,instance] def iCalF39:=CalF.mk Tryz.call39
@[reducible,instance] def iCalF40:=CalF.mk Tryz.call40
@[reducible,instance] def iCalF41:=CalF.mk Tryz.call41
@[reducible,instance] def iCalF42:=CalF.mk Tryz.call42
@[reducible,instance] def iCalF43:=CalF.mk Tryz.call43
@[reducible,instance] def iCalF44:=CalF.mk Tryz.call44
@[reducible,instance] def iCalF48:=CalF.mk Tryz.call48
@[reducible,instance] def iCalF49:=CalF.mk Tryz.call49
@[reducible,instance] def iCalF50:=CalF.mk Tryz.call50
@[reducible,instance] def iCalF51:=CalF.mk Tryz.call51
@[reducible,instance] def iCalF52:=CalF.mk Tryz.call52
@[reducible,instance] def iCalF53:=CalF.mk Tryz.call53
@[reducible,instance] def iCalF54:=CalF.mk Tryz.call54
@[reducible,instance] def iCalF55:=CalF.mk Tryz.call55
@[reducible,instance] def iCalF56:=CalF.mk Tryz.call56
@[reducible,instance] def iCalF59:=CalF.mk Tryz.call59
@[reducible,instance] def iCalF61:=CalF.mk Tryz.call61
@[reducible,instance] def iCalF62:=CalF.mk Tryz.call62
@[reducible,instance] def iCalF63:=CalF.mk Tryz.call63
@[reducible,instance] def iCalF64:=CalF.mk Tryz.call64
@[reducible,instance] def iCalF65:=CalF.mk Tryz.call65
@[reducible,instance] def iCalF66:=CalF.mk Tryz.call66
@[reducible,instance] def iCalF68:=CalF.mk Tryz.call68
@[reducible,instance] def iCalF71:=CalF.mk Tryz.call71
@[reducible,instance] def iCalF73:=CalF.mk Tryz.call73
@[reducible,instance] def iCalF74:=CalF.mk Tryz.call74
@[reducible,instance] def iCalF75:=CalF.mk Tryz.call75
@[reducible,instance] def iCalF77:=CalF.mk Tryz.call77
@[reducible,instance] def iCalF80:=CalF.mk Tryz.call80
@[reducible,instance] def iCalF83:=CalF.mk Tryz.call83
@[reducible,instance] def iCalF84:=CalF.mk Tryz.call84
@[reducible,instance] def iCalF85:=CalF.mk Tryz.call85
@[reducible,instance] def iCalF86:=CalF.mk Tryz.call86
@[reducible,instance] def iCalF87:=CalF.mk Tryz.call87
@[reducible,instance] def iCalF88:=CalF.mk Tryz.call88
@[reducible,instance] def iCalF89:=CalF.mk Tryz.call89
@[reducible,instance] def iCalF90:=CalF.mk Tryz.call90
@[reducible,instance] def iCalF91:=CalF.mk Tryz.call91
@[reducible,instance] def iCalF92:=CalF.mk Tryz.call92
@[reducible,instance] def iCalF93:=CalF.mk Tryz.call93
@[reducible,instance] def iCalF94:=CalF.mk Tryz.call94
@[reducible,instance] def iCalF95:=CalF.mk Tryz.call95
@[reducible,instance] def iCalF96:=CalF.mk Tryz.call96
@[reducible,instance] def iCalF98:=CalF.mk Tryz.call98
@[reducible,instance] def iCalF107:=CalF.mk Tryz.call107
@[reducible,instance] def iCalF108:=CalF.mk Tryz.call108
@[reducible,instance] def iCalF109:=CalF.mk Tryz.call109
@[reducible,instance] def iCalF110:=CalF.mk Tryz.call110
@[reducible,instance] def iCalF111:=CalF.mk Tryz.call111
@[reducible,instance] def iCalF112:=CalF.mk Tryz.call112
@[reducible,instance] def iCalF113:=CalF.mk Tryz.call113
@[reducible,instance] def iCalF114:=CalF.mk Tryz.call114
@[reducible,instance] def iCalF115:=CalF.mk Tryz.call115
@[reducible,instance] def iCalF116:=CalF.mk Tryz.call116
@[reducible,instance] def iCalF120:=CalF.mk Tryz.call120
@[reducible,instance] def iCalF121:=CalF.mk Tryz.call121
@[reducible,instance] def iCalF122:=CalF.mk Tryz.call122
@[reducible,instance] def iCalF124:=CalF.mk Tryz.call124
@[reducible,instance] def iCalF125:=CalF.mk Tryz.call125
@[reducible,instance] def iCalF132:=CalF.mk Tryz.call132
@[reducible,instance] def iCalF133:=CalF.mk Tryz.call133
@[reducible,instance] def iCalF134:=CalF.mk Tryz.call134
@[reducible,instance] def iCalF137:=CalF.mk Tryz.call137
@[reducible,instance] def iCalF139:=CalF.mk Tryz.call139
@[reducible,instance] def iCalF141:=CalF.mk Tryz.call141
@[reducible,instance] def iCalF142:=CalF.mk Tryz.call142
@[reducible,instance] def iCalF145:=CalF.mk Tryz.call145
@[reducible,instance] def iCalF150:=CalF.mk Tryz.call150
@[reducible,instance] def iCalF151:=CalF.mk Tryz.call151
@[reducible,instance] def iCalF152:=CalF.mk Tryz.call152
@[reducible,instance] def iCalF153:=CalF.mk Tryz.call153
@[reducible,instance] def iCalF154:=CalF.mk Tryz.call154
@[reducible,instance] def iCalF155:=CalF.mk Tryz.call155
@[reducible,instance] def iCalF156:=CalF.mk Tryz.call156
@[reducible,instance] def iCalF157:=CalF.mk Tryz.call157
@[reducible,instance] def iCalF158:=CalF.mk Tryz.call158
@[reducible,instance] def iCalF159:=CalF.mk Tryz.call159
@[reducible,instance] def iCalF160:=CalF.mk Tryz.call160
@[reducible,instance] def iCalF161:=CalF.mk Tryz.call161
@[reducible,instance] def iCalF162:=CalF.mk Tryz.call162
@[reducible,instance] def iCalF163:=CalF.mk Tryz.call163
@[reducible,instance] def iCalF168:=CalF.mk Tryz.call168
@[reducible,instance] def iCalF174:=CalF.mk Tryz.call174
@[reducible,instance] def iCalF175:=CalF.mk Tryz.call175
@[reducible,instance] def iCalF176:=CalF.mk Tryz.call176
@[reducible,instance] def iCalF177:=CalF.mk Tryz.call177
@[reducible,instance] def iCalF181:=CalF.mk Tryz.call181
@[reducible,instance] def iCalF182:=CalF.mk Tryz.call182
@[reducible,instance] def iCalF185:=CalF.mk Tryz.call185
@[reducible,instance] def iCalF186:=CalF.mk Tryz.call186
@[reducible,instance] def iCalF187:=CalF.mk Tryz.call187
@[reducible,instance] def iCalF199:=CalF.mk Tryz.call199
@[reducible,instance] def iCalF203:=CalF.mk Tryz.call203
@[reducible,instance] def iCalF204:=CalF.mk Tryz.call204
@[reducible,instance] def iCalF205:=CalF.mk Tryz.call205
@[reducible,instance] def iCalF206:=CalF.mk Tryz.call206
@[reducible,instance] def iCalF207:=CalF.mk Tryz.call207
@[reducible,instance] def iCalF208:=CalF.mk Tryz.call208
@[reducible,instance] def iCalF227:=CalF.mk Tryz.call227
@[reducible,instance] def iCalF229:=CalF.mk Tryz.call229
@[reducible,instance] def iCalF230:=CalF.mk Tryz.call230
@[reducible,instance] def iCalF231:=CalF.mk Tryz.call231
@[reducible,instance] def iCalF241:=CalF.mk Tryz.call241
@[reducible,instance] def iCalF247:=CalF.mk Tryz.call247
@[reducible,instance] def iCalF252:=CalF.mk Tryz.call252
@[reducible,instance] def iCalF253:=CalF.mk Tryz.call253
@[reducible,instance] def iCalF271:=CalF.mk Tryz.call271
@[reducible,instance] def iCalF278:=CalF.mk Tryz.call278
@[reducible,instance] def iCalF279:=CalF.mk Tryz.call279
open Go.Proofs.Tryz
set_option synthInstance.maxSize 100000
set_option maxRecDepth 20000
set_option maxHeartbeats 1000000
set_option linter.unusedSimpArgs false
def Yhh(v:Value)(xs:List Nat):Cal prog 183 #[v] [Ys 1 Mm v xs] true (G:=Unit) (λ_=>True) (λ_=>Kn v (tz xs).length) (λ_=>[Ys 1 Mm (Kn v (tz xs).length) (tz xs)]):=by
 refine Zg func183 ntmps183 λp o n c=>?_;refine Pf (Zxa (i:=1) J Zn) (λa=>?_);refine Pf (Ln (i:=1) J Zn) λm=>go 7 ?_;refine lp (G:=Nat) [] [0] (λk=>[(0,Kn v k)]) (λk=>[(1,Ys 1 Mm (Kn v k) (xs.take k))]) (λk=>(k<=xs.length)/\(tz (xs.take k)=tz xs)) (λk=>k) xs.length ⟨Nat.le_refl _,by rw [List.take_length]⟩ ⟨by rw [a];rfl,trivial⟩ ⟨by rw [a,List.take_length];rfl,trivial⟩ ?_;rintro k ⟨h,j⟩;have f:(xs.take k).length=k:=by rw [List.length_take];omega
 refine go 7 ?_;refine Xg (d:=6) J (λl=>?_) (λl=>?_)
 .refine go 4 ⟨O,?_⟩;refine Fq (Zu (ii:=1) (i:=k-1) J J J J Zn Pv Ku) J J<|go 5 ⟨O,?_⟩;refine Zc J (λg=>?_) (λg=>?_)
  .have b:=Zyc h O (by omega:(xs.take k).getD (k-1) 0=0);refine go 8 ⟨O,?_⟩;refine dt (Yat (ii:=1) (i:=k-1) J J J J Zn Pv Ku)<|go 3 ?_;exact Zv (Yfn 1 1 (k-1) J J)<|Yq (k-1) ⟨O1,by rw [<-j,<-b]⟩ O1 ⟨by rw [<-Fj v k (k-1)];rfl,trivial⟩ ⟨by rw [Fj,List.take_take,Nat.min_eq_left O];rfl,trivial⟩
  .refine go 12 ?_;have e:tz xs=xs.take k:=by rw [<-j];exact Zfd h O
   exact Xu c () results183 (by rw [e,f]) trivial (Ob 1 Za (by rw [e,f]))
 .refine go 23 ?_;have e:tz xs=xs.take k:=by rw [<-j];exact Zfd h O
  exact Xu c () results183 (by rw [e,f]) trivial (Ob 1 Za (by rw [e,f]))
def Of(v:Value)(xs:List Nat):Cal prog 183 #[v] [Ys 1 Mm v xs] false (G:=Unit) (λ_=>True) (λ_=>Kn v (tz xs).length) (λ_=>[]):=(Yhh v xs).bare
def Zzs(v w:Value)(x y:Nat)(z:bl x<=4294967296)(N:bl y<=4294967296):Cal prog 222 #[v,w] [Eu v x,Eu w y] false (G:=Value) (λr=>True) (λr=>r) (λr=>[Eu r (x+y)]):=by
 refine Zg func222 ntmps222 λS P s p=>?_;have I:=Nz x;have M:=Nz y;refine go 5 ?_;refine jn (G:=Value×Value×Nat×Nat) [] [0,1,2] (λq=>[(0,q.1),(1,q.2.1)]) (λq=>[(91,Eu q.1 q.2.2.1),(92,Eu q.2.1 q.2.2.2)]) (λq=>(q.2.2.1+q.2.2.2=x+y)/\((dg U q.2.2.2).length<=(dg U q.2.2.1).length)/\((dg U q.2.2.1).length<=1099511627776)) ?_ ?_
 .refine go 9 ?_;refine Zc J (λg=>?_) (λg=>?_)
  .refine go 6 ?_;exact Zv (Qy 2 91 J J J)<|Zv (Qy 1 92 J J J)<|Pz (w,v,y,x) ⟨O1,O1,O1⟩ K2 K2
  .refine go 1 ?_;exact Zv (Qy 1 91 J J J)<|Zv (Qy 2 92 J J J)<|Pz (v,w,x,y) ⟨O1,O1,O1⟩ K2 K2
 .rintro⟨Q,R,a,b⟩ ⟨hs,u,l⟩;dsimp only at hs u l;dsimp only;refine go 5 ⟨O,?_⟩;refine tt (Fe (i:=3) (n:=(dg U a).length+1) (by_:=8) (enc:=Mm) 0 J J J J Pv ti232 J pU.cells pU.pos J J J s.h) λv _=>go 17 ?_;refine lp (G:=Nat×List Nat×Nat) [0,1,5,21] [0,91,92,1,2] (λq=>[(22,.int .i64 (q.1:Int)),(6,.int .u64 (q.2.2:Int))]) (λq=>[(3,Oe 1 232 Mm v q.2.1)]) (λq=>(q.1<=(dg U a).length)/\(q.2.1.length=(dg U a).length+1)/\(∀d∈q.2.1,d<U)/\(q.2.2<=1)/\(Yh U (q.2.1.take q.1)+q.2.2*U^q.1=Yh U ((dg U a).take q.1)+Yh U ((dg U b).take q.1))) (λq=>(dg U a).length-q.1) (0,List.replicate ((dg U a).length+1) 0,0) ⟨O1,O7,Ou _ Xw,O1,by simp [Yh]⟩ K2 K1 ?_;rintro⟨k,o,c⟩ ⟨D,m,e,B,f⟩;dsimp only at D m e B f;dsimp only;refine go 6 ?_;refine Zc J (λh=>?_) (λh=>?_)
  .refine go 15 ?_;refine jn (G:=Unit) [0,1,5,6,7,21,22] [0,3,91,92,1,2] (λ_=>[(8,.int .u64 ((dg U b).getD k 0:Int))]) (λ_=>[]) (λ_=>True) ?_ ?_
   .refine go 8 ?_;refine Zc J (λj=>?_) (λj=>?_)
    .refine go 7 ⟨O3,O3,?_⟩
     try (have t:(dg U b).getD k 0=0:=by simp [List.getD,List.getElem?_eq_none (by omega:(dg U b).length<=k)])
     exact Pz () trivial ⟨by first|rfl|(rw [t];rfl),trivial⟩ trivial
    .refine go 1 ?_
     try (have t:(dg U b).getD k 0=0:=by simp [List.getD,List.getElem?_eq_none (by omega:(dg U b).length<=k)])
     exact Pz () trivial ⟨by first|rfl|(rw [t];rfl),trivial⟩ trivial
   .rintro _ -;refine go 9 ⟨O3,O3,?_⟩;refine dt (Zq6 J J J J O Zh2)<|go 4 ⟨O3,?_⟩;refine tt (Kb (i:=3) (enc:=Mm) _ J J J J J J pU J s.h O2 O3) (λ_ _=>?_);refine go 8 ⟨O,?_⟩;exact Yq (k+1,_,_) ⟨O1,O8,Lv e _ _ (Nat.mod_lt _ Xw),by have F:=Xq Xw (Ni Xr a) k;have H:=Xq Xw (Ni Xr b) k;simp only [U]at *;omega,Ykz f O⟩ O1 K2 K1
  .refine go 6 ?_;obtain rfl:k=(dg U a).length:=O;refine go 6 ⟨O3,?_⟩;refine tt (Kb (i:=3) (enc:=Mm) _ J J J J J J pU J s.h O2 O3) λ_ _=>go 5 ?_;refine cl 3 [3] (Of _ _) λ_ _=>?_;refine Yx (Zb9 3 J J pU)<|go 4 ?_;have z:tz (o.set (dg U a).length c)=dg U (x+y):=by
    rw [<-Ic Xr _ (Lv e _ _ (by simp only [U];omega)),<-hs];congr 1
    conv=>rhs;rw [<-Mc Xr a,<-Mc Xr b]
    rw [List.take_of_length_le (Nat.le_refl (dg U a).length),Nx U (dg U b) _ u]at f;rw [<-f,<-Co U o _ c O,Nx _ _ _ O8]
   exact Xu p _ results222 J trivial (gow 3 Za z)
def Zf3(v w:Value)(x y:Nat)(t:bl x<=4294967296)(l:y<=x:=by omega):Cal prog 224 #[v,w] [Eu v x,Eu w y] false (G:=Value) (λr=>True) (λr=>r) (λr=>[Eu r (x-y)]):=by
 refine Zg func224 ntmps224 λM I s h=>?_;have D:=Nz x;have F:=Nz y;have H:=Og l;refine go 9 ?_;refine tt (Fe (i:=3) (n:=(dg U x).length) (by_:=8) (enc:=Mm) 0 J J J J Pv ti232 J pU.cells pU.pos J J J s.h) λv _=>go 17 ?_;refine lp (G:=Nat×List Nat×Nat) [0,1,5,13] [0,1,2] (λq=>[(14,.int .i64 (q.1:Int)),(6,.int .u64 (q.2.2:Int))]) (λq=>[(3,Oe 1 232 Mm v q.2.1)]) (λq=>(q.1<=(dg U x).length)/\(q.2.1.length=(dg U x).length)/\(∀d∈q.2.1,d<U)/\(q.2.2<=1)/\(Yh U (q.2.1.take q.1)+Yh U ((dg U y).take q.1)=Yh U ((dg U x).take q.1)+q.2.2*U^q.1)) (λq=>(dg U x).length-q.1) (0,List.replicate ((dg U x).length) 0,0) ⟨O1,O7,Ou _ Xw,O1,by simp [Yh]⟩ K2 K1 ?_;rintro⟨k,o,c⟩ ⟨B,b,a,p,j⟩;dsimp only at B b a p j;dsimp only;refine go 6 ?_;refine Zc J (λe=>?_) (λe=>?_)
 .refine go 15 ?_;refine jn (G:=Unit) [0,1,5,6,7,13,14] [0,3,1,2] (λ_=>[(8,.int .u64 ((dg U y).getD k 0:Int))]) (λ_=>[]) (λ_=>True) ?_ ?_
  .refine go 8 ?_;refine Zc J (λf=>?_) (λf=>?_)
   .refine go 7 ⟨O3,O3,?_⟩
    try (have m:(dg U y).getD k 0=0:=by simp [List.getD,List.getElem?_eq_none (by omega:(dg U y).length<=k)])
    exact Pz () trivial ⟨by first|rfl|(rw [m];rfl),trivial⟩ trivial
   .refine go 1 ?_
    try (have m:(dg U y).getD k 0=0:=by simp [List.getD,List.getElem?_eq_none (by omega:(dg U y).length<=k)])
    exact Pz () trivial ⟨by first|rfl|(rw [m];rfl),trivial⟩ trivial
  .rintro _ -;refine go 9 ⟨O3,O3,?_⟩;refine dt (Yoq J J J J O Yb1)<|go 4 ⟨O3,?_⟩;refine tt (Kb (i:=3) (enc:=Mm) _ J J J J J J pU J s.h O2 O3) (λ_ _=>?_);refine go 8 ⟨O,?_⟩;exact Yq (k+1,_,_) ⟨O1,O8,Lv a _ _ (Nat.mod_lt _ Xw),Ykh _ _ _,Yem p (Xq Xw (Ni Xr x) k) (Xq Xw (Ni Xr y) k) j O⟩ O1 K2 K1
 .refine go 8 ?_;refine cl 3 [3] (Of _ _) λ_ _=>?_;refine Yx (Zb9 3 J J pU)<|go 4 ?_;obtain rfl:k=(dg U x).length:=O;have t:tz o=dg U (x-y):=by rw [<-Ic Xr _ a];congr 1;have g:(dg U y).length<=(dg U x).length:=O;rw [Nx U o _ O,Nx U (dg U y) _ g,Nx U (dg U x) _ (Nat.le_refl _),Mc Xr,Mc Xr]at j;have z:=Zg1 Xw o a;rw [b]at z;have u:c=0\/c=1:=O;rcases u with rfl|rfl<;>omega
  exact Xu h _ results224 J trivial (gow 3 Za t)
def Zcq(v w:Value)(x y:Nat)(q:bl x<=4294967296)(s:bl y<=4294967296):Cal prog 223 #[v,w] [Eu v x,Eu w y] false (G:=Int) (λr=>(r<0↔x<y)/\(0<r↔y<x)) (λr=> .int .i64 r) (λr=>[]):=by
 refine Zg func223 ntmps223 λu t p a=>?_;have m:=Nz x;have n:=Nz y;refine go 15 ?_;refine Zc J (λe=>?_) (λe=>?_)
 .refine go 12 ⟨O,?_⟩;exact Xu a _ results223 J ⟨⟨λh=>Za2 Xr O,λh=>by have:=Og (Nat.le_of_lt h);omega⟩,⟨λh=>Za2 Xr O,λh=>by have:=Og (Nat.le_of_lt h);omega⟩⟩ Za
 .have c:(dg U x).length=(dg U y).length:=O;refine go 12 ⟨O,?_⟩;refine lp (G:=Nat) [0,1] [0,1,2] (λk=>[(5,.int .i64 ((k:Int)-1))]) (λk=>[]) (λk=>(k<=(dg U x).length)/\((dg U x).drop k=(dg U y).drop k)) (λk=>k) (dg U x).length ⟨O1,by rw [List.drop_length,c,List.drop_length]⟩ K1 trivial ?_;rintro k ⟨o,d⟩;refine go 7 ?_;refine Zc J (λf=>?_) (λf=>?_)
  .refine go 6 ?_;refine Xz (λ_=>False) [(0,0),(1,0),(2,0),(3,0),(4,0),(5,0),(6,0),(7,0),(8,0),(9,0)]<|go 2 ?_;refine Xj J J (Xl (Zu (ii:=1) (i:=k-1) J J J J Zn Pv Ku))<|go 3 ⟨O3,?_⟩;refine Xj J J (Xl (Zu (ii:=2) (i:=k-1) J J J J Zn Pv Ku))<|go 5 ⟨O3,?_⟩;refine Zc J (λg=>?_) (λg=>?_)
   .refine go 12 ?_;have b:=Zrd Xw (xs:=dg U x) (ys:=dg U y) (Ni Xr x) (k:=k-1) O O (by rw [show k-1+1=k by omega];exact d) O;rw [Mc Xr,Mc Xr]at b;exact Xu a (-1) results223 J O Za
   .refine go 1 ?_;refine Xz (λ_=>False) [(0,0),(1,0),(2,0),(3,0),(4,0),(5,0),(6,0),(7,0),(8,0),(9,0)]<|go 2 ?_;refine Xj J J (Xl (Zu (ii:=1) (i:=k-1) J J J J Zn Pv Ku))<|go 3 ⟨O3,?_⟩;refine Xj J J (Xl (Zu (ii:=2) (i:=k-1) J J J J Zn Pv Ku))<|go 5 ⟨O3,?_⟩;refine Zc J (λj=>?_) (λj=>?_)
    .refine go 12 ?_;have b:=Zrd Xw (xs:=dg U y) (ys:=dg U x) (Ni Xr y) (k:=k-1) O O (by rw [show k-1+1=k by omega];exact d.symm) O;rw [Mc Xr,Mc Xr]at b;exact Xu a 1 results223 J O Za
    .refine go 9 ⟨O,?_⟩;exact Yq (k-1) ⟨O1,by have:=Zgj (xs:=dg U x) (ys:=dg U y) (k:=k-1) O O (by rw [show k-1+1=k by omega];exact d) O;exact this⟩ O1 ⟨by rw [show(((k-1:Nat):Int)-1)=(k:Int)-1-1 by omega];rfl,trivial⟩ trivial
  .refine go 11 ?_;obtain rfl:k=0:=O;have l:x=y:=(Zhv Xr).1 (by simpa using d);exact Xu a 0 results223 J O Za
def Ykn(x y:Nat)(b:x<U)(c:y<U):Qf prog 268 #[.int .u64 (x:Int),.int .u64 (y:Int)] [] (.tuple #[.int .u64 ((x*y/U:Nat):Int),.int .u64 ((x*y%U:Nat):Int)]):=by refine Zg func268 ntmps268 λf e d a=>?_;simp only [U]at b c;refine go 9 ?_;refine dt (Zsc J J J b)<|go 6 ?_;refine dt (Gx (n:=32) (n':=4294967296) J J J J J)<|go 6 ?_;refine dt (Zsc J J J c)<|go 6 ?_;refine dt (Gx (n:=32) (n':=4294967296) J J J J J)<|go 7 ?_;refine dt (Cl J J J)<|go 7 ?_;refine dt (Cl J J J)<|go 1 ?_;refine dt (Gx (n:=32) (n':=4294967296) J J J J J)<|dt (Bl J J J)<|go 6 ?_;refine dt (Zsc J J J (Nat.mod_lt _ Xw))<|go 6 ?_;refine dt (Gx (n:=32) (n':=4294967296) J J J J J)<|go 8 ?_;refine dt (Cl J J J)<|dt (Bl J J J)<|go 7 ?_;refine dt (Cl J J J)<|go 1 ?_;refine dt (Bl J J J)<|go 1 ?_;refine dt (Gx (n:=32) (n':=4294967296) J J J J J)<|dt (Bl J J J)<|go 7 ?_;refine dt (Cl J J J)<|go 4 ?_;exact Nr a () results268 (by rw [Yhl b c _ _ rfl rfl]) trivial Za
def Zzq(v w:Value)(x y:Nat)(H:bl x<=4294967296)(Q:bl y<=4294967296):Cal prog 220 #[v,w] [Eu v x,Eu w y] false (G:=Value) (λr=>True) (λr=>r) (λr=>[Eu r (x*y)]):=by
 refine Zg func220 ntmps220 λS R D B=>?_;have N:=Nz x;have P:=Nz y;refine go 12 ⟨O,?_⟩;refine tt (Fe (i:=3) (n:=(dg U x).length+(dg U y).length) (by_:=8) (enc:=Mm) 0 J J J J Pv ti232 J pU.cells pU.pos J J J D.h) λv _=>go 12 ?_;refine lp (G:=Nat×List Nat) [1,5,20,21] [0,1,2] (λq=>[(22,.int .i64 (q.1:Int))]) (λq=>[(3,Oe 1 232 Mm v q.2)]) (λq=>(q.1<=(dg U x).length)/\(q.2.length=(dg U x).length+(dg U y).length)/\(∀d∈q.2,d<U)/\(∀j,q.1+(dg U y).length<=j->q.2.getD j 0=0)/\(Yh U (q.2.take (q.1+(dg U y).length))=Yh U ((dg U x).take q.1)*y)) (λq=>(dg U x).length-q.1) (0,List.replicate ((dg U x).length+(dg U y).length) 0) ⟨O1,O7,Ou _ Xw,λj _=>Ib _ j,by simp [Yh,List.take_replicate,Gp]⟩ K1 K1 ?_;rintro⟨i,o⟩ ⟨hi,t,g,I,u⟩;dsimp only at hi t g I u;dsimp only;refine go 6 ?_;refine Zc J (λm=>?_) (λm=>?_)
 .refine go 27 ⟨O3,O3,?_⟩;refine lp (G:=Nat×List Nat×Nat) [1,5,6,7,20,21,22,27,28] [0,1,2] (λq=>[(29,.int .i64 (q.1:Int)),(8,.int .u64 (q.2.2:Int))]) (λq=>[(3,Oe 1 232 Mm v q.2.1)]) (λq=>(q.1<=(dg U y).length)/\(q.2.1.length=(dg U x).length+(dg U y).length)/\(∀d∈q.2.1,d<U)/\(∀j,i+(dg U y).length<=j->q.2.1.getD j 0=0)/\(q.2.2<U)/\(Yh U (q.2.1.take (i+(dg U y).length))+q.2.2*U^(i+q.1)=Yh U ((dg U x).take i)*y+(dg U x).getD i 0*U^i*Yh U ((dg U y).take q.1))) (λq=>(dg U y).length-q.1) (0,o,0) ⟨O1,t,g,I,Xw,by rw [u];simp [Yh]⟩ K2 K1 ?_;rintro⟨k,p,c⟩ ⟨M,z,a,l,f,h⟩;dsimp only at M z a l f h;dsimp only;have b:=Ycu (Xq Xw (Ni Xr x) i) (Xq Xw (Ni Xr y) k) (Xq Xw a (i+k)) f;refine go 6 ?_;refine Zc J (λs=>?_) (λs=>?_)
  .refine go 17 ⟨O3,O3,?_⟩;refine cl 3 [] (Ykn _ _ (Xq Xw (Ni Xr _) _) (Xq Xw (Ni Xr _) _)) λ_ _=>?_;refine go 14 ⟨O,?_⟩;refine dt (Zu (ii:=3) (i:=i+k) J J J J (Yb pU) Pv Ku)<|go 1 ⟨O3,?_⟩;refine dt (Zq6 (c:=0) J J J J O Zh2)<|go 11 ?_;refine dt (Bl J J J)<|go 7 ?_;refine dt (Zq6 (c:=0) J J J J O Zh2)<|go 15 ⟨O,?_⟩;refine dt (Bl J J J)<|dt (Zu (ii:=3) (i:=i+k) J J J J (Yb pU) Pv Ku)<|tt (Kb (i:=3) (enc:=Mm) _ J J J J J J pU J D.h O2 O3) (λ_ _=>?_);refine go 8 ⟨O,?_⟩;exact Yq (k+1,_,_) ⟨O1,O8,Lv a _ _ (Nat.mod_lt _ Xw),λj F=>by rw [Oq _ _ _ _ _ O,if_neg O];exact l j F,b.2,Yhk h O O b.1⟩ O1 K2 K1
  .refine go 5 ?_;obtain rfl:k=(dg U y).length:=O;have e:=h;rw [List.take_of_length_le (Nat.le_refl (dg U y).length),Mc Xr]at e;refine go 7 ⟨O,?_⟩;refine dt (Zu (ii:=3) (i:=i+(dg U y).length) J J J J (Yb pU) Pv Ku)<|tt (Kb (i:=3) (enc:=Mm) _ J J J J J J pU J D.h O2 O3) (λ_ _=>?_);refine go 7 ⟨O,?_⟩;exact Yq (i+1,_) ⟨O1,O8,Lv a _ _ f,λj F=>by rw [Oq _ _ _ _ _ O,if_neg O];exact l j O,by dsimp only;rw [show i+1+(dg U y).length=i+(dg U y).length+1 by omega,Co _ _ _ _ O,Ql,Nat.add_mul,<-e]⟩ O1 K1 K1
 .refine go 8 ?_;refine cl 3 [3] (Of _ _) λ_ _=>?_;refine Yx (Zb9 3 J J pU)<|go 4 ?_;obtain rfl:i=(dg U x).length:=O;have H:tz o=dg U (x*y):=by rw [<-Ic Xr _ g];congr 1;rw [Nx U o _ O,List.take_of_length_le (Nat.le_refl _),Mc Xr]at u;exact u
  exact Xu B _ results220 J trivial (gow 3 Za H)
set_option maxHeartbeats 1000000 in
def Zvq(x:Nat)(q:x<U):Qf prog 251 #[.int .u64 (x:Int)] [] (.int .i64 (bl x:Int)):=by
 refine Zg func251 ntmps251 λz y w g=>?_;simp only [U]at q;have c:=Ga x 32;have a:=Ga x 16;have l:=Ga x 8;have b:=Ga x 24;have d:=Ga x 40;have e:=Ga x 48;have f:=Ga x 56;have f32:=Zb7 32 x;have f16:=Zb7 16 x;have f8:=Zb7 8 x;have f24:=Zb7 24 x;have f40:=Zb7 40 x;have f48:=Zb7 48 x;have f56:=Zb7 56 x;have r:=Nat.div_div_eq_div_mul x (2^32) (2^16);have s:=Nat.div_div_eq_div_mul x (2^32) (2^8);have t:=Nat.div_div_eq_div_mul x (2^16) (2^8);have u:=Nat.div_div_eq_div_mul (x/2^32) (2^16) (2^8);have v:=Nat.div_div_eq_div_mul x (2^32) (2^16*2^8);simp only [Nat.reducePow,Nat.reduceMul]at *;refine go 12 ?_;refine Zc J (λm=>?_) (λm=>?_)
 .refine go 3 ?_;refine dt (Gx (n:=32) (n':=4294967296) J J J J J)<|go 14 ?_;refine Zc J (λo=>?_) (λo=>?_)
  .refine go 3 ?_;refine dt (Gx (n:=16) (n':=65536) J J J J J)<|go 16 ⟨O,?_⟩;refine Zc J (λp=>?_) (λp=>?_)
   .refine go 3 ?_;refine dt (Gx (n:=8) (n':=256) J J J J J)<|go 13 ⟨O,?_⟩;refine dt (Zef J J Zal uT5)<|dt (Zil J J J uT9 J O O2 O6)<|dt (Zby J J uT5 uT3 (Au _))<|go 5 ⟨Ce _ O O,?_⟩;exact Xu g () results251 (Ar (n:=x) O (by first|omega|(simp only [Nat.div_div_eq_div_mul,Nat.reduceMul,c,a,l,b,d,e,f];omega))).symm trivial Za
   .refine go 6 ?_;refine dt (Zef J J Zal uT5)<|dt (Zil J J J uT9 J O O2 O6)<|dt (Zby J J uT5 uT3 (Au _))<|go 5 ⟨Ce _ O O,?_⟩;exact Xu g () results251 (Ar (n:=x) O (by first|omega|(simp only [Nat.div_div_eq_div_mul,Nat.reduceMul,c,a,l,b,d,e,f];omega))).symm trivial Za
  .refine go 9 ?_;refine Zc J (λi=>?_) (λi=>?_)
   .refine go 3 ?_;refine dt (Gx (n:=8) (n':=256) J J J J J)<|go 13 ⟨O,?_⟩;refine dt (Zef J J Zal uT5)<|dt (Zil J J J uT9 J O O2 O6)<|dt (Zby J J uT5 uT3 (Au _))<|go 5 ⟨Ce _ O O,?_⟩;exact Xu g () results251 (Ar (n:=x) O (by first|omega|(simp only [Nat.div_div_eq_div_mul,Nat.reduceMul,c,a,l,b,d,e,f];omega))).symm trivial Za
   .refine go 6 ?_;refine dt (Zef J J Zal uT5)<|dt (Zil J J J uT9 J O O2 O6)<|dt (Zby J J uT5 uT3 (Au _))<|go 5 ⟨Ce _ O O,?_⟩;exact Xu g () results251 (Ar (n:=x) O (by first|omega|(simp only [Nat.div_div_eq_div_mul,Nat.reduceMul,c,a,l,b,d,e,f];omega))).symm trivial Za
 .refine go 9 ?_;refine Zc J (λh=>?_) (λh=>?_)
  .refine go 3 ?_;refine dt (Gx (n:=16) (n':=65536) J J J J J)<|go 16 ⟨O,?_⟩;refine Zc J (λj=>?_) (λj=>?_)
   .refine go 3 ?_;refine dt (Gx (n:=8) (n':=256) J J J J J)<|go 13 ⟨O,?_⟩;refine dt (Zef J J Zal uT5)<|dt (Zil J J J uT9 J O O2 O6)<|dt (Zby J J uT5 uT3 (Au _))<|go 5 ⟨Ce _ O O,?_⟩;exact Xu g () results251 (Ar (n:=x) O (by first|omega|(simp only [Nat.div_div_eq_div_mul,Nat.reduceMul,c,a,l,b,d,e,f];omega))).symm trivial Za
   .refine go 6 ?_;refine dt (Zef J J Zal uT5)<|dt (Zil J J J uT9 J O O2 O6)<|dt (Zby J J uT5 uT3 (Au _))<|go 5 ⟨Ce _ O O,?_⟩;exact Xu g () results251 (Ar (n:=x) O (by first|omega|(simp only [Nat.div_div_eq_div_mul,Nat.reduceMul,c,a,l,b,d,e,f];omega))).symm trivial Za
  .refine go 9 ?_;refine Zc J (λk=>?_) (λk=>?_)
   .refine go 3 ?_;refine dt (Gx (n:=8) (n':=256) J J J J J)<|go 13 ⟨O,?_⟩;refine dt (Zef J J Zal uT5)<|dt (Zil J J J uT9 J O O2 O6)<|dt (Zby J J uT5 uT3 (Au _))<|go 5 ⟨Ce _ O O,?_⟩;exact Xu g () results251 (Ar (n:=x) O (by first|omega|(simp only [Nat.div_div_eq_div_mul,Nat.reduceMul,c,a,l,b,d,e,f];omega))).symm trivial Za
   .refine go 6 ?_;refine dt (Zef J J Zal uT5)<|dt (Zil J J J uT9 J O O2 O6)<|dt (Zby J J uT5 uT3 (Au _))<|go 5 ⟨Ce _ O O,?_⟩;exact Xu g () results251 (Ar (n:=x) O (by first|omega|(simp only [Nat.div_div_eq_div_mul,Nat.reduceMul,c,a,l,b,d,e,f];omega))).symm trivial Za
def Zrt(x:Nat)(b:x<U):Qf prog 272 #[.int .u64 (x:Int)] [] (.int .i64 ((64-bl x:Nat):Int)):=by refine Zg func272 ntmps272 λf e d a=>?_;have c:bl x<=64:=(Qg 64 x).2 b;refine go 8 ?_;refine cl 0 [] (Zvq _ b) λ_ _=>?_;refine go 5 ⟨O,?_⟩;exact Xu a () results272 (by congr 1;omega) trivial Za
def Zk3(v:Value)(x:Nat)(g:bl x<=1099511627776:=by omega):Qf prog 232 #[v] [Eu v x] (.int .i64 (bl x:Int)):=by
 refine Zg func232 ntmps232 λk j f b=>?_;have e:=Nz x;refine go 13 ?_;refine Zc J (λa=>?_) (λa=>?_)
 .refine go 7 ?_;have c:x=0:=(Pw Xr x).1 O;exact Xu b () results232 (by rw [c];rfl) trivial Za
 .have d:0<x:=by rcases Nat.eq_zero_or_pos x with rfl|h;(simp [Gl]at a);exact h
  obtain⟨l,m,n,o⟩:=Zyn d;refine go 11 ⟨O,O,?_⟩;refine dt (Zu (ii:=1) (i:=(dg U x).length-1) J J J J Zn Pv Ku)<|go 1 ⟨O3,?_⟩;refine cl 1 [] (Zrt _ (Xq Xw (Ni Xr _) _)) λ_ _=>?_;refine go 5 ⟨O,?_⟩;exact Xu b () results232 (by congr 1;omega) trivial Za
def Ydn(v:Value)(xs:List Nat)(g:xs.length*8<=140737488355328):Yld prog 309 #[v] [Ys 1 Mm v xs] (G:=Value) (λr=>True) (λr=>r) (λr=>Oe 1 232 Mm r xs):=by
 refine Zrk func309 J ntmps309 J K1 ?_;intro k h d e;have d:=Hw.mk d;simp only [Qs,Yv];refine Pf (Yiy (i:=1) J Zn) λc=>go 9 ?_;refine dt (Zq5 J J J (i:=1) J Zn Pv)<|go 2 ?_;refine Mv J (λb=>?_) (λb=>?_)
 .refine go 7 ?_;obtain rfl:xs=[]:=c (by simpa using b);exact Zv (Qx 9 1 232 Mm)<|Zgz (.inl J) (.slice none 0 0) _ (λa w hs=>Zbm hs results309 J) J trivial J 9 J J J
 .refine go 4 ?_;refine tt (Yeg (i:=2) (enc:=Mm) J J J Pv pU J d.h) λv _=>go 1 ?_;refine tt (Pp (i:=2) (j:=1) (by_:=8) J J J J J J O2 J Zn Pv ti232 J pU J J J O8 O2 J d.h) λf _=>go 4 ?_;exact Zgz (.inl J) _ _ (λa w hs=>Zbm hs results309 J) J trivial J 2 J (by rfl) J
set_option maxHeartbeats 1600000 in
def Zvr(h l y:Nat)(hl:l<U)(hy:y<U)(hh:h<y):Qf prog 294 #[.int .u64 (h:Int),.int .u64 (l:Int),.int .u64 (y:Int)] [] (.tuple #[.int .u64 (((h*U+l)/y:Nat):Int),.int .u64 (((h*U+l)%y:Nat):Int)]):=by
 refine Zg func294 ntmps294 λw0 sc hw a8=>?_;have c0:U=18446744073709551616:=rfl;have hp:0<y:=O;have c1:bl y<=64:=(Qg 64 y).2 hy;obtain⟨s,hs⟩:∃s,s=64-bl y:=⟨_,rfl⟩;obtain⟨Y,i⟩:∃Y,Y=y*2^s:=⟨_,rfl⟩;obtain⟨b6,S⟩:=Yhd hp hy hs;rw [<-i]at b6 S;have V:=S;obtain⟨D,hD⟩:∃D,D=(h*U+l)*2^s:=⟨_,rfl⟩;obtain⟨u,Z⟩:∃u,u=D/U:=⟨_,rfl⟩;obtain⟨v,a0⟩:∃v,v=D%U:=⟨_,rfl⟩;obtain⟨v1,Q⟩:∃x,x=v/4294967296:=⟨_,rfl⟩;obtain⟨v0,P⟩:∃x,x=v%4294967296:=⟨_,rfl⟩;obtain⟨e,b1⟩:∃x,x=Y/4294967296:=⟨_,rfl⟩;obtain⟨N,a9⟩:∃x,x=Y%4294967296:=⟨_,rfl⟩;have f:Y=e*4294967296+N:=O;have b7:=shl_lt hh (show y*2^s<U by rw [<-i];exact S);have c3:u<Y:=by rw [Z,hD,i];exact top_lt hl hh
 have hu:u<e*4294967296+N:=O;have c4:v<U:=by rw [a0];exact Nat.mod_lt _ Xw
 have b0:2147483648<=e:=O;have j:e<4294967296:=O;have g:N<4294967296:=O;have M:v1<4294967296:=O;have I:v0<4294967296:=O;obtain⟨Q1,o⟩:∃x,x=(u*4294967296+v1)/Y:=⟨_,rfl⟩;obtain⟨t,H⟩:∃x,x=(u*4294967296+v1)%Y:=⟨_,rfl⟩;have c2:t<Y:=by rw [H];exact Nat.mod_lt _ O
 have ht:t<e*4294967296+N:=O;obtain⟨Q0,m⟩:∃x,x=(t*4294967296+v0)/Y:=⟨_,rfl⟩;have R:0<Y:=O;obtain⟨a6,a7⟩:=dv_two (D:=D) R Z a0 Q P;rw [<-o,<-H,<-m]at a6;rw [<-H]at a7;have b8:Q0<4294967296:=by rw [m,f];exact dv_Q I ht
 have b9:Q1<4294967296:=by rw [o,f];exact dv_Q M hu
 refine go 13 ?_;refine Zc J (λa1=>?_) (λa1=>?_)
 .exfalso;omega
 .refine go 10 ?_;refine Zc J (λa2=>?_) (λa2=>?_)
  .exfalso;omega
  .refine go 9 ?_;refine Zc J (λa3=>?_) (λa3=>?_)
   .refine go 1 ?_;refine Xz (λ_=>False) [(0,0),(1,0),(2,0),(3,0),(4,0),(5,0),(6,0),(7,3)]<|go 2 ?_;refine Xj J J (Xl (Yd8 J J J))<|go 2 ?_;refine Xj J J (Xl (u_rem J J J O))<|go 6 ?_;exact Nr a8 () results294 (by have h0:h=0:=O;rw [h0];simp) trivial Za
   .refine go 5 ?_;refine cl 0 [] (Zrt _ hy) λ_ _=>?_;refine dt (Zq8 J J uT3 Zyb (by simp only [U];omega))<|go 4 ?_;refine Zf (Kc 8 (v':= .int .u64 (s:Int)) J (by rw [hs]))<|go 3 ?_;refine dt (Zm7 J J J J)<|go 4 ?_;refine Zf (Kc 2 (v':= .int .u64 (Y:Int)) J (by rw [i,Nat.mod_eq_of_lt (by rw [<-i];exact V)]))<|go 2 ?_;refine dt (Gx (n:=32) (n':=4294967296) J J J J J)<|go 6 ?_;refine dt (Zsc J J J)<|go 7 ?_;refine dt (Zm7 J J J J)<|go 2 ?_;refine dt (Zd4 J J J (by first|exact Nat.mod_lt _ Xw|omega))<|dt (Zm6 J J (n:=64-s) J (by simp only [U];omega))<|dt (Ylo J J J (Nat.mod_lt _ Xw) (Nat.lt_of_le_of_lt (Nat.div_le_self _ _) hl))<|go 4 ?_;refine Zf (Kc 11 (v':= .int .u64 (u:Int)) J (by rw [Z,hD,Yg3 O b7 hl]))<|go 3 ?_;refine dt (Zm7 J J J J)<|go 4 ?_;refine Zf (Kc 12 (v':= .int .u64 (v:Int)) J (by rw [a0,hD,Ycw h l s]))<|go 2 ?_;refine dt (Gx (n:=32) (n':=4294967296) J J J J J)<|go 4 ?_;refine Zf (Kc 13 (v':= .int .u64 (v1:Int)) J (by rw [Q]))<|go 2 ?_;refine dt (Zsc J J J)<|go 4 ?_;refine Zf (Kc 14 (v':= .int .u64 (v0:Int)) J (by rw [Zvt,P]))<|Zf (Kc 9 (v':= .int .u64 (e:Int)) J (by rw [b1]))<|Zf (Kc 10 (v':= .int .u64 (N:Int)) J (by rw [Zvt,a9]))<|go 3 ?_;refine dt (Yd8 J J J)<|go 8 ?_;refine dt (Cl J J J)<|dt (Zd4 J J J (by first|exact Nat.mod_lt _ Xw|omega))<|go 3 ?_;refine jn (G:=Unit) [2,8,9,10,11,13,14] [0] (λ_=>[(15,.int .u64 ((Q1:Nat):Int))]) (λ_=>[]) (λ_=>True) ?_ ?_
    .refine go 1 ?_;refine Zf (Kc 16 (v':= .int .u64 ((u%e:Nat):Int)) J (by rw [rsub O O]))<|lp (G:=Nat×Nat) [2,8,9,10,11,13,14] [0] (λq=>[(15,.int .u64 (q.1:Int)),(16,.int .u64 (q.2:Int))]) (λq=>[]) (λq=>(dvI u v1 e N q.1 q.2)/\(q.2<4294967296)) (λq=>q.1) (u/e,u%e) ⟨dv0 b0 j g M hu,Nat.lt_trans (Nat.mod_lt _ O) j⟩ K2 trivial ?_;rintro⟨a,r⟩ ⟨k,hr⟩;dsimp only at k hr;dsimp only;have b4:=k.1;have b5:=k.2.1;refine go 6 ?_;refine Xg (d:=69) J (λb2=>?_) (λb2=>?_)
     .refine go 16 ?_;have b:=Zjn O k M hu O;have c:=b.1;refine go 2 ?_;refine dt (Zd4 (n:=1) J J J)<|go 4 ?_;refine Zf (Kc 15 (v':= .int .u64 ((a-1:Nat):Int)) J (Zbf (Zu3 c O)))<|go 3 ?_;refine dt (Bl J J J)<|go 4 ?_;refine Zf (Kc 16 (v':= .int .u64 ((r+e:Nat):Int)) J (Zbf (Nat.mod_eq_of_lt O)))<|go 5 ?_;refine Zc J (λa4=>?_) (λa4=>?_)
      .refine go 4 ?_;have z:Q1=a-1:=by rw [o,f];exact(Zgh O g b.2 O O).symm
       exact Pz () trivial ⟨by rw [z];rfl,trivial⟩ trivial
      .refine go 2 ?_;exact Yq (a-1,r+e) ⟨b.2,O9⟩ O1 K2 trivial
     .have W:=Zt2 (show a<4294967296 by omega) g;have e1:=Nat.mod_eq_of_lt (show a*N<U from W);have e2:=Nat.mod_eq_of_lt (show 4294967296*r<U by omega);have e3:=Nat.mod_eq_of_lt (show 4294967296*r+v1<U by omega);refine go 2 ?_;refine Fq (Cl J J J) J J<|go 1 ?_;refine Fq (Cl J J J) J J<|go 1 ?_;refine Fq (Bl J J J) J J<|go 4 ?_;refine Zc J (λp=>?_) (λp=>?_)
      .rw [e1,e2,e3]at p;refine go 4 ?_;have b:=Zjn O k M hu O;have c:=b.1;refine go 2 ?_;refine dt (Zd4 (n:=1) J J J)<|go 4 ?_;refine Zf (Kc 15 (v':= .int .u64 ((a-1:Nat):Int)) J (Zbf (Zu3 c O)))<|go 3 ?_;refine dt (Bl J J J)<|go 4 ?_;refine Zf (Kc 16 (v':= .int .u64 ((r+e:Nat):Int)) J (Zbf (Nat.mod_eq_of_lt O)))<|go 5 ?_;refine Zc J (λB=>?_) (λB=>?_)
       .refine go 4 ?_;have z:Q1=a-1:=by rw [o,f];exact(Zgh O g b.2 O O).symm
        exact Pz () trivial ⟨by rw [z];rfl,trivial⟩ trivial
       .refine go 2 ?_;exact Yq (a-1,r+e) ⟨b.2,O9⟩ O1 K2 trivial
      .rw [e1,e2,e3]at p;refine go 4 ?_;have z:Q1=a:=by rw [o,f];exact(Zq3 O k O).symm
       exact Pz () trivial ⟨by rw [z];rfl,trivial⟩ trivial
    .rintro _ -;refine go 3 ?_;refine dt (Cl J J J)<|go 1 ?_;refine dt (Bl J J J)<|go 2 ?_;refine dt (Cl J J J)<|dt (Zd4 J J J (by first|exact Nat.mod_lt _ Xw|omega))<|go 4 ?_;refine Zf (Kc 17 (v':= .int .u64 (t:Int)) J (by rw [H,o,Yal R V]))<|go 3 ?_;refine dt (Yd8 J J J)<|go 8 ?_;refine dt (Cl J J J)<|dt (Zd4 J J J (by first|exact Nat.mod_lt _ Xw|omega))<|go 3 ?_;refine jn (G:=Unit) [2,8,14,15,17] [0] (λ_=>[(18,.int .u64 ((Q0:Nat):Int))]) (λ_=>[]) (λ_=>True) ?_ ?_
     .refine go 1 ?_;refine Zf (Kc 16 (v':= .int .u64 ((t%e:Nat):Int)) J (by rw [rsub O O]))<|lp (G:=Nat×Nat) [2,8,9,10,14,15,17] [0] (λq=>[(18,.int .u64 (q.1:Int)),(16,.int .u64 (q.2:Int))]) (λq=>[]) (λq=>(dvI t v0 e N q.1 q.2)/\(q.2<4294967296)) (λq=>q.1) (t/e,t%e) ⟨dv0 b0 j g I ht,Nat.lt_trans (Nat.mod_lt _ O) j⟩ K2 trivial ?_;rintro⟨a,r⟩ ⟨k,hr⟩;dsimp only at k hr;dsimp only;have b4:=k.1;have b5:=k.2.1;refine go 6 ?_;refine Xg (d:=104) J (λb3=>?_) (λb3=>?_)
      .refine go 16 ?_;have b:=Zjn O k I ht O;have c:=b.1;refine go 2 ?_;refine dt (Zd4 (n:=1) J J J)<|go 4 ?_;refine Zf (Kc 18 (v':= .int .u64 ((a-1:Nat):Int)) J (Zbf (Zu3 c O)))<|go 3 ?_;refine dt (Bl J J J)<|go 4 ?_;refine Zf (Kc 16 (v':= .int .u64 ((r+e:Nat):Int)) J (Zbf (Nat.mod_eq_of_lt O)))<|go 5 ?_;refine Zc J (λa5=>?_) (λa5=>?_)
       .refine go 4 ?_;have z:Q0=a-1:=by rw [m,f];exact(Zgh O g b.2 O O).symm
        exact Pz () trivial ⟨by rw [z];rfl,trivial⟩ trivial
       .refine go 2 ?_;exact Yq (a-1,r+e) ⟨b.2,O9⟩ O1 K2 trivial
      .have W:=Zt2 (show a<4294967296 by omega) g;have e1:=Nat.mod_eq_of_lt (show a*N<U from W);have e2:=Nat.mod_eq_of_lt (show 4294967296*r<U by omega);have e3:=Nat.mod_eq_of_lt (show 4294967296*r+v0<U by omega);refine go 2 ?_;refine Fq (Cl J J J) J J<|go 1 ?_;refine Fq (Cl J J J) J J<|go 1 ?_;refine Fq (Bl J J J) J J<|go 4 ?_;refine Zc J (λw=>?_) (λw=>?_)
       .rw [e1,e2,e3]at w;refine go 4 ?_;have b:=Zjn O k I ht O;have c:=b.1;refine go 2 ?_;refine dt (Zd4 (n:=1) J J J)<|go 4 ?_;refine Zf (Kc 18 (v':= .int .u64 ((a-1:Nat):Int)) J (Zbf (Zu3 c O)))<|go 3 ?_;refine dt (Bl J J J)<|go 4 ?_;refine Zf (Kc 16 (v':= .int .u64 ((r+e:Nat):Int)) J (Zbf (Nat.mod_eq_of_lt O)))<|go 5 ?_;refine Zc J (λF=>?_) (λF=>?_)
        .refine go 4 ?_;have z:Q0=a-1:=by rw [m,f];exact(Zgh O g b.2 O O).symm
         exact Pz () trivial ⟨by rw [z];rfl,trivial⟩ trivial
        .refine go 2 ?_;exact Yq (a-1,r+e) ⟨b.2,O9⟩ O1 K2 trivial
       .rw [e1,e2,e3]at w;refine go 4 ?_;have z:Q0=a:=by rw [m,f];exact(Zq3 O k O).symm
        exact Pz () trivial ⟨by rw [z];rfl,trivial⟩ trivial
     .rintro _ -;refine go 3 ?_;refine dt (Cl J J J)<|go 1 ?_;refine dt (Bl J J J)<|go 1 ?_;refine dt (Cl J J J)<|go 1 ?_;refine dt (Bl J J J)<|go 2 ?_;refine dt (Cl J J J)<|dt (Zd4 J J J (by first|exact Nat.mod_lt _ Xw|omega))<|go 1 ?_;refine dt (Zm6 J J J J)<|go 5 ?_;have hA:(Q1*4294967296%U+Q0)%U=(h*U+l)/y:=by rw [<-Zni _ y s,<-hD,<-i,a6];simp only [U];omega
      have hB:((t*4294967296%U+v0)%U+(U-(Q0*Y)%U))%U/2^s=(h*U+l)%y:=by rw [<-Znh _ y s,<-hD,<-i,a7,m,Yal R V]
      exact Nr a8 () results294 (by rw [hA,hB]) trivial Za
def Yct(v:Value)(x d:Nat)(u:bl x<=8589934592)(f:0<d)(g:d<U):Cal prog 292 #[v,.int .u64 (d:Int)] [Eu v x] false (G:=Value) (λr=>True) (λr=> .tuple #[r,.int .u64 ((x%d:Nat):Int)]) (λr=>[Eu r (x/d)]):=by
 refine Zg func292 ntmps292 λy w l j=>?_;have t:=Nz x;refine go 10 ?_;refine tt (Fe (i:=2) (n:=(dg U x).length) (by_:=8) (enc:=Mm) 0 J J J J Pv ti232 J pU.cells pU.pos J J J l.h) (λv _=>?_);refine go 18 ⟨O,?_⟩;refine lp (G:=Nat×List Nat×Nat) [0,1,6] [0,1] (λq=>[(8,.int .i64 ((q.1:Int)-1)),(7,.int .u64 (q.2.2:Int))]) (λq=>[(2,Oe 1 232 Mm v q.2.1)]) (λq=>(q.1<=(dg U x).length)/\(q.2.1.length=(dg U x).length)/\(q.2.2<d)/\(∀d∈q.2.1,d<U)/\(Yh U (q.2.1.drop q.1)*d+q.2.2=Yh U ((dg U x).drop q.1))) (λq=>q.1) ((dg U x).length,List.replicate (dg U x).length 0,0) ⟨Nat.le_refl _,O7,O1,Ou _ Xw,by simp [Yh]⟩ K2 K1 ?_;rintro⟨k,o,r⟩ ⟨m,h,c,a,e⟩;dsimp only at m h c a e;dsimp only;refine go 7 ?_;refine Zc J (λb=>?_) (λb=>?_)
 .refine go 10 ?_;refine dt (Zu (ii:=1) (i:=k-1) J J J J Zn Pv Ku)<|go 2 ⟨O3,?_⟩;refine cl 2 [] (Zvr _ _ _ (Xq Xw (Ni Xr _) _) g c) λ_ _=>go 3 ?_;refine dt (Zu (ii:=2) (i:=k-1) J J J J (Yb pU) Pv Ku)<|tt (Kb (i:=2) (enc:=Mm) _ J J J J J J pU J l.h O2 O3) (λ_ _=>?_);refine go 9 ⟨O,?_⟩;exact Yq (k-1,_,_) ⟨O1,O8,Nat.mod_lt _ f,Lv a _ _ (Zuv (Xq Xw (Ni Xr x) _) c),Zv5 f O O (by rw [show k-1+1=k by omega];exact e)⟩ O1 ⟨by rw [show(((k-1:Nat):Int)-1)=(k:Int)-1-1 by omega];rfl,rfl,trivial⟩ K1
 .refine go 8 ?_;refine cl 2 [2] (Of _ _) λ_ _=>?_;refine Yx (Zb9 2 J J pU)<|go 6 ?_;obtain rfl:k=0:=O;rw [List.drop_zero,List.drop_zero,Mc Xr]at e;have s:tz o=dg U (x/d):=by rw [<-Ic Xr _ a,<-e,Nat.mul_comm,Nat.mul_add_div f,Nat.div_eq_of_lt c,Nat.add_zero]
  have p:r=x%d:=by rw [<-e,Nat.mul_comm,Nat.mul_add_mod,Nat.mod_eq_of_lt c]
  exact Nr j _ results292 (by rw [p]) trivial (gow 2 Za s)
def Zp0(v:Value)(x s:Nat)(V:bl x<=4294967296:=by omega)(hs:s<=4294967296:=by omega):Cal prog 293 #[v,.int .i64 (s:Int)] [Eu v x] false (G:=Value) (λr=>True) (λr=>r) (λr=>[Eu r (x*2^s)]):=by
 refine Zg func293 ntmps293 λY W H z=>?_;obtain⟨w,R⟩:∃w,w=s/64:=⟨_,rfl⟩;obtain⟨b,P⟩:∃b,b=s%64:=⟨_,rfl⟩;have S:=Nz x;refine go 13 ?_;refine Zc J (λm=>?_) (λm=>?_)
 .refine go 7 ?_;refine Zv (Qx 9 1 232 Mm) ?_;have I:x=0:=(Pw Xr x).1 O;exact Xu z (.slice none 0 0) results293 J trivial (gow 9 Za (by rw [I,Nat.zero_mul];rfl))
 .refine go 5 ?_;refine dt (Zee J J J)<|go 1 ?_;refine dt (Zl1 J J J)<|go 5 ?_;refine Zf (Kc 5 (v':= .int .i64 (w:Int)) J (by congr 1;omega))<|Zf (Kc 6 (v':= .int .i64 (b:Int)) J (by congr 1;omega))<|go 6 ⟨O,O,?_⟩;refine tt (Fe (i:=2) (n:=(dg U x).length+w+1) (by_:=8) (enc:=Mm) 0 J J J J Pv ti232 J pU.cells pU.pos J J J H.h) λv _=>go 12 ?_;refine lp (G:=Nat×List Nat) [5,6,7,23,24] [0,1] (λq=>[(25,.int .i64 (q.1:Int))]) (λq=>[(2,Oe 1 232 Mm v q.2)]) (λq=>(q.1<=(dg U x).length)/\(q.2.length=(dg U x).length+w+1)/\(q.2.getD (w+q.1) 0<2^b)/\(∀j,w+q.1<j->q.2.getD j 0=0)/\(∀d∈q.2,d<U)/\(Yh U (q.2.take ((dg U x).length+w+1))=Yh U ((dg U x).take q.1)*2^b*U^w)) (λq=>(dg U x).length-q.1) (0,List.replicate ((dg U x).length+w+1) 0) ⟨O1,O7,by rw [Ib];exact Nat.two_pow_pos b,λj _=>Ib _ j,Ou _ Xw,by rw [List.take_replicate,Gp];simp [Yh]⟩ K1 K1 ?_;rintro⟨i,o⟩ ⟨hi,y,N,l,a,D⟩;dsimp only at hi y N l a D;dsimp only;have B:i<(dg U x).length->_:=λQ=>Ye7 (xs:=dg U x) (show b<=63 by omega) y.symm (show w+i+1<_ by omega) N (l (w+i+1) O) (Xq Xw (Ni Xr x) i) D;refine go 6 ?_;refine Zc J (λp=>?_) (λp=>?_)
  .refine go 14 ⟨O3,O3,?_⟩;have f:=Xq Xw (Ni Xr x) i;refine Xz (λ_=>False) [(0,0),(1,0),(2,0),(3,0),(4,0),(5,0),(6,0),(7,0),(8,0),(9,0),(10,0),(11,3)]<|go 4 ⟨O,?_⟩;refine Xj J J (Xl (Zu (ii:=2) (i:=w+i) J J J J (Yb pU) Pv Ku))<|go 3 ⟨O3,?_⟩;refine Xj J J (Xl (Zm7 J J (n:=b) J J))<|Xj J J (Xl (Ylo J J J (Xq Xw a _) (Nat.mod_lt _ Xw)))<|Xj J J (Xl (Zu (ii:=2) (i:=w+i) J J J J (Yb pU) Pv Ku))<|r3' J (Kb (i:=2) (enc:=Mm) _ J J J J J J pU J H.h O2 O3) λ_ _=>go 8 ?_;refine Zc J (λt=>?_) (λt=>?_)
   .have c:=Lv (Lv a (w+i) (o.getD (w+i) 0 ||| (dg U x).getD i 0*2^b%U) (Nat.or_lt_two_pow (n:=64) (Xq Xw a _) (Nat.mod_lt _ Xw))) (w+i+1) ((dg U x).getD i 0/2^(64-b)) (Nat.lt_of_le_of_lt (Nat.div_le_self _ _) f);have g:((o.set (w+i) (o.getD (w+i) 0 ||| (dg U x).getD i 0*2^b%U)).set (w+i+1) ((dg U x).getD i 0/2^(64-b))).getD (w+i+1) 0<2^b:=by rw [Oq _ _ _ _ _ O8,if_pos rfl];exact Zez O f
    have k:∀j,w+i+1<j->((o.set (w+i) (o.getD (w+i) 0 ||| (dg U x).getD i 0*2^b%U)).set (w+i+1) ((dg U x).getD i 0/2^(64-b))).getD j 0=0:=λj u=>by rw [Oq _ _ _ _ _ O8,if_neg O,Oq _ _ _ _ _ O,if_neg O];exact l j O
    have e:=B O;refine go 9 ⟨O,O,O,?_⟩;refine dt (Zm6 J J (n:=64-b) J O)<|dt (Zu (ii:=2) (i:=w+i+1) J J J J (Yb pU) Pv Ku O (by simp only [List.length_set];omega))<|tt (Kb (i:=2) (enc:=Mm) _ J J J J J J pU J H.h O2 (by simp only [List.length_set];omega)) (λ_ _=>?_);refine go 7 ⟨O,?_⟩;exact Yq (i+1,_) ⟨O1,O8,by dsimp only;rw [show w+(i+1)=w+i+1 by omega];exact g,λj u=>by have F:w+(i+1)<j:=u;dsimp only;exact k j O,c,e⟩ O1 K1 K1
   .obtain rfl:b=0:=O;have c:=Lv a (w+i) (o.getD (w+i) 0 ||| (dg U x).getD i 0*2^0%U) (Nat.or_lt_two_pow (n:=64) (Xq Xw a _) (Nat.mod_lt _ Xw));have g:(o.set (w+i) (o.getD (w+i) 0 ||| (dg U x).getD i 0*2^0%U)).getD (w+i+1) 0<2^0:=by rw [Oq _ _ _ _ _ O,if_neg O,l _ O];exact Nat.two_pow_pos 0
    have k:∀j,w+i+1<j->(o.set (w+i) (o.getD (w+i) 0 ||| (dg U x).getD i 0*2^0%U)).getD j 0=0:=λj u=>by rw [Oq _ _ _ _ _ O,if_neg O];exact l j O
    have e:=B O;rw [show(dg U x).getD i 0/2^(64-0)=0 from Nat.div_eq_of_lt f]at e;have h:=Zmv (o.set (w+i) (o.getD (w+i) 0 ||| (dg U x).getD i 0*2^0%U)) (w+i+1) (by rw [Oq _ _ _ _ _ O,if_neg O,l _ O]);rw [h]at e;refine go 7 ⟨O,?_⟩;exact Yq (i+1,_) ⟨O1,O8,by dsimp only;rw [show w+(i+1)=w+i+1 by omega];exact g,λj u=>by have F:w+(i+1)<j:=u;dsimp only;exact k j O,c,e⟩ O1 K1 K1
  .refine go 8 ?_;refine cl 2 [2] (Of _ _) λ_ _=>?_;refine Yx (Zb9 2 J J pU)<|go 4 ?_;obtain rfl:i=(dg U x).length:=O;have M:tz o=dg U (x*2^s):=by rw [<-Ic Xr _ a];congr 1;rw [Nx U o _ O,List.take_of_length_le (Nat.le_refl _),Mc Xr,Zda,Nat.mul_assoc,<-Nat.pow_add,show b+64*w=s by omega]at D;exact D
   exact Xu z _ results293 J trivial (gow 2 Za M)
def Ynn(v:Value)(x s:Nat)(Q:bl x<=8589934592)(hs:s<=8589934592):Cal prog 295 #[v,.int .i64 (s:Int)] [Eu v x] false (G:=Value) (λr=>True) (λr=>r) (λr=>[Eu r (x/2^s)]):=by
 refine Zg func295 ntmps295 λS R D B=>?_;obtain⟨w,m⟩:∃w,w=s/64:=⟨_,rfl⟩;obtain⟨b,k⟩:∃b,b=s%64:=⟨_,rfl⟩;have P:=Nz x;have M:((dg U x).drop w).length=(dg U x).length-w:=List.length_drop;refine go 8 ?_;refine dt (Zee J J J)<|go 1 ?_;refine dt (Zl1 J J J)<|go 6 ?_;refine Zf (Kc 5 (v':= .int .i64 (w:Int)) J (by congr 1;omega))<|Zf (Kc 6 (v':= .int .i64 (b:Int)) J (by congr 1;omega))<|go 7 ?_;refine Zc J (λu=>?_) (λu=>?_)
 .refine go 7 ?_;refine Zv (Qx 9 1 232 Mm) ?_;have F:x/2^s=0:=by rw [Zao m k,Nat.div_eq_of_lt ((Xp Xr w x).1 O),Nat.zero_div]
  exact Xu B (.slice none 0 0) results295 J trivial (gow 9 Za (by rw [F];rfl))
 .refine go 6 ?_;refine dt (d_suf (ii:=1) (i:=w) J J J J Zn Pv Ku O O)<|Yx (s_suf 1 2 (w) J J O)<|tt (Zde (n:=3) (Ydn _ _ (by simp only [List.length_drop];omega)) J J J K1 call309 (Zl 2 J J J Zs) J D.h) λv _=>go 3 ?_;refine jn (G:=List Nat) [7] [0,1,2] (λo=>[]) (λo=>[(3,Oe 1 232 Mm v o)]) (λo=>(o.length=(dg U x).length-w)/\(∀j,j<o.length->o.getD j 0=x/2^s/U^j%U)) ?_ ?_
  .refine go 6 ?_;refine Zc J (λy=>?_) (λy=>?_)
   .refine go 8 ?_;refine lp (G:=Nat×List Nat) [0,5,6,7,24] [0,1,2] (λq=>[(25,.int .i64 (q.1:Int))]) (λq=>[(3,Oe 1 232 Mm v q.2)]) (λq=>(q.1<=(dg U x).length-w)/\(q.2.length=(dg U x).length-w)/\(∀j,j<q.1->q.2.getD j 0=x/2^s/U^j%U)/\(∀j,q.1<=j->q.2.getD j 0=x/U^w/U^j%U)/\(∀d∈q.2,d<U)) (λq=>(dg U x).length-w-q.1) (0,(dg U x).drop w) ⟨Nat.zero_le _,O7,λj f=>absurd f (Nat.not_lt_zero j),λj _=>Yao x w j,λd I=>Ni Xr x d (List.mem_of_mem_drop I)⟩ K1 K1 ?_;rintro⟨i,o⟩ ⟨hi,t,p,l,a⟩;dsimp only at hi t p l a;dsimp only;refine go 6 ?_;refine Zc J (λz=>?_) (λz=>?_)
    .refine go 17 ⟨O3,O3,?_⟩;refine dt (Zm6 J J (n:=b) J J)<|go 1 ⟨O3,?_⟩;refine tt (Kb (i:=3) (enc:=Mm) _ J J J J J J pU J D.h O2 O3) (λ_ _=>?_);refine go 11 ⟨O,?_⟩;refine Zc J (λg=>?_) (λg=>?_)
     .simp only [List.length_set]at g;have c:∀j,((o.set i (o.getD i 0/2^b)).set i ((o.set i (o.getD i 0/2^b)).getD i 0 ||| ((dg U x).getD (w+i+1) 0*2^(64-b))%U)).getD j 0=if i=j then x/2^s/U^i%U else o.getD j 0:=λj=>by
       rw [Oq _ _ _ _ _ O8,Oq _ _ _ _ _ O,Oq _ _ _ _ _ O];split
       .rw [if_pos rfl,l i (Nat.le_refl _),Hf Xr,Zao m k,Zuw,show x/U^(w+i+1)=x/U^w/U^i/U by rw [Nat.div_div_eq_div_mul,Nat.div_div_eq_div_mul,<-Nat.pow_succ,<-Nat.pow_add];rfl,Zss _ _ O]
       .rfl
      have h:=Lv (Lv a i (o.getD i 0/2^b) (Nat.lt_of_le_of_lt (Nat.div_le_self _ _) (Xq Xw a _))) i ((o.set i (o.getD i 0/2^b)).getD i 0 ||| ((dg U x).getD (w+i+1) 0*2^(64-b))%U) (Nat.or_lt_two_pow (n:=64) (Xq Xw (Lv a _ _ (Nat.lt_of_le_of_lt (Nat.div_le_self _ _) (Xq Xw a _))) _) (Nat.mod_lt _ Xw));refine Xz (λ_=>False) [(0,0),(1,0),(2,0),(3,0),(4,0),(5,0),(6,0),(7,0),(8,0),(9,0),(10,0),(11,0),(12,0),(13,0),(14,0),(15,0),(16,3)]<|go 9 ⟨O3,O3,O,O,?_⟩;refine Xj J J (Xl (Zu (ii:=1) (i:=w+i+1) J J J J Zn Pv Ku O O3))<|go 3 ⟨O3,O,?_⟩;refine Xj J J (Xl (Zm7 J J (n:=64-b) J O))<|Xj J J (Xl (Ylo J J J (Xq Xw (Lv a _ _ (Nat.lt_of_le_of_lt (Nat.div_le_self _ _) (Xq Xw a _))) _) (Nat.mod_lt _ Xw)))<|go 1 ⟨O3,?_⟩;refine r3' J (Kb (i:=3) (enc:=Mm) _ J J J J J J pU J D.h O2 O3) (λ_ _=>?_);refine go 7 ⟨O,?_⟩;exact Yq (i+1,_) ⟨O1,O8,λj f=>by dsimp only;rw [c j];split;(· rename_i e;rw [<-e]);exact p j (by have:j<i+1:=f;omega),λj f=>by dsimp only;rw [c j,if_neg (by have:i+1<=j:=f;omega)];exact l j (by have:i+1<=j:=f;omega),h⟩ O1 K1 K1
     .have c:∀j,(o.set i (o.getD i 0/2^b)).getD j 0=if i=j then x/2^s/U^i%U else o.getD j 0:=λj=>by
       rw [Oq _ _ _ _ _ O];split
       .rw [l i (Nat.le_refl _),Zao m k,Zuw,Yb8 _ _ O];rw [Nat.div_div_eq_div_mul,<-Nat.pow_succ];exact Nat.div_eq_of_lt (Zzz (by simp only [List.length_set]at g;omega))
       .rfl
      have h:=Lv a i (o.getD i 0/2^b) (Nat.lt_of_le_of_lt (Nat.div_le_self _ _) (Xq Xw a _));refine go 7 ⟨O,?_⟩;exact Yq (i+1,_) ⟨O1,O8,λj f=>by dsimp only;rw [c j];split;(· rename_i e;rw [<-e]);exact p j (by have:j<i+1:=f;omega),λj f=>by dsimp only;rw [c j,if_neg (by have:i+1<=j:=f;omega)];exact l j (by have:i+1<=j:=f;omega),h⟩ O1 K1 K1
    .refine go 4 ?_;exact Pz _ ⟨O,by intro j f;rw [p j O]⟩ trivial K1
   .refine go 1 ?_;exact Pz _ ⟨O7,by intro j f;rw [Yao,Zao m k,show b=0 by omega,Nat.pow_zero,Nat.div_one]⟩ trivial K1
  .rintro o ⟨t,N⟩;refine go 3 ?_;refine cl 3 [3] (Of _ _) λ_ _=>?_;refine Yx (Zb9 3 J J pU)<|go 4 ?_;have H:tz o=dg U (x/2^s):=Zv0 Xr N (by rw [t,Zao m k];exact Nat.lt_of_le_of_lt (Nat.div_le_self _ _) (Zzz O));exact Xu B _ results295 J trivial (gow 3 Za H)
def Zn2(v:Value)(x:Nat)(t:bl x<=4294967296:=by omega):Qf prog 233 #[v] [Eu v x] (.string (Qh x)):=by
 refine Zg func233 ntmps233 λw u h g=>?_;have s:=Nz x;have p:=Zlj x;have r:=lenU x;have m:(List.replicate (dg 256 x).length (0:Nat)).length=(dg 256 x).length:=List.length_replicate;refine go 8 ?_;refine cl 1 [1] (Zk3 _ _) λ_ _=>?_;refine go 1 ⟨O,?_⟩;refine dt (Zee J J J)<|tt (Fe (i:=2) (n:=(dg 256 x).length) (by_:=1) (enc:=Ziy) 0 J J J J Zh4 ti5 J pB.cells pB.pos J J J h.h) λv _=>go 12 ?_;refine lp (G:=Nat×List Nat) [0,3,12] [0,1] (λq=>[(13,.int .i64 (q.1:Int))]) (λq=>[(2,Oe 1 5 Ziy v q.2)]) (λq=>(q.1<=(dg 256 x).length)/\(q.2.length=(dg 256 x).length)/\(∀j,j<q.1->q.2.getD j 0=x/256^((dg 256 x).length-1-j)%256)) (λq=>(dg 256 x).length-q.1) (0,List.replicate (dg 256 x).length 0) ⟨O1,O7,λj d=>absurd d (Nat.not_lt_zero j)⟩ K1 K1 ?_;rintro⟨i,o⟩ ⟨hi,f,b⟩;dsimp only at hi f b;dsimp only;refine go 6 ?_;refine Zc J (λc=>?_) (λc=>?_)
 .refine go 20 ⟨O,O,?_⟩;refine Zf (Kc 5 (v':= .int .i64 (((dg 256 x).length-1-i:Nat):Int)) J (by congr 1;omega)) ?_;have a:=Zrm x ((dg 256 x).length-1-i);rw [<-Hf Xr]at a;refine go 5 ?_;refine dt (Zee J J J)<|dt (Zu (ii:=1) (i:=((dg 256 x).length-1-i)/8) J J J J Zn Pv Ku)<|go 2 ⟨O,?_⟩;refine dt (Zl1 J J J)<|go 1 ⟨O,?_⟩;refine dt (Zm6 J J (n:=((dg 256 x).length-1-i)%8*8) J O)<|dt (Zef J J Zal uT5)<|go 1 ⟨O3,?_⟩;refine tt (Kb (i:=2) (enc:=Ziy) _ J J J J J J pB J h.h O2 O3) (λ_ _=>?_);refine go 7 ⟨O,?_⟩;exact Yq (i+1,_) ⟨O1,O8,λj d=>by dsimp only;rw [Oq _ _ _ _ _ O];split;(· rename_i e;rw [<-e];exact a);exact b j O⟩ O1 K1 K1
 .refine go 8 ?_;refine dt (d_b2s J J (i:=2) J (Yb pB) Zh4 uT9 uT5)<|go 4 ?_;have k:Qh x=⟨(o.map UInt8.ofNat).toArray⟩:=by
   have l:o=(dg 256 x).reverse:=by refine Zex O8 (λj d=>?_);rw [b j O,Zqi _ _ _ O,Hf O]
   rw [l];rfl
  exact Xu g () results233 (by rw [k]) trivial Za
def Zdd(x:Nat)(B:bl x<=4294967296:=by omega):Cal prog 219 #[.string (Qh x)] [] false (G:=Value) (λr=>True) (λr=>r) (λr=>[Eu r x]):=by
 refine Zg func219 ntmps219 λF D b m=>?_;have z:=Nz x;have u:=Zlj x;have y:=lenU x;have p:=Dk x;refine go 10 ⟨O,?_⟩;refine dt (Zee J J J)<|tt (Fe (i:=1) (n:=(dg U x).length) (by_:=8) (enc:=Mm) 0 J J J J Pv ti232 J pU.cells pU.pos J J J b.h) λv _=>go 12 ?_;refine lp (G:=Nat×List Nat) [0,3,12] [0] (λq=>[(13,.int .i64 (q.1:Int))]) (λq=>[(1,Oe 1 232 Mm v q.2)]) (λq=>(q.1<=(dg 256 x).length)/\(q.2.length=(dg U x).length)/\(∀w,w<q.2.length->q.2.getD w 0=hi x ((dg 256 x).length-q.1) w)) (λq=>(dg 256 x).length-q.1) (0,List.replicate (dg U x).length 0) ⟨O1,O7,λw b=>by dsimp only at *;rw [List.length_replicate]at b;rw [Ib,hi_top O]⟩ K1 K1 ?_;rintro⟨i,o⟩ ⟨l,f,a⟩;dsimp only at l f a;dsimp only;refine go 6 ?_;refine Zc J (λk=>?_) (λk=>?_)
 .refine go 20 ⟨O,O,?_⟩;refine Zf (Kc 5 (v':= .int .i64 (((dg 256 x).length-1-i:Nat):Int)) J (by congr 1;omega)) ?_;have c:=Zvo x i O;have h:=a (((dg 256 x).length-1-i)/8) O;have d:o.getD (((dg 256 x).length-1-i)/8) 0<U:=by rw [h];exact Nat.mod_lt _ Xw
  have g:∀w,w<o.length->(o.set (((dg 256 x).length-1-i)/8) (o.getD (((dg 256 x).length-1-i)/8) 0 ||| (((Qh x).data.toList.getD i 0).toNat*2^(((dg 256 x).length-1-i)%8*8))%U)).getD w 0=hi x ((dg 256 x).length-(i+1)) w:=λw b=>by
   rw [c,h,show(dg 256 x).length-i=(dg 256 x).length-1-i+1 by omega,Yn3,Oq _ _ _ _ _ O,show(dg 256 x).length-(i+1)=(dg 256 x).length-1-i by omega];split
   .rename_i e;rw [e]
   .rename_i e;rw [a w b,show(dg 256 x).length-i=(dg 256 x).length-1-i+1 by omega];exact Yia e
  refine Xz (λ_=>False) [(0,0),(1,0),(2,0),(3,0),(4,0),(5,0),(6,0),(7,0),(8,0),(9,0),(10,0),(11,0),(12,0),(13,0),(14,0),(15,3)]<|go 2 ?_;refine Xj J J (Xl (Zee J J J))<|Xj J J (Xl (Zu (ii:=1) (i:=((dg 256 x).length-1-i)/8) J J J J (Yb pU) Pv Ku))<|go 3 ⟨O3,?_⟩;refine Xj J J (Xl (Yjo J J J uT9 J))<|Xj J J (Xl (Zq8 J J uT5 Zal (by have:=(((Qh x).data.toList.getD i 0).toNat_lt);simp only [U];omega)))<|go 1 ?_;refine Xj J J (Xl (Zl1 J J J))<|go 1 ⟨O,?_⟩;refine Xj J J (Xl (Zm7 J J (n:=((dg 256 x).length-1-i)%8*8) J O))<|Xj J J (Xl (Ylo J J J (d) (Nat.mod_lt _ Xw)))<|Xj J J (Xl (Zu (ii:=1) (i:=((dg 256 x).length-1-i)/8) J J J J (Yb pU) Pv Ku))<|r3' J (Kb (i:=1) (enc:=Mm) _ J J J J J J pU J b.h O2 O3) (λ_ _=>?_);refine go 7 ⟨O,?_⟩;exact Yq (i+1,_) ⟨O1,O8,λw b=>g w (by simpa using b)⟩ O1 K1 K1
 .refine go 12 ?_;have t:o=dg U x:=Zex f (λj s=>by rw [a j s,Hf Xr,Yic O]);exact Xu m _ results219 J trivial (gow 1 Za t)
set_option maxHeartbeats 2000000 in
def Zzr(v w:Value)(x y:Nat)(hx:bl x<=4000000000)(e0:bl y<=4000000000)(hy:0<y):Cal prog 267 #[v,w] [Eu v x,Eu w y] true (G:=Value×Value) (λr=>True) (λr=> .tuple #[r.1,r.2]) (λr=>[Eu r.1 (x/y),Eu r.2 (x%y)]):=by
 refine Zg func267 ntmps267 λw0 sc p P=>?_;have hX:=Nz x;have hY:=Nz y;refine go 11 ?_;refine cl 2 [1,2] (Zcq _ _ _ _ O O) λr hr=>go 3 ?_;refine Zc J (λS=>?_) (λS=>?_)
 .have o:x<y:=hr.1.1 O;refine go 9 ?_;exact Zv (Qx 9 1 232 Mm)<|Nr P (.slice none 0 0,v) results267 J trivial (gow 9 (Ob 1 Za (by rw [Nat.mod_eq_of_lt o])) (by rw [Nat.div_eq_of_lt o];rfl))
 .have c4:y<=x:=by have:=hr.1;omega
  have d9:=Og c4;refine go 10 ?_;refine Zc J (λV=>?_) (λV=>?_)
  .have Q:y<U:=by have:=(Xp Xr 1 y).1 O;simpa using this
   have m:(dg U y).getD 0 0=y:=by rw [Hf Xr];simp [Nat.mod_eq_of_lt Q]
   refine go 6 ⟨O,O3,?_⟩;refine cl 3 [1] (Yct _ _ _ O (by rw [m];exact hy) (by rw [m];exact Q)) λv _=>go 11 ?_;refine tt (Qb (i:=4) (ivs:=[(0,_)]) (enc:=Mm) [x%(dg U y).getD 0 0] J J K2 Pv ti232 J J J J J pU.cells J J p.h) λe2 _=>cl 4 [4] (Of _ _) λ_ _=>?_;refine Yx (Zb9 4 J J pU)<|go 6 ?_;exact Nr P (_,_) results267 J trivial (Ob 3 (gow 4 Za (by rw [Zg4 (Nat.lt_trans (Nat.mod_lt _ (by rw [m];exact hy)) (by rw [m];exact Q)),m])) (by rw [m]<;>rfl))
  .refine go 3 ?_;obtain⟨k,hk⟩:∃k,k=(dg U y).length:=⟨_,rfl⟩;have d8:k<=(dg U x).length:=O;obtain⟨b,hb⟩:∃b,b=64-bl ((dg U y).getD (k-1) 0):=⟨_,rfl⟩;obtain⟨b2,_,b1,a2,a9,B⟩:=Ynk hy hk hb;obtain⟨D,c⟩:∃D,D=y*2^b:=⟨_,rfl⟩;have c5:(dg U D).length=k:=by rw [c];exact b2
   have a1:D<U^k:=by rw [c];exact a2
   have a0:U^(k-1)*9223372036854775808<=D:=by rw [c];exact B
   have l:0<D:=by rw [c];exact Nat.mul_pos hy (Nat.two_pow_pos b)
   have d7:bl D<=4000000064:=by rw [c,Zx0 _ _ hy];omega
   refine go 5 ⟨O,?_⟩;refine dt (Zu (ii:=2) (i:=(dg U y).length-1) J J J J Zn Pv Ku)<|go 1 ⟨O3,?_⟩;refine cl 4 [] (Zrt _ (Xq Xw (Ni Xr y) _)) λ_ _=>?_;refine Yx (Kc 44 (v':= .int .i64 (b:Int)) J (by rw [hb,hk]))<|go 3 ?_;refine jn (G:=Value×Value) [0,8] [0,1,2] (λq=>[(9,q.1),(10,q.2)]) (λq=>[(81,Eu q.1 D),(82,Oe 1 232 Mm q.2 (List.replicate ((dg U x).length+1) 0))]) (λq=>True) ?_ ?_
   .refine It (λ_=>False) [8]<|Zh (n:=4) [(0,0),(1,0),(3,0),(4,0),(5,0)]<|go 6 ⟨O,?_⟩;refine Qd (n:=3) 2 6 ?_ ?_
    .refine Po (Zi 81 [2] (Zp0 _ _ _)) λe3 _=>?_;refine Zh (n:=0) [(7,0),(6,1),(8,3)]<|go 1 ?_;refine Fi J (Fe (i:=82) (n:=(dg U x).length+1) (by_:=8) (enc:=Mm) 0 J J J J Pv ti232 J pU.cells pU.pos J J J p.h) λe4 _=>go 2 ?_;exact Zp<|Pz (_,_) trivial K2 ⟨by rw [c];rfl,rfl,trivial⟩
    .refine Gb J (Fe (i:=82) (n:=(dg U x).length+1) (by_:=8) (enc:=Mm) 0 J J J J Pv ti232 J pU.cells pU.pos J J J p.h) (λe5 _=>?_);refine Zh (n:=0) [(2,1),(7,0),(8,3)]<|Yr (Zi 81 [2] (Zp0 _ _ _)) λe6 _=>go 3 ?_;exact Zp<|Pz (_,_) trivial K2 ⟨by rw [c];rfl,rfl,trivial⟩
   .rintro⟨vd,vr⟩ -;dsimp only;refine go 1 ?_;have c7:(dg U (x*2^b)).length<=(dg U x).length+1:=(Xp Xr _ _).2 (by rw [Nat.pow_succ];exact Nat.mul_lt_mul_of_lt_of_le ((Xp Xr _ x).1 (Nat.le_refl _)) (by rw [Yk5];exact Nat.pow_le_pow_right O O) Xw);refine go 4 ?_;refine cl 5 [1] (Zp0 _ _ _) λe7 _=>?_;refine tt (t_cpy (i:=82) (j:=5) 0 J J J J J J O2 J Zn (Yja _ _ _) (by rw [List.length_replicate];exact c7) (by rw [List.length_replicate];omega) (by rw [List.length_replicate];omega) Pv pU J p.h) λ_ _=>go 3 ?_;have a4:(spl (List.replicate ((dg U x).length+1) 0) 0 (dg U (x*2^b))).length=(dg U x).length+1:=by rw [Il _ _ _ (by rw [List.length_replicate];omega),List.length_replicate]
    refine go 7 ?_;have d2:(List.replicate ((dg U x).length+1-k) (0:Nat)).length=(dg U x).length+1-k:=List.length_replicate;refine Zf (Kc 11 (v':= .int .i64 (k:Int)) J (by rw [c5]))<|go 5 ⟨O,?_⟩;refine tt (Fe (i:=6) (n:=(dg U x).length+1-k) (by_:=8) (enc:=Mm) 0 J J J J Pv ti232 J pU.cells pU.pos J J J p.h) (λd1 _=>?_);refine go 13 ⟨O,?_⟩;refine lp (G:=Nat×List Nat×List Nat) [8,9,10,11,12] [0,81,1,2,5] (λq=>[(13,.int .i64 ((q.1:Int)-1))]) (λq=>[(82,Oe 1 232 Mm vr q.2.1),(6,Oe 1 232 Mm d1 q.2.2)]) (λq=>(q.1<=(dg U x).length+1-k)/\(q.2.1.length=(dg U x).length+1)/\(∀d∈q.2.1,d<U)/\(q.2.2.length=(dg U x).length+1-k)/\(∀d∈q.2.2,d<U)/\(Yh U q.2.1<D*U^q.1)/\(Yh U (q.2.2.drop q.1)*U^q.1*D+Yh U q.2.1=x*2^b)) (λq=>q.1) ((dg U x).length+1-k,spl (List.replicate ((dg U x).length+1) 0) 0 (dg U (x*2^b)),List.replicate ((dg U x).length+1-k) 0) ⟨Nat.le_refl _,a4,Zrx (Ou _ Xw) (Ni Xr _) 0,O7,Ou _ Xw,by rw [Zsa,Mc Xr];exact Yje ((Xp Xr _ x).1 (Nat.le_refl _)) a9 b1 O a0,by rw [Zsa,Mc Xr];simp [Yh]⟩ ⟨by rw [List.length_replicate];rfl,trivial⟩ K2 ?_;rintro⟨a,R,q⟩ ⟨hj,a5,e,c8,M,H,hN⟩;dsimp only at hj a5 e c8 M H hN;dsimp only;refine go 7 ?_;refine Zc J (λW=>?_) (λW=>?_)
    .refine go 5 ?_;have I:Yh U R<U^(a-1+k+1):=by refine Nat.lt_of_lt_of_le H ?_;rw [show a-1+k+1=k+a by omega,Nat.pow_add];exact Nat.mul_le_mul_right _ (Nat.le_of_lt a1)
     have s:tz ((R.drop (a-1)).take (a-1+k+1-(a-1)))=dg U (Yh U R/U^(a-1)):=Ylg e O (by rw [show a-1+(a-1+k+1-(a-1))=a-1+k+1 by omega];exact I);have a7:Yh U R/U^(a-1)<D*U:=by rw [Nat.div_lt_iff_lt_mul (Nat.pow_pos Xw),Nat.mul_assoc,<-Nat.pow_succ',show(a-1).succ=a by omega];exact H
     have a8:bl (Yh U R/U^(a-1))<=4294967296:=by have h1:=Og (Nat.le_of_lt a7);have h2:=Zmf D U;have h3:bl U<=65:=(Qg 65 U).2 (by simp [U]);omega
     have b5:=Ylu e (j:=a-1) b1 I O;have b7:(dg U D).getD (k-1) 0*U^(k-1)<=D:=by rw [Hf Xr];exact Nat.le_trans (Nat.mul_le_mul_right _ (Nat.mod_le _ _)) (Nat.div_mul_le_self _ _)
     have c0:Yh U R/U^(a-1)/D<=18446744073709551615:=by have:=(Nat.div_lt_iff_lt_mul l).2 (show _<U*D by rw [Nat.mul_comm];exact a7);simp only [U]at this ⊢;omega
     refine go 4 ?_;refine jn (G:=Nat) [8,9,10,11,12,13] [0,82,6,81,1,2,5] (λg=>[(14,.int .u64 (g:Int))]) (λg=>[]) (λg=>(Yh U R/U^(a-1)/D<=g)/\(g<U)) ?_ ?_
     .refine go 1 ?_;refine Xz (λ_=>False) [(0,0),(1,0),(2,0),(3,0),(4,0),(5,0),(6,0),(7,0),(8,0),(9,0),(10,0),(11,0)]<|go 4 ⟨O,?_⟩;refine Xj J J (Xl (Zu (ii:=82) (i:=a-1+k) J J J J (Yb pU) Pv Ku))<|go 4 ⟨O3,O,?_⟩;refine Xj J J (Xl (Zu (ii:=81) (i:=k-1) J J J J Zn Pv Ku))<|go 4 ⟨O3,?_⟩;refine Zc J (λY=>?_) (λY=>?_)
      .refine Xz (λ_=>False) [(0,0),(1,0),(2,0),(3,0),(4,0),(5,0),(6,0),(7,0),(8,0),(9,0),(10,0),(11,0),(12,0),(13,0),(14,0),(15,0),(16,0),(17,0),(18,1),(19,0),(20,0),(21,0),(22,0)]<|go 4 ⟨O,?_⟩;refine Xj J J (Xl (Zu (ii:=82) (i:=a-1+k) J J J J (Yb pU) Pv Ku))<|go 6 ⟨O3,O,O,?_⟩;refine Xj J J (Xl (Zu (ii:=82) (i:=a-1+k-1) J J J J (Yb pU) Pv Ku))<|go 4 ⟨O3,O,?_⟩;refine Xj J J (Xl (Zu (ii:=81) (i:=k-1) J J J J Zn Pv Ku))<|go 1 ⟨O3,?_⟩;refine Yr (Zi 6 [] (Zvr _ _ _ (Xq Xw e _) (Xq Xw (Ni Xr _) _) O)) λ_ _=>go 5 ?_;exact Pz _ ⟨Yid b7 O b5,Zuv (Xq Xw e _) O⟩ K1 trivial
      .refine go 1 ?_;exact Pz 18446744073709551615 ⟨c0,O2⟩ K1 trivial
     .rintro g ⟨hg,f⟩;refine go 8 ⟨O,O,?_⟩;refine dt (d_mid (ii:=82) (i:=a-1) (j:=a-1+k+1) J J J J J (Yb pU) Pv Ku O O O O)<|go 7 ?_;refine tt (Qb (i:=7) (ivs:=[(0,_)]) (enc:=Mm) [g] J J K2 Pv ti232 J J J J J pU.cells J J p.h) λe8 _=>cl 7 [7] (Of _ _) λ_ _=>?_;refine Yx (Zb9 7 J J pU)<|Yx (Zia 7 (Zg4 f) J J)<|cl 83 [81,7] (Zzq _ _ _ _ O (Nat.le_trans ((Qg 64 g).2 f) O)) λd3 _=>go 5 ?_;refine lp (G:=Nat×Value) [8,9,10,11,12,13,15] [0,82,6,81,1,2,5,7] (λq=>[(14,.int .u64 (q.1:Int)),(16,q.2)]) (λq=>[(83,Eu q.2 (D*q.1))]) (λq=>(Yh U R/U^(a-1)/D<=q.1)/\(q.1<U)) (λq=>q.1) (g,_) ⟨O1,O1⟩ ⟨J,J,trivial⟩ ⟨J,trivial⟩ ?_;rintro⟨g,vp⟩ ⟨hg,f⟩;dsimp only at hg f;dsimp only;have a3:bl (D*g)<=4294967296:=by have h1:=Zmf D g;have h2:=(Qg 64 g).2 f;omega
      refine go 4 ?_;refine tt (Qj (n:=7) (Of _ _) J J J K1 call183 (Zdj 82 J J pU (Zja (a-1) (a-1+k+1)) (Zjs _ _ _ _) Zs) J p.h) λ_ _=>go 1 ?_;refine tt (Qj (n:=7) (Zcq _ _ _ _ a8 a3) J J J K2 call223 (Zdj 82 J J pU (Yfy s (by rw [s]) (Zja (a-1) (a-1+k+1))) (by rw [Gq];exact(Zjs _ _ _ _)) (Zl 83 J J J Zs)) J p.h) λe1 t=>go 3 ?_;refine Zc J (λZ=>?_) (λZ=>?_)
      .have o:Yh U R/U^(a-1)<D*g:=t.1.1 O;have b0:1<=g:=by rcases Nat.eq_zero_or_pos g with h|h;(rw [h,Nat.mul_zero]at o;exact absurd o (Nat.not_lt_zero _));exact h
       have b6:D<=D*g:=Nat.le_mul_of_pos_right _ b0;have c1:Yh U R/U^(a-1)/D<=g-1:=by have:=(Nat.div_lt_iff_lt_mul l).2 (show _<g*D by rw [Nat.mul_comm];exact o);omega
       refine go 6 ?_;refine dt (Zd4 (n:=1) J J J)<|go 3 ?_;refine Zf (Kc 14 (v':= .int .u64 ((g-1:Nat):Int)) J (Zbf (Zu3 b0 f)))<|go 3 ?_;refine cl 8 [83,81] (Zf3 _ _ _ _ a3 b6) λd4 _=>go 3 ?_;exact Zv (Qy 8 83 J J J)<|Yq (g-1,_) ⟨c1,O9⟩ O1 K2 ⟨by rw [Nat.mul_sub_one];rfl,trivial⟩
      .refine go 6 ?_;have hQ:g=Yh U R/U^(a-1)/D:=by have h1:=t.1;have h2:D*g<=Yh U R/U^(a-1):=O;exact Nat.le_antisymm ((Nat.le_div_iff_mul_le l).2 (by rw [Nat.mul_comm];exact h2)) hg
       refine go 2 ?_;refine tt (Qj (n:=8) (Of _ _) J J J K1 call183 (Zdj 82 J J pU (Zja (a-1) (a-1+k+1)) (Zjs _ _ _ _) Zs) J p.h) λ_ _=>go 1 ?_;refine tt (Qj (n:=9) (Zf3 _ _ _ _ a8) J J J K2 call224 (Zdj 82 J J pU (Yfy s (by rw [s]) (Zja (a-1) (a-1+k+1))) (by rw [Gq];exact(Zjs _ _ _ _)) (Zl 83 J J J Zs)) J p.h) λd5 _=>go 4 ?_;have b3:(dg U (Yh U R/U^(a-1)-D*g)).length<=a-1+k+1-(a-1):=by
        have:Yh U R/U^(a-1)-D*g<D:=by rw [hQ];have h3:=Nat.div_add_mod (Yh U R/U^(a-1)) D;have h4:=Nat.mod_lt (Yh U R/U^(a-1)) l;omega
        have:=(Xp Xr k _).2 (Nat.lt_trans this a1);omega
       refine go 2 ?_;refine tt (t_clr (zv:= .bool false) (i:=82) (z:=0) (a-1) J J J J O2 (Yam _ _ _ O) O O Pv pU (λw=>zeroValue232 w) J J p.h) λ_ _=>go 6 ?_;refine tt (t_cpy (i:=82) (j:=9) (a-1) J J J J J J O2 J Zn (Yam _ _ _ (by rw [Il _ _ _ (by rw [List.length_replicate];omega)];omega)) b3 (by rw [Il _ _ _ (by rw [List.length_replicate];omega)];omega) (by rw [Il _ _ _ (by rw [List.length_replicate];omega)];omega) Pv pU J p.h) λ_ _=>go 2 ?_;have b8:a-1+(List.replicate (a-1+k+1-(a-1)) 0).length<=R.length:=by rw [List.length_replicate];omega
       have c6:=Il R (a-1) _ b8;have b9:a-1+(dg U (Yh U R/U^(a-1)-D*g)).length<=(spl R (a-1) (List.replicate (a-1+k+1-(a-1)) 0)).length:=O;have u:=Yln e (j:=a-1) (n:=a-1+k+1-(a-1)) O (by rw [show a-1+(a-1+k+1-(a-1))=a-1+k+1 by omega];exact I) b3;rw [Mc Xr]at u;have b4:=Yjd (j:=a-1) (N:=x*2^b) (Vq:=Yh U (q.drop a)) l hQ (by rw [show a-1+1=a by omega];exact hN);have a6:=b4.1;have F:=b4.2;rw [<-u]at a6 F;have c3:Yh U ((q.set (a-1) g).drop (a-1))=g+U*Yh U (q.drop a):=by rw [drop_set _ _ _ O,show a-1+1=a by omega];rfl
       rw [<-c3]at F;refine go 4 ?_;refine dt (Zu (ii:=6) (i:=a-1) J J J J (Yb pU) Pv Ku)<|tt (Kb (i:=6) (enc:=Mm) _ J J J J J J pU J p.h O2 O3) (λ_ _=>?_);refine go 8 ⟨O,?_⟩;exact Yq (a-1,_,_) ⟨O1,(Il _ _ _ b9).trans (c6.trans a5),Zrx (Zrx e (Ou _ Xw) _) (Ni Xr _) _,O8,Lv M _ _ f,a6,F⟩ O1 ⟨by rw [show(((a-1:Nat):Int)-1)=(a:Int)-1-1 by omega];rfl,trivial⟩ K2
    .refine go 6 ?_;obtain rfl:a=0:=O;rw [Nat.pow_zero,Nat.mul_one]at H;have c2:bl (Yh U R)<=8589934592:=by have:=Og (Nat.le_of_lt H);omega
     refine go 2 ?_;refine cl 9 [6] (Of _ _) λ_ _=>?_;refine Yx (Zb9 6 J J pU)<|go 1 ?_;refine cl 9 [82] (Of _ _) λ_ _=>?_;refine Yx (Zb9 82 J J pU)<|Yx (Zia 82 (Ic Xr R e).symm J J)<|go 1 ?_;refine cl 10 [82] (Ynn _ _ _ c2 O) λd6 _=>go 5 ?_;rw [List.drop_zero,Nat.pow_zero,Nat.mul_one]at hN;have c9:tz q=dg U (x/y):=by rw [<-Ic Xr _ M,<-Zni x y b,<-c,<-hN,Nat.mul_comm,Nat.mul_add_div l,Nat.div_eq_of_lt H,Nat.add_zero]
     have d0:Yh U R/2^b=x%y:=by rw [<-Znh x y b,<-c,<-hN,Nat.mul_comm,Nat.mul_add_mod,Nat.mod_eq_of_lt H]
     exact Nr P (_,_) results267 J trivial (gow 6 (Ob 10 Za (by rw [d0])) c9)
def Zp1(v w:Value)(x y:Nat)(l:bl x<=4000000000:=by omega)(m:bl y<=4000000000:=by omega):Cal prog 217 #[v,w] [Eu v x,Eu w y] true (G:=Value) (λr=>True) (λr=>r) (λr=>[Eu r (Nat.gcd x y)]):=by
 refine Zg func217 ntmps217 λz s p j=>?_;have n:=Nz x;have o:=Nz y;refine go 7 ?_;refine Zf (Qy 1 91 J J J)<|Zf (Qy 2 92 J J J)<|lp (G:=Value×Value×Nat×Nat) [] [0,1,2] (λq=>[(0,q.1),(1,q.2.1)]) (λq=>[(91,Eu q.1 q.2.2.1),(92,Eu q.2.1 q.2.2.2)]) (λq=>(Nat.gcd q.2.2.1 q.2.2.2=Nat.gcd x y)/\(bl q.2.2.1<=4000000000)/\(bl q.2.2.2<=4000000000)) (λq=>q.2.2.2) (v,w,x,y) ⟨J,l,m⟩ K2 K2 ?_;rintro⟨t,u,a,b⟩ ⟨i,k,f⟩;dsimp only at i k f;dsimp only;refine go 8 ?_;refine Zc J (λd=>?_) (λd=>?_)
 .have c:0<b:=by rcases Nat.eq_zero_or_pos b with h|h;(subst h;simp [Gl]at d);exact h
  refine go 7 ?_;refine cl 3 [91,92] (Zzr _ _ _ _ k f c) λg _=>go 14 ?_;have e:a%b<b:=Nat.mod_lt _ c;exact Zv (Qy 92 91 J J J)<|Zv (Qy 4 92 J J J)<|Yq (_,_,b,a%b) ⟨by dsimp only;rw [<-i,Nat.gcd_comm b,<-Nat.gcd_rec,Nat.gcd_comm],f,Nat.le_trans (Og (Nat.le_of_lt e)) f⟩ e K2 K2
 .have c:b=0:=(Pw Xr b).1 O;refine go 12 ?_;exact Xu j _ results217 J trivial (Ob 91 Za (by rw [<-i,c,Nat.gcd_zero_right]))
def Zpu(s:Bool)(v:Value)(x:Int)(hs:sg s x):Cal prog 235 #[.agg #[.bool s,v]] [Eu v x.natAbs] true (G:=Bool×Value) (λr=>sg r.1 (-x)) (λr=> .agg #[.bool r.1,r.2]) (λr=>[Eu r.2 (-x).natAbs]):=by refine Zg func235 ntmps235 λg f e c=>go 2 ?_;refine Yk (Yt 2) λb _=>Yk (Zy 3) λd _=>go 9 ?_;refine dt (Qq (ivs:=[(0,_),(1,_)]) J K4 (λa w hs=>Ky ((Yf J) a w hs) ((Oj (i:=1) J Zn) a w hs)))<|go 4 ?_;exact Xu c (!s,v) results235 J (Yfb hs) (Ob 1 Za (by rw [Int.natAbs_neg]))
def Zdn(s t:Bool)(v w:Value)(x y:Int)(hs:sg s x)(f:sg t y)(g:bl x.natAbs<=4294967296:=by omega)(h:bl y.natAbs<=4294967296:=by omega):Cal prog 167 #[.agg #[.bool s,v],.agg #[.bool t,w]] [Eu v x.natAbs,Eu w y.natAbs] true (G:=Bool×Value) (λr=>sg r.1 (x*y)) (λr=> .agg #[.bool r.1,r.2]) (λr=>[Eu r.2 (x*y).natAbs]):=by refine Zg func167 ntmps167 λl k j c=>go 2 ?_;refine Yk (Yt 3) λb _=>Yk (Yt 4) λd _=>Yk (Zy 5) λe _=>go 3 ?_;refine Xz (λ_=>False) [(0,0),(1,0),(2,0),(3,0),(4,0),(5,0),(6,0),(7,0),(8,0),(9,1),(10,0),(11,3)]<|go 9 ?_;refine Yr (Zi 6 [1,2] (Zzq _ _ _ _ g h)) λv _=>?_;refine Xj J J (Xl (Qq (ivs:=[(0,_),(1,_)]) J K4 (λa w hs=>Ky ((Yf J) a w hs) ((Oj (i:=6) J Zn) a w hs))))<|go 4 ?_;exact Xu c (_,_) results167 J (Yfc hs f) (Ob 6 Za (by rw [Int.natAbs_mul]))
def Zk1(s:Bool)(v:Value)(x:Int)(hs:sg s x)(g:bl x.natAbs<=4294967296:=by omega):Cal prog 236 #[.agg #[.bool s,v]] [Eu v x.natAbs] true (G:=Unit) (λ_=>True) (λ_=> .int .i64 x.sign) (λ_=>[]):=by
 refine Zg func236 ntmps236 λi h f d=>?_;have e:=Nz x.natAbs;refine go 2 ?_;refine Yk (Yt 2) λb _=>go 14 ?_;refine Zc J (λa=>?_) (λa=>?_)
 .refine go 8 ?_;exact Xu d () results236 (Yb7 a) trivial Za
 .refine go 7 ?_;refine Mv J (λc=>?_) (λc=>?_)
  .refine go 8 ?_;exact Xu d () results236 (Ye6 hs c a) trivial Za
  .refine go 9 ?_;exact Xu d () results236 (Ye5 hs c a) trivial Za
def Zf2(s t:Bool)(v w:Value)(x y:Int)(hs:sg s x)(g:sg t y)(j:bl x.natAbs<=4294967296:=by omega)(k:bl y.natAbs<=4294967296:=by omega):Cal prog 170 #[.agg #[.bool s,v],.agg #[.bool t,w]] [Eu v x.natAbs,Eu w y.natAbs] true (G:=Bool×Value) (λr=>sg r.1 (x+y)) (λr=> .agg #[.bool r.1,r.2]) (λr=>[Eu r.2 (x+y).natAbs]):=by
 refine Zg func170 ntmps170 λz u q f=>go 2 ?_;refine Yk (Yt 3) λb _=>Yk (Yt 4) λm _=>Yk (Zy 5) λn _=>go 14 ?_;refine Mv J (λd=>?_) (λd=>?_)
 .have c:s=t:=by simpa using d
  refine go 1 ?_;refine Xz (λ_=>False) [(0,0),(1,0),(2,0),(3,0),(4,0),(5,0),(6,1),(7,0),(8,3)]<|go 6 ?_;refine Yr (Zi 6 [1,2] (Zzs _ _ _ _ j k)) λv _=>?_;refine Xj J J (Xl (Qq (ivs:=[(0,_),(1,_)]) J K4 (λa w hs=>Ky ((Yf J) a w hs) ((Oj (i:=6) J Zn) a w hs))))<|go 6 ?_;exact Xu f (_,_) results170 J (Zyu hs (c▸g)) (Ob 6 Za (by rw [Zgx hs (c▸g)]))
 .have c:s≠t:=by simpa using d
  refine go 6 ?_;refine cl 6 [1,2] (Zcq _ _ _ _ j k) λr l=>go 4 ?_;refine Zc J (λh=>?_) (λh=>?_)
  .have e:y.natAbs<=x.natAbs:=by have:=l.1;omega
   refine go 1 ?_;refine Xz (λ_=>False) [(0,0),(1,0),(2,0),(3,0),(4,0),(5,0),(6,1),(7,0),(8,3)]<|go 6 ?_;refine Yr (Zi 7 [1,2] (Zf3 _ _ _ _ j)) λo _=>?_;refine Xj J J (Xl (Qq (ivs:=[(0,_),(1,_)]) J K4 (λa w hs=>Ky ((Yf J) a w hs) ((Oj (i:=7) J Zn) a w hs))))<|go 6 ?_;exact Xu f (_,_) results170 J (Zi7 hs g c e) (Ob 7 Za (by rw [Za9 hs g c e]))
  .have e:x.natAbs<=y.natAbs:=by have:=l.1;omega
   refine go 4 ?_;refine Xz (λ_=>False) [(0,0),(1,0),(2,0),(3,0),(4,0),(5,0),(6,1),(7,0),(8,3)]<|go 6 ?_;refine Yr (Zi 8 [2,1] (Zf3 _ _ _ _ k)) λp _=>?_;refine Xj J J (Xl (Qq (ivs:=[(0,_),(1,_)]) J K4 (λa w hs=>Ky ((Yf J) a w hs) ((Oj (i:=8) J Zn) a w hs))))<|go 4 ?_;exact Xu f (_,_) results170 J (by rw [Int.add_comm];exact Zi7 g hs (Ne.symm c) e) (Ob 8 Za (by rw [Int.add_comm,Za9 g hs (Ne.symm c) e]))
def Qo(s:Bool)(x:Int)(hs:sg s x)(e:bl x.natAbs<=4294967296:=by omega):Cal prog 166 #[.agg #[.bool s,.string (Qh x.natAbs)]] [] true (G:=Bool×Value) (λr=>sg r.1 x) (λr=> .agg #[.bool r.1,r.2]) (λr=>[Eu r.2 x.natAbs]):=by refine Zg func166 ntmps166 λh g f c=>go 2 ?_;refine Yk (Yt 1) λb _=>Yk (Zy 2) λd _=>go 3 ?_;refine Xz (λ_=>False) [(0,0),(1,0),(2,0),(3,0),(4,1),(5,0),(6,3)]<|go 4 ?_;refine Yr (Zi 3 [] (Zdd _ e)) λv _=>?_;refine Xj J J (Xl (Qq (ivs:=[(0,_),(1,_)]) J K4 (λa w hs=>Ky ((Yf J) a w hs) ((Oj (i:=3) J Zn) a w hs))))<|go 4 ?_;exact Xu c (_,_) results166 J hs (Ob 3 Za J)
def Hs(s:Bool)(v:Value)(x:Int)(hs:sg s x)(g:bl x.natAbs<=4294967296:=by omega):Qf prog 184 #[.agg #[.bool s,v]] [Eu v x.natAbs] (Zcc x):=by
 refine Zg func184 ntmps184 λi h f d=>go 2 ?_;refine Yk (Yt 2) λb _=>Yk (Zy 3) λe _=>go 8 ?_;refine cl 3 [1] (Zk3 _ _) λ_ _=>go 3 ?_;refine Zc J (λc=>?_) (λc=>?_)
 .refine go 2 ?_;refine dt (Qq (ivs:=[]) J trivial (λa w hs=>b80_))<|go 6 ?_;exact Nr d () results184 (Ybu c) trivial Za
 .refine go 3 ?_;cases s
  .refine Xz (λ_=>False) [(0,0),(1,0),(2,0),(3,2),(4,2),(5,2),(6,2),(7,0),(8,0),(9,0),(10,1),(11,0),(12,3),(13,3)]<|go 10 ?_;refine Yr (Zi 3 [1] (Zn2 _ _)) λ_ _=>?_;refine Xj J J (Xl (Qq (ivs:=[(0,_),(1,_)]) J K4 (λa w hs=>Zx3 ((Yf J) a w hs) ((Yf J) a w hs))))<|go 5 ?_;exact Nr d () results184 (by first|exact Zr4 hs c|exact Zr3 hs c) trivial Za
  .refine Xz (λ_=>False) [(0,0),(1,0),(2,0),(3,0),(4,0),(5,0),(6,0),(7,0),(8,0),(9,0),(10,1),(11,0),(12,3),(13,3)]<|go 10 ?_;refine Yr (Zi 3 [1] (Zn2 _ _)) λ_ _=>?_;refine Xj J J (Xl (Qq (ivs:=[(0,_),(1,_)]) J K4 (λa w hs=>Zx3 ((Yf J) a w hs) ((Yf J) a w hs))))<|go 5 ?_;exact Nr d () results184 (by first|exact Zr4 hs c|exact Zr3 hs c) trivial Za
def Nc(s t:Bool)(v w:Value)(x y:Int)(hs:sg s x)(o:sg t y)(k:y≠0)(N:bl x.natAbs<=3000000000:=by omega)(P:bl y.natAbs<=3000000000:=by omega):Cal prog 218 #[.agg #[.bool s,v],.agg #[.bool t,w]] [Eu v x.natAbs,Eu w y.natAbs] true (G:=Bool×Value×Value) (λr=>sg r.1 (x/y)) (λr=> .tuple #[.agg #[.bool r.1,r.2.1],.agg #[.bool false,r.2.2]]) (λr=>[Eu r.2.1 (x/y).natAbs,Eu r.2.2 (x%y).natAbs]):=by
 refine Zg func218 ntmps218 λR Q D j=>?_;have I:=Nz x.natAbs;have M:=Nz y.natAbs;have l:0<y.natAbs:=O;have n:x.natAbs%y.natAbs<y.natAbs:=Nat.mod_lt _ l;have B:=Og (Nat.le_of_lt n);have z:=Og (Nat.div_le_self x.natAbs y.natAbs);refine go 2 ?_;refine Yk (Yt 3) λb _=>Yk (Yt 4) λp _=>Yk (Zy 5) λq _=>Yk (Zy 6) λu _=>go 8 ?_;refine cl 7 [1,2] (Zzr _ _ _ _ O O l) λg _=>go 13 ?_;refine Zgb (d:=18) J (λf=>?_) (λf=>?_)
 .refine go 6 ?_;refine Zc J (λc=>?_) (λc=>?_)
  .subst f;have m:0<x.natAbs%y.natAbs:=by rcases Nat.eq_zero_or_pos (x.natAbs%y.natAbs)with h|h;(rw [h]at c;simp [Gl]at c);exact h
   have e:=divA hs o k m;refine Xz (λ_=>False) [(0,0),(3,0),(4,0),(5,0),(1,1),(2,1),(6,1),(7,0),(8,3)]<|go 4 ?_;refine Fi J (Qb (i:=9) (ivs:=[(0,_)]) (enc:=Mm) (dg U 1) J J K2 Pv ti232 J J J J J pU.cells J J D.h) λv _=>Yr (Zi 10 [7,9] (Zzs _ _ _ _ O (show bl 1<=4294967296 by decide))) λF _=>Yr (Zi 11 [2,8] (Zf3 _ _ _ _ O)) λH _=>go 12 ?_;refine dt (Qq (ivs:=[(0,_),(1,_)]) J K4 (λa w hs=>Ky ((Yf J) a w hs) ((Oj (i:=10) J Zn) a w hs)))<|go 1 ?_;refine dt (Qq (ivs:=[(0,_),(1,_)]) J K4 (λa w hs=>Ky ((Yf J) a w hs) ((Oj (i:=11) J Zn) a w hs)))<|go 5 ?_;exact Nr j (_,_,_) results218 J e.1 (Ob 10 (Ob 11 Za (by rw [e.2.2]<;>rfl)) (by rw [e.2.1]<;>rfl))
  .have e:=divB hs o k (.inr ((Pw Xr _).1 O));refine go 10 ?_;refine dt (Qq (ivs:=[(0,_),(1,_)]) J K4 (λa w hs=>Ky ((Yf J) a w hs) ((Oj (i:=7) J Zn) a w hs)))<|go 1 ?_;refine dt (Qq (ivs:=[(0,_),(1,_)]) J K4 (λa w hs=>Ky ((Yf J) a w hs) ((Oj (i:=8) J Zn) a w hs)))<|go 5 ?_;exact Nr j (_,_,_) results218 J e.1 (Ob 7 (Ob 8 Za (by rw [e.2.2]<;>rfl)) (by rw [e.2.1]<;>rfl))
 .have e:=divB hs o k (.inl f);refine go 17 ?_;refine dt (Qq (ivs:=[(0,_),(1,_)]) J K4 (λa w hs=>Ky ((Yf J) a w hs) ((Oj (i:=7) J Zn) a w hs)))<|go 1 ?_;refine dt (Qq (ivs:=[(0,_),(1,_)]) J K4 (λa w hs=>Ky ((Yf J) a w hs) ((Oj (i:=8) J Zn) a w hs)))<|go 5 ?_;exact Nr j (_,_,_) results218 J e.1 (Ob 7 (Ob 8 Za (by rw [e.2.2]<;>rfl)) (by rw [e.2.1]<;>rfl))
end Go.Sky

