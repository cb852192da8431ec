/- Rules, arithmetic and contracts: part 9. No conditions but those that each theorem names. -/
import Derived.Test.YteikicbnfbgpnaaGreatDc07
set_option linter.all false
namespace Go.Sky
open Go.Proofs
set_option linter.all false
set_option synthInstance.maxHeartbeats 0
@[reducible,instance] def iUnd3:=Und.mk Tryz.underlying3
@[reducible,instance] def iUnd4:=Und.mk Tryz.underlying4
@[reducible,instance] def iUnd5:=Und.mk Tryz.underlying5
@[reducible,instance] def iUnd9:=Und.mk Tryz.underlying9
@[reducible,instance] def iUnd33:=Und.mk Tryz.underlying33
@[reducible,instance] def iUnd39:=Und.mk Tryz.underlying39
@[reducible,instance] def iUnd40:=Und.mk Tryz.underlying40
@[reducible,instance] def iUnd47:=Und.mk Tryz.underlying47
@[reducible,instance] def iUnd80:=Und.mk Tryz.underlying80
@[reducible,instance] def iUnd82:=Und.mk Tryz.underlying82
@[reducible,instance] def iUnd89:=Und.mk Tryz.underlying89
@[reducible,instance] def iUnd91:=Und.mk Tryz.underlying91
@[reducible,instance] def iUnd121:=Und.mk Tryz.underlying121
@[reducible,instance] def iUnd197:=Und.mk Tryz.underlying197
@[reducible,instance] def iUnd217:=Und.mk Tryz.underlying217
@[reducible,instance] def iUnd219:=Und.mk Tryz.underlying219
@[reducible,instance] def iUnd230:=Und.mk Tryz.underlying230
@[reducible,instance] def iUnd232:=Und.mk Tryz.underlying232
@[reducible,instance] def iUnd248:=Und.mk Tryz.underlying248
@[reducible,instance] def iUnd250:=Und.mk Tryz.underlying250
@[reducible,instance] def iUnd268:=Und.mk Tryz.underlying268
@[reducible,instance] def iUnd270:=Und.mk Tryz.underlying270
@[reducible,instance] def iUnd274:=Und.mk Tryz.underlying274
@[reducible,instance] def iUnd276:=Und.mk Tryz.underlying276
@[reducible,instance] def iUnd280:=Und.mk Tryz.underlying280
@[reducible,instance] def iUnd316:=Und.mk Tryz.underlying316
@[reducible,instance] def iSiz3:=Siz.mk Tryz.sizeOf3
@[reducible,instance] def iSiz4:=Siz.mk Tryz.sizeOf4
@[reducible,instance] def iSiz5:=Siz.mk Tryz.sizeOf5
@[reducible,instance] def iSiz9:=Siz.mk Tryz.sizeOf9
@[reducible,instance] def iSiz26:=Siz.mk Tryz.sizeOf26
@[reducible,instance] def iSiz33:=Siz.mk Tryz.sizeOf33
@[reducible,instance] def iSiz40:=Siz.mk Tryz.sizeOf40
@[reducible,instance] def iSiz47:=Siz.mk Tryz.sizeOf47
@[reducible,instance] def iSiz80:=Siz.mk Tryz.sizeOf80
@[reducible,instance] def iSiz82:=Siz.mk Tryz.sizeOf82
@[reducible,instance] def iSiz89:=Siz.mk Tryz.sizeOf89
@[reducible,instance] def iSiz91:=Siz.mk Tryz.sizeOf91
@[reducible,instance] def iSiz217:=Siz.mk Tryz.sizeOf217
@[reducible,instance] def iSiz219:=Siz.mk Tryz.sizeOf219
@[reducible,instance] def iSiz232:=Siz.mk Tryz.sizeOf232
@[reducible,instance] def iSiz248:=Siz.mk Tryz.sizeOf248
@[reducible,instance] def iSiz268:=Siz.mk Tryz.sizeOf268
@[reducible,instance] def iSiz270:=Siz.mk Tryz.sizeOf270
@[reducible,instance] def iSiz276:=Siz.mk Tryz.sizeOf276
@[reducible,instance] def iAgg4:=Agg.mk Tryz.isAgg4
@[reducible,instance] def iAgg9:=Agg.mk Tryz.isAgg9
@[reducible,instance] def iAgg26:=Agg.mk Tryz.isAgg26
@[reducible,instance] def iAgg33:=Agg.mk Tryz.isAgg33
@[reducible,instance] def iAgg80:=Agg.mk Tryz.isAgg80
@[reducible,instance] def iAgg82:=Agg.mk Tryz.isAgg82
@[reducible,instance] def iAgg89:=Agg.mk Tryz.isAgg89
@[reducible,instance] def iAgg91:=Agg.mk Tryz.isAgg91
@[reducible,instance] def iAgg217:=Agg.mk Tryz.isAgg217
@[reducible,instance] def iAgg219:=Agg.mk Tryz.isAgg219
@[reducible,instance] def iAgg268:=Agg.mk Tryz.isAgg268
@[reducible,instance] def iAgg270:=Agg.mk Tryz.isAgg270
@[reducible,instance] def iAgg276:=Agg.mk Tryz.isAgg276
@[reducible,instance] def iZer80:=Zer.mk Tryz.zeroValue80
@[reducible,instance] def iZer82:=Zer.mk Tryz.zeroValue82
@[reducible,instance] def iZer89:=Zer.mk Tryz.zeroValue89
@[reducible,instance] def iZer91:=Zer.mk Tryz.zeroValue91
@[reducible,instance] def iZer219:=Zer.mk Tryz.zeroValue219
@[reducible,instance] def iZer232:=Zer.mk Tryz.zeroValue232
@[reducible,instance] def iZer250:=Zer.mk Tryz.zeroValue250
@[reducible,instance] def iZer270:=Zer.mk Tryz.zeroValue270
@[reducible,instance] def iZer274:=Zer.mk Tryz.zeroValue274
@[reducible,instance] def iZer276:=Zer.mk Tryz.zeroValue276
@[reducible,instance] def iCalF57:=CalF.mk Tryz.call57
@[reducible,instance] def iCalF67:=CalF.mk Tryz.call67
@[reducible,instance] def iCalF69:=CalF.mk Tryz.call69
@[reducible,instance] def iCalF70:=CalF.mk Tryz.call70
@[reducible,instance] def iCalF72:=CalF.mk Tryz.call72
@[reducible,instance] def iCalF76:=CalF.mk Tryz.call76
@[reducible,instance] def iCalF78:=CalF.mk Tryz.call78
@[reducible,instance] def iCalF79:=CalF.mk Tryz.call79
@[reducible,instance] def iCalF81:=CalF.mk Tryz.call81
@[reducible,instance] def iCalF82:=CalF.mk Tryz.call82
@[reducible,instance] def iCalF97:=CalF.mk Tryz.call97
@[reducible,instance] def iCalF99:=CalF.mk Tryz.call99
@[reducible,instance] def iCalF100:=CalF.mk Tryz.call100
@[reducible,instance] def iCalF105:=CalF.mk Tryz.call105
@[reducible,instance] def iCalF106:=CalF.mk Tryz.call106
@[reducible,instance] def iCalF117:=CalF.mk Tryz.call117
@[reducible,instance] def iCalF118:=CalF.mk Tryz.call118
@[reducible,instance] def iCalF119:=CalF.mk Tryz.call119
@[reducible,instance] def iCalF126:=CalF.mk Tryz.call126
@[reducible,instance] def iCalF127:=CalF.mk Tryz.call127
@[reducible,instance] def iCalF128:=CalF.mk Tryz.call128
@[reducible,instance] def iCalF129:=CalF.mk Tryz.call129
@[reducible,instance] def iCalF130:=CalF.mk Tryz.call130
@[reducible,instance] def iCalF131:=CalF.mk Tryz.call131
@[reducible,instance] def iCalF135:=CalF.mk Tryz.call135
@[reducible,instance] def iCalF136:=CalF.mk Tryz.call136
@[reducible,instance] def iCalF138:=CalF.mk Tryz.call138
@[reducible,instance] def iCalF140:=CalF.mk Tryz.call140
@[reducible,instance] def iCalF143:=CalF.mk Tryz.call143
@[reducible,instance] def iCalF144:=CalF.mk Tryz.call144
@[reducible,instance] def iCalF146:=CalF.mk Tryz.call146
@[reducible,instance] def iCalF147:=CalF.mk Tryz.call147
@[reducible,instance] def iCalF148:=CalF.mk Tryz.call148
@[reducible,instance] def iCalF149:=CalF.mk Tryz.call149
@[reducible,instance] def iCalF164:=CalF.mk Tryz.call164
@[reducible,instance] def iCalF165:=CalF.mk Tryz.call165
@[reducible,instance] def iCalF166:=CalF.mk Tryz.call166
@[reducible,instance] def iCalF167:=CalF.mk Tryz.call167
@[reducible,instance] def iCalF169:=CalF.mk Tryz.call169
@[reducible,instance] def iCalF170:=CalF.mk Tryz.call170
@[reducible,instance] def iCalF172:=CalF.mk Tryz.call172
@[reducible,instance] def iCalF173:=CalF.mk Tryz.call173
@[reducible,instance] def iCalF178:=CalF.mk Tryz.call178
@[reducible,instance] def iCalF179:=CalF.mk Tryz.call179
@[reducible,instance] def iCalF180:=CalF.mk Tryz.call180
@[reducible,instance] def iCalF183:=CalF.mk Tryz.call183
@[reducible,instance] def iCalF184:=CalF.mk Tryz.call184
@[reducible,instance] def iCalF188:=CalF.mk Tryz.call188
@[reducible,instance] def iCalF189:=CalF.mk Tryz.call189
@[reducible,instance] def iCalF190:=CalF.mk Tryz.call190
@[reducible,instance] def iCalF191:=CalF.mk Tryz.call191
@[reducible,instance] def iCalF192:=CalF.mk Tryz.call192
@[reducible,instance] def iCalF193:=CalF.mk Tryz.call193
@[reducible,instance] def iCalF194:=CalF.mk Tryz.call194
@[reducible,instance] def iCalF195:=CalF.mk Tryz.call195
@[reducible,instance] def iCalF196:=CalF.mk Tryz.call196
@[reducible,instance] def iCalF197:=CalF.mk Tryz.call197
@[reducible,instance] def iCalF198:=CalF.mk Tryz.call198
@[reducible,instance] def iCalF200:=CalF.mk Tryz.call200
@[reducible,instance] def iCalF201:=CalF.mk Tryz.call201
@[reducible,instance] def iCalF202:=CalF.mk Tryz.call202
@[reducible,instance] def iCalF209:=CalF.mk Tryz.call209
@[reducible,instance] def iCalF210:=CalF.mk Tryz.call210
@[reducible,instance] def iCalF211:=CalF.mk Tryz.call211
@[reducible,instance] def iCalF212:=CalF.mk Tryz.call212
@[reducible,instance] def iCalF213:=CalF.mk Tryz.call213
@[reducible,instance] def iCalF214:=CalF.mk Tryz.call214
@[reducible,instance] def iCalF215:=CalF.mk Tryz.call215
@[reducible,instance] def iCalF216:=CalF.mk Tryz.call216
@[reducible,instance] def iCalF217:=CalF.mk Tryz.call217
@[reducible,instance] def iCalF218:=CalF.mk Tryz.call218
@[reducible,instance] def iCalF219:=CalF.mk Tryz.call219
@[reducible,instance] def iCalF220:=CalF.mk Tryz.call220
@[reducible,instance] def iCalF221:=CalF.mk Tryz.call221
@[reducible,instance] def iCalF222:=CalF.mk Tryz.call222
@[reducible,instance] def iCalF223:=CalF.mk Tryz.call223
@[reducible,instance] def iCalF224:=CalF.mk Tryz.call224
@[reducible,instance] def iCalF225:=CalF.mk Tryz.call225
@[reducible,instance] def iCalF226:=CalF.mk Tryz.call226
@[reducible,instance] def iCalF228:=CalF.mk Tryz.call228
@[reducible,instance] def iCalF232:=CalF.mk Tryz.call232
@[reducible,instance] def iCalF233:=CalF.mk Tryz.call233
@[reducible,instance] def iCalF234:=CalF.mk Tryz.call234
@[reducible,instance] def iCalF235:=CalF.mk Tryz.call235
@[reducible,instance] def iCalF236:=CalF.mk Tryz.call236
@[reducible,instance] def iCalF237:=CalF.mk Tryz.call237
@[reducible,instance] def iCalF238:=CalF.mk Tryz.call238
@[reducible,instance] def iCalF239:=CalF.mk Tryz.call239
@[reducible,instance] def iCalF240:=CalF.mk Tryz.call240
@[reducible,instance] def iCalF251:=CalF.mk Tryz.call251
@[reducible,instance] def iCalF254:=CalF.mk Tryz.call254
@[reducible,instance] def iCalF255:=CalF.mk Tryz.call255
@[reducible,instance] def iCalF256:=CalF.mk Tryz.call256
@[reducible,instance] def iCalF257:=CalF.mk Tryz.call257
@[reducible,instance] def iCalF258:=CalF.mk Tryz.call258
@[reducible,instance] def iCalF259:=CalF.mk Tryz.call259
@[reducible,instance] def iCalF260:=CalF.mk Tryz.call260
@[reducible,instance] def iCalF261:=CalF.mk Tryz.call261
@[reducible,instance] def iCalF262:=CalF.mk Tryz.call262
@[reducible,instance] def iCalF263:=CalF.mk Tryz.call263
@[reducible,instance] def iCalF264:=CalF.mk Tryz.call264
@[reducible,instance] def iCalF265:=CalF.mk Tryz.call265
@[reducible,instance] def iCalF266:=CalF.mk Tryz.call266
@[reducible,instance] def iCalF267:=CalF.mk Tryz.call267
@[reducible,instance] def iCalF268:=CalF.mk Tryz.call268
@[reducible,instance] def iCalF272:=CalF.mk Tryz.call272
@[reducible,instance] def iCalF280:=CalF.mk Tryz.call280
@[reducible,instance] def iCalF281:=CalF.mk Tryz.call281
@[reducible,instance] def iCalF282:=CalF.mk Tryz.call282
@[reducible,instance] def iCalF283:=CalF.mk Tryz.call283
@[reducible,instance] def iCalF284:=CalF.mk Tryz.call284
@[reducible,instance] def iCalF285:=CalF.mk Tryz.call285
@[reducible,instance] def iCalF286:=CalF.mk Tryz.call286
@[reducible,instance] def iCalF287:=CalF.mk Tryz.call287
@[reducible,instance] def iCalF288:=CalF.mk Tryz.call288
@[reducible,instance] def iCalF289:=CalF.mk Tryz.call289
@[reducible,instance] def iCalF290:=CalF.mk Tryz.call290
@[reducible,instance] def iCalF291:=CalF.mk Tryz.call291
@[reducible,instance] def iCalF292:=CalF.mk Tryz.call292
@[reducible,instance] def iCalF293:=CalF.mk Tryz.call293
@[reducible,instance] def iCalF294:=CalF.mk Tryz.call294
@[reducible,instance] def iCalF295:=CalF.mk Tryz.call295
@[reducible,instance] def iCalF297:=CalF.mk Tryz.call297
@[reducible,instance] def iCalF298:=CalF.mk Tryz.call298
@[reducible,instance] def iCalF299:=CalF.mk Tryz.call299
@[reducible,instance] def iCalF300:=CalF.mk Tryz.call300
@[reducible,instance] def iCalF301:=CalF.mk Tryz.call301
@[reducible,instance] def iCalF302:=CalF.mk Tryz.call302
@[reducible,instance] def iCalF303:=CalF.mk Tryz.call303
@[reducible,instance] def iCalF304:=CalF.mk Tryz.call304
@[reducible,instance] def iCalF305:=CalF.mk Tryz.call305
@[reducible,instance] def iCalF306:=CalF.mk Tryz.call306
@[reducible,instance] def iCalF307:=CalF.mk Tryz.call307
@[reducible,instance] def iCalF308:=CalF.mk Tryz.call308
@[reducible,instance] def iCalF309:=CalF.mk Tryz.call309
@[reducible,instance] def iCalF310:=CalF.mk Tryz.call310
@[reducible,instance] def iCalF311:=CalF.mk Tryz.call311
@[reducible,instance] def iCalF312:=CalF.mk Tryz.call312
@[reducible,instance] def iCalF313:=CalF.mk Tryz.call313
@[reducible,instance] def iCalF314:=CalF.mk Tryz.call314
@[reducible,instance] def iCalF315:=CalF.mk Tryz.call315
instance:EncT Tryz.prog 232 1 Mv:=⟨pU⟩
instance:EncE 1 Mv:=⟨_,_,pU⟩
instance:EncT Tryz.prog 5 1 Zi6:=⟨pB⟩
instance:EncE 1 Zi6:=⟨_,_,pB⟩
instance:EncT Tryz.prog 3 1 Kv:=⟨pN⟩
instance:EncE 1 Kv:=⟨_,_,pN⟩
instance:EncT Tryz.prog 3 1 Yk:=⟨pZ⟩
instance:EncE 1 Yk:=⟨_,_,pZ⟩
instance:EncT Tryz.prog 80 2 Zxc:=⟨pW⟩
instance:EncE 2 Zxc:=⟨_,_,pW⟩
instance:EncT Tryz.prog 80 2 wv:=⟨pV⟩
instance:EncE 2 wv:=⟨_,_,pV⟩
instance:EncT Tryz.prog 89 2 Mg:=⟨pI⟩
instance:EncE 2 Mg:=⟨_,_,pI⟩
instance {α:Type} : EncT Tryz.prog 40 1 (Nf (α:=α)):=⟨pS⟩
instance {α:Type} : EncE 1 (Nf (α:=α)):=⟨_,_,pS⟩
instance:EncT Tryz.prog 276 8 iq:=⟨pY⟩
instance:EncE 8 iq:=⟨_,_,pY⟩
instance:EncT Tryz.prog 82 4 rq:=⟨pQ⟩
instance:EncE 4 rq:=⟨_,_,pQ⟩
instance:EncT Tryz.prog 82 4 encQ:=⟨pR⟩
instance:EncE 4 encQ:=⟨_,_,pR⟩
@[reducible,instance] def iUnd23:=Und.mk Tryz.underlying23
@[reducible,instance] def iUnd25:=Und.mk Tryz.underlying25
@[reducible,instance] def iUnd35:=Und.mk Tryz.underlying35
@[reducible,instance] def iUnd38:=Und.mk Tryz.underlying38
@[reducible,instance] def iUnd46:=Und.mk Tryz.underlying46
@[reducible,instance] def iUnd50:=Und.mk Tryz.underlying50
@[reducible,instance] def iUnd61:=Und.mk Tryz.underlying61
@[reducible,instance] def iUnd130:=Und.mk Tryz.underlying130
@[reducible,instance] def iUnd135:=Und.mk Tryz.underlying135
@[reducible,instance] def iUnd140:=Und.mk Tryz.underlying140
@[reducible,instance] def iUnd166:=Und.mk Tryz.underlying166
@[reducible,instance] def iUnd182:=Und.mk Tryz.underlying182
@[reducible,instance] def iUnd186:=Und.mk Tryz.underlying186
@[reducible,instance] def iUnd189:=Und.mk Tryz.underlying189
@[reducible,instance] def iUnd190:=Und.mk Tryz.underlying190
@[reducible,instance] def iUnd193:=Und.mk Tryz.underlying193
@[reducible,instance] def iUnd210:=Und.mk Tryz.underlying210
@[reducible,instance] def iUnd242:=Und.mk Tryz.underlying242
@[reducible,instance] def iUnd243:=Und.mk Tryz.underlying243
@[reducible,instance] def iUnd331:=Und.mk Tryz.underlying331
@[reducible,instance] def iSiz23:=Siz.mk Tryz.sizeOf23
@[reducible,instance] def iSiz25:=Siz.mk Tryz.sizeOf25
@[reducible,instance] def iSiz35:=Siz.mk Tryz.sizeOf35
@[reducible,instance] def iSiz38:=Siz.mk Tryz.sizeOf38
@[reducible,instance] def iSiz46:=Siz.mk Tryz.sizeOf46
@[reducible,instance] def iSiz64:=Siz.mk Tryz.sizeOf64
@[reducible,instance] def iSiz130:=Siz.mk Tryz.sizeOf130
@[reducible,instance] def iSiz135:=Siz.mk Tryz.sizeOf135
@[reducible,instance] def iSiz162:=Siz.mk Tryz.sizeOf162
@[reducible,instance] def iSiz182:=Siz.mk Tryz.sizeOf182
@[reducible,instance] def iSiz189:=Siz.mk Tryz.sizeOf189
@[reducible,instance] def iSiz210:=Siz.mk Tryz.sizeOf210
@[reducible,instance] def iSiz242:=Siz.mk Tryz.sizeOf242
@[reducible,instance] def iSiz243:=Siz.mk Tryz.sizeOf243
@[reducible,instance] def iSiz330:=Siz.mk Tryz.sizeOf330
@[reducible,instance] def iAgg3:=Agg.mk Tryz.isAgg3
@[reducible,instance] def iAgg23:=Agg.mk Tryz.isAgg23
@[reducible,instance] def iAgg25:=Agg.mk Tryz.isAgg25
@[reducible,instance] def iAgg35:=Agg.mk Tryz.isAgg35
@[reducible,instance] def iAgg38:=Agg.mk Tryz.isAgg38
@[reducible,instance] def iAgg40:=Agg.mk Tryz.isAgg40
@[reducible,instance] def iAgg46:=Agg.mk Tryz.isAgg46
@[reducible,instance] def iAgg64:=Agg.mk Tryz.isAgg64
@[reducible,instance] def iAgg130:=Agg.mk Tryz.isAgg130
@[reducible,instance] def iAgg135:=Agg.mk Tryz.isAgg135
@[reducible,instance] def iAgg162:=Agg.mk Tryz.isAgg162
@[reducible,instance] def iAgg182:=Agg.mk Tryz.isAgg182
@[reducible,instance] def iAgg189:=Agg.mk Tryz.isAgg189
@[reducible,instance] def iAgg210:=Agg.mk Tryz.isAgg210
@[reducible,instance] def iAgg243:=Agg.mk Tryz.isAgg243
@[reducible,instance] def iAgg330:=Agg.mk Tryz.isAgg330
@[reducible,instance] def iZer3:=Zer.mk Tryz.zeroValue3
@[reducible,instance] def iZer23:=Zer.mk Tryz.zeroValue23
@[reducible,instance] def iZer25:=Zer.mk Tryz.zeroValue25
@[reducible,instance] def iZer26:=Zer.mk Tryz.zeroValue26
@[reducible,instance] def iZer35:=Zer.mk Tryz.zeroValue35
@[reducible,instance] def iZer38:=Zer.mk Tryz.zeroValue38
@[reducible,instance] def iZer64:=Zer.mk Tryz.zeroValue64
@[reducible,instance] def iZer130:=Zer.mk Tryz.zeroValue130
@[reducible,instance] def iZer135:=Zer.mk Tryz.zeroValue135
@[reducible,instance] def iZer162:=Zer.mk Tryz.zeroValue162
@[reducible,instance] def iZer166:=Zer.mk Tryz.zeroValue166
@[reducible,instance] def iZer182:=Zer.mk Tryz.zeroValue182
@[reducible,instance] def iZer189:=Zer.mk Tryz.zeroValue189
@[reducible,instance] def iZer210:=Zer.mk Tryz.zeroValue210
@[reducible,instance] def iZer243:=Zer.mk Tryz.zeroValue243
@[reducible,instance] def iCalF14:=CalF.mk Tryz.call14
@[reducible,instance] def iCalF15:=CalF.mk Tryz.call15
@[reducible,instance] def iCalF16:=CalF.mk Tryz.call16
@[reducible,instance] def iCalF17:=CalF.mk Tryz.call17
@[reducible,instance] def iCalF18:=CalF.mk Tryz.call18
@[reducible,instance] def iCalF19:=CalF.mk Tryz.call19
@[reducible,instance] def iCalF20:=CalF.mk Tryz.call20
@[reducible,instance] def iCalF21:=CalF.mk Tryz.call21
@[reducible,instance] def iCalF22:=CalF.mk Tryz.call22
@[reducible,instance] def iCalF23:=CalF.mk Tryz.call23
@[reducible,instance] def iCalF24:=CalF.mk Tryz.call24
@[reducible,instance] def iCalF25:=CalF.mk Tryz.call25
@[reducible,instance] def iCalF26:=CalF.mk Tryz.call26
@[reducible,instance] def iCalF27:=CalF.mk Tryz.call27
@[reducible,instance] def iCalF28:=CalF.mk Tryz.call28
@[reducible,instance] def iCalF29:=CalF.mk Tryz.call29
@[reducible,instance] def iCalF30:=CalF.mk Tryz.call30
@[reducible,instance] def iCalF31:=CalF.mk Tryz.call31
@[reducible,instance] def iCalF32:=CalF.mk Tryz.call32
@[reducible,instance] def iCalF33:=CalF.mk Tryz.call33
@[reducible,instance] def iCalF34:=CalF.mk Tryz.call34
@[reducible,instance] def iCalF35:=CalF.mk Tryz.call35
@[reducible,instance] def iCalF53:=CalF.mk Tryz.call53
@[reducible,instance] def iCalF54:=CalF.mk Tryz.call54
@[reducible,instance] def iCalF61:=CalF.mk Tryz.call61
@[reducible,instance] def iCalF62:=CalF.mk Tryz.call62
@[reducible,instance] def iCalF63:=CalF.mk Tryz.call63
@[reducible,instance] def iCalF64:=CalF.mk Tryz.call64
@[reducible,instance] def iCalF65:=CalF.mk Tryz.call65
@[reducible,instance] def iCalF66:=CalF.mk Tryz.call66
@[reducible,instance] def iCalF68:=CalF.mk Tryz.call68
@[reducible,instance] def iCalF71:=CalF.mk Tryz.call71
@[reducible,instance] def iCalF73:=CalF.mk Tryz.call73
@[reducible,instance] def iCalF74:=CalF.mk Tryz.call74
@[reducible,instance] def iCalF75:=CalF.mk Tryz.call75
@[reducible,instance] def iCalF77:=CalF.mk Tryz.call77
@[reducible,instance] def iCalF80:=CalF.mk Tryz.call80
@[reducible,instance] def iCalF83:=CalF.mk Tryz.call83
@[reducible,instance] def iCalF84:=CalF.mk Tryz.call84
@[reducible,instance] def iCalF85:=CalF.mk Tryz.call85
@[reducible,instance] def iCalF86:=CalF.mk Tryz.call86
@[reducible,instance] def iCalF87:=CalF.mk Tryz.call87
@[reducible,instance] def iCalF88:=CalF.mk Tryz.call88
@[reducible,instance] def iCalF89:=CalF.mk Tryz.call89
@[reducible,instance] def iCalF113:=CalF.mk Tryz.call113
@[reducible,instance] def iCalF114:=CalF.mk Tryz.call114
@[reducible,instance] def iCalF115:=CalF.mk Tryz.call115
@[reducible,instance] def iCalF121:=CalF.mk Tryz.call121
@[reducible,instance] def iCalF124:=CalF.mk Tryz.call124
@[reducible,instance] def iCalF125:=CalF.mk Tryz.call125
@[reducible,instance] def iCalF132:=CalF.mk Tryz.call132
@[reducible,instance] def iCalF133:=CalF.mk Tryz.call133
@[reducible,instance] def iCalF134:=CalF.mk Tryz.call134
@[reducible,instance] def iCalF137:=CalF.mk Tryz.call137
@[reducible,instance] def iCalF139:=CalF.mk Tryz.call139
@[reducible,instance] def iCalF141:=CalF.mk Tryz.call141
@[reducible,instance] def iCalF142:=CalF.mk Tryz.call142
@[reducible,instance] def iCalF145:=CalF.mk Tryz.call145
@[reducible,instance] def iCalF150:=CalF.mk Tryz.call150
@[reducible,instance] def iCalF151:=CalF.mk Tryz.call151
@[reducible,instance] def iCalF152:=CalF.mk Tryz.call152
@[reducible,instance] def iCalF153:=CalF.mk Tryz.call153
@[reducible,instance] def iCalF154:=CalF.mk Tryz.call154
@[reducible,instance] def iCalF155:=CalF.mk Tryz.call155
@[reducible,instance] def iCalF156:=CalF.mk Tryz.call156
@[reducible,instance] def iCalF157:=CalF.mk Tryz.call157
@[reducible,instance] def iCalF158:=CalF.mk Tryz.call158
@[reducible,instance] def iCalF159:=CalF.mk Tryz.call159
@[reducible,instance] def iCalF163:=CalF.mk Tryz.call163
@[reducible,instance] def iCalF168:=CalF.mk Tryz.call168
@[reducible,instance] def iCalF177:=CalF.mk Tryz.call177
@[reducible,instance] def iCalF181:=CalF.mk Tryz.call181
@[reducible,instance] def iCalF185:=CalF.mk Tryz.call185
@[reducible,instance] def iCalF186:=CalF.mk Tryz.call186
@[reducible,instance] def iCalF187:=CalF.mk Tryz.call187
@[reducible,instance] def iCalF199:=CalF.mk Tryz.call199
@[reducible,instance] def iCalF203:=CalF.mk Tryz.call203
@[reducible,instance] def iCalF204:=CalF.mk Tryz.call204
@[reducible,instance] def iCalF205:=CalF.mk Tryz.call205
@[reducible,instance] def iCalF206:=CalF.mk Tryz.call206
@[reducible,instance] def iCalF207:=CalF.mk Tryz.call207
@[reducible,instance] def iCalF208:=CalF.mk Tryz.call208
@[reducible,instance] def iCalF227:=CalF.mk Tryz.call227
@[reducible,instance] def iCalF229:=CalF.mk Tryz.call229
@[reducible,instance] def iCalF230:=CalF.mk Tryz.call230
@[reducible,instance] def iCalF231:=CalF.mk Tryz.call231
@[reducible,instance] def iCalF241:=CalF.mk Tryz.call241
@[reducible,instance] def iCalF247:=CalF.mk Tryz.call247
@[reducible,instance] def iCalF252:=CalF.mk Tryz.call252
@[reducible,instance] def iCalF253:=CalF.mk Tryz.call253
@[reducible,instance] def iCalF271:=CalF.mk Tryz.call271
@[reducible,instance] def iCalF278:=CalF.mk Tryz.call278
@[reducible,instance] def iCalF279:=CalF.mk Tryz.call279
open Go.Proofs.Tryz
set_option synthInstance.maxSize 100000
set_option maxRecDepth 20000
set_option maxHeartbeats 1000000
set_option linter.unusedSimpArgs false
def Yhv(v:Value)(xs:List Nat):Cal prog 183 #[v] [Yw 1 Mv v xs] true (G:=Unit) (λ_=>True) (λ_=>Kr v (tz xs).length) (λ_=>[Yw 1 Mv (Kr v (tz xs).length) (tz xs)]):=by
 refine Zh func183 ntmps183 λp o n c=>?_;refine Pv (Zw7 (i:=1) J Zq) (λa=>?_);refine Pv (Le (i:=1) J Zq) λm=>go 7 ?_;refine lp (G:=Nat) [] [0] (λk=>[(0,Kr v k)]) (λk=>[(1,Yw 1 Mv (Kr v k) (xs.take k))]) (λk=>(k<=xs.length)/\(tz (xs.take k)=tz xs)) (λk=>k) xs.length ⟨aH _,by rw [bL]⟩ ⟨by rw [a];rfl,aA⟩ ⟨by rw [a,bL];rfl,aA⟩ ?_;rintro k ⟨h,j⟩;have f:(xs.take k).length=k:=by rw [aR];omega
 refine go 7 ?_;refine Yt (d:=6) J (λl=>?_) (λl=>?_)
 .refine go 4 ⟨O,?_⟩;refine Fa (Zv (ii:=1) (i:=k-1) J J J J Zq Oj Ku) J J<|go 5 ⟨O,?_⟩;refine Zd J (λg=>?_) (λg=>?_)
  .have b:=Zye h O (by omega:(xs.take k).getD (k-1) 0=0);refine go 8 ⟨O,?_⟩;refine dt (Ya2 (ii:=1) (i:=k-1) J J J J Zq Oj Ku)<|go 3 ?_;exact Zr (Yf1 1 1 (k-1) J J)<|Yp (k-1) ⟨O1,by rw [<-j,<-b]⟩ O1 ⟨by rw [<-Fn v k (k-1)];rfl,aA⟩ ⟨by rw [Fn,iG,dG O];rfl,aA⟩
  .refine go 12 ?_;have e:tz xs=xs.take k:=by rw [<-j];exact Zfn h O
   exact Xd c () results183 (by rw [e,f]) aA (Pt 1 Za (by rw [e,f]))
 .refine go 23 ?_;have e:tz xs=xs.take k:=by rw [<-j];exact Zfn h O
  exact Xd c () results183 (by rw [e,f]) aA (Pt 1 Za (by rw [e,f]))
def Oo(v:Value)(xs:List Nat):Cal prog 183 #[v] [Yw 1 Mv v xs] false (G:=Unit) (λ_=>True) (λ_=>Kr v (tz xs).length) (λ_=>[]):=(Yhv v xs).bare
def Zzy(v w:Value)(x y:Nat)(z:bl x<=4294967296)(N:bl y<=4294967296):Cal prog 222 #[v,w] [Ey v x,Ey w y] false (G:=Value) (λr=>True) (λr=>r) (λr=>[Ey r (x+y)]):=by
 refine Zh func222 ntmps222 λS P s p=>?_;have I:=Ml x;have M:=Ml y;refine go 5 ?_;refine jn (G:=Value×Value×Nat×Nat) [] [0,1,2] (λq=>[(0,q.1),(1,q.2.1)]) (λq=>[(91,Ey q.1 q.2.2.1),(92,Ey q.2.1 q.2.2.2)]) (λq=>(q.2.2.1+q.2.2.2=x+y)/\((dg U q.2.2.2).length<=(dg U q.2.2.1).length)/\((dg U q.2.2.1).length<=1099511627776)) ?_ ?_
 .refine go 9 ?_;refine Zd J (λg=>?_) (λg=>?_)
  .refine go 6 ?_;exact Zr (Xn 2 91 J J J)<|Zr (Xn 1 92 J J J)<|Po (w,v,y,x) ⟨O1,O1,O1⟩ K2 K2
  .refine go 1 ?_;exact Zr (Xn 1 91 J J J)<|Zr (Xn 2 92 J J J)<|Po (v,w,x,y) ⟨O1,O1,O1⟩ K2 K2
 .rintro⟨Q,R,a,b⟩ ⟨hs,u,l⟩;dsimp only at hs u l;dsimp only;refine go 5 ⟨O,?_⟩;refine tt (Iy (i:=3) (n:=(dg U a).length+1) (by_:=8) (enc:=Mv) 0 J J J J Oj ti232 J pU.cells pU.pos J J J s.h) λv _=>go 17 ?_;refine lp (G:=Nat×List Nat×Nat) [0,1,5,21] [0,91,92,1,2] (λq=>[(22,.int .i64 (q.1:Int)),(6,.int .u64 (q.2.2:Int))]) (λq=>[(3,On 1 232 Mv v q.2.1)]) (λq=>(q.1<=(dg U a).length)/\(q.2.1.length=(dg U a).length+1)/\(∀d∈q.2.1,d<U)/\(q.2.2<=1)/\(Yq U (q.2.1.take q.1)+q.2.2*U^q.1=Yq U ((dg U a).take q.1)+Yq U ((dg U b).take q.1))) (λq=>(dg U a).length-q.1) (0,List.replicate ((dg U a).length+1) 0,0) ⟨O1,O5,Nh _ Qa,O1,by simp [Yq]⟩ K2 K1 ?_;rintro⟨k,o,c⟩ ⟨D,m,e,B,f⟩;dsimp only at D m e B f;dsimp only;refine go 6 ?_;refine Zd J (λh=>?_) (λh=>?_)
  .refine go 15 ?_;refine jn (G:=Unit) [0,1,5,6,7,21,22] [0,3,91,92,1,2] (λ_=>[(8,.int .u64 ((dg U b).getD k 0:Int))]) (λ_=>[]) (λ_=>True) ?_ ?_
   .refine go 8 ?_;refine Zd J (λj=>?_) (λj=>?_)
    .refine go 7 ⟨O2,O2,?_⟩
     try (have t:(dg U b).getD k 0=0:=by simp [List.getD,bE (by omega:(dg U b).length<=k)])
     exact Po () aA ⟨by first|rfl|(rw [t];rfl),aA⟩ aA
    .refine go 1 ?_
     try (have t:(dg U b).getD k 0=0:=by simp [List.getD,bE (by omega:(dg U b).length<=k)])
     exact Po () aA ⟨by first|rfl|(rw [t];rfl),aA⟩ aA
   .rintro _ -;refine go 9 ⟨O2,O2,?_⟩;refine dt (Zq8 J J J J O Zic)<|go 4 ⟨O2,?_⟩;refine tt (Ka (i:=3) (enc:=Mv) _ J J J J J J pU J s.h O3 O2) (λ_ _=>?_);refine go 8 ⟨O,?_⟩;exact Yp (k+1,_,_) ⟨O1,O8,Lz e _ _ (bO _ Qa),by have F:=Xu Qa (Nt Xv a) k;have H:=Xu Qa (Nt Xv b) k;simp only [U]at *;omega,Yk6 f O⟩ O1 K2 K1
  .refine go 6 ?_;obtain rfl:k=(dg U a).length:=O;refine go 6 ⟨O2,?_⟩;refine tt (Ka (i:=3) (enc:=Mv) _ J J J J J J pU J s.h O3 O2) λ_ _=>go 5 ?_;refine cl 3 [3] (Oo _ _) λ_ _=>?_;refine Xy (Zay 3 J J pU)<|go 4 ?_;have z:tz (o.set (dg U a).length c)=dg U (x+y):=by
    rw [<-Kt Xv _ (Lz e _ _ (by simp only [U];omega)),<-hs];congr 1
    conv=>rhs;rw [<-Mm Xv a,<-Mm Xv b]
    rw [bK (aH (dg U a).length),Mj U (dg U b) _ u]at f;rw [<-f,<-Cz U o _ c O,Mj _ _ _ O8]
   exact Xd p _ results222 J aA (gow 3 Za z)
def Zgb(v w:Value)(x y:Nat)(t:bl x<=4294967296)(l:y<=x:=by omega):Cal prog 224 #[v,w] [Ey v x,Ey w y] false (G:=Value) (λr=>True) (λr=>r) (λr=>[Ey r (x-y)]):=by
 refine Zh func224 ntmps224 λM I s h=>?_;have D:=Ml x;have F:=Ml y;have H:=Oi l;refine go 9 ?_;refine tt (Iy (i:=3) (n:=(dg U x).length) (by_:=8) (enc:=Mv) 0 J J J J Oj ti232 J pU.cells pU.pos J J J s.h) λv _=>go 17 ?_;refine lp (G:=Nat×List Nat×Nat) [0,1,5,13] [0,1,2] (λq=>[(14,.int .i64 (q.1:Int)),(6,.int .u64 (q.2.2:Int))]) (λq=>[(3,On 1 232 Mv v q.2.1)]) (λq=>(q.1<=(dg U x).length)/\(q.2.1.length=(dg U x).length)/\(∀d∈q.2.1,d<U)/\(q.2.2<=1)/\(Yq U (q.2.1.take q.1)+Yq U ((dg U y).take q.1)=Yq U ((dg U x).take q.1)+q.2.2*U^q.1)) (λq=>(dg U x).length-q.1) (0,List.replicate ((dg U x).length) 0,0) ⟨O1,O5,Nh _ Qa,O1,by simp [Yq]⟩ K2 K1 ?_;rintro⟨k,o,c⟩ ⟨B,b,a,p,j⟩;dsimp only at B b a p j;dsimp only;refine go 6 ?_;refine Zd J (λe=>?_) (λe=>?_)
 .refine go 15 ?_;refine jn (G:=Unit) [0,1,5,6,7,13,14] [0,3,1,2] (λ_=>[(8,.int .u64 ((dg U y).getD k 0:Int))]) (λ_=>[]) (λ_=>True) ?_ ?_
  .refine go 8 ?_;refine Zd J (λf=>?_) (λf=>?_)
   .refine go 7 ⟨O2,O2,?_⟩
    try (have m:(dg U y).getD k 0=0:=by simp [List.getD,bE (by omega:(dg U y).length<=k)])
    exact Po () aA ⟨by first|rfl|(rw [m];rfl),aA⟩ aA
   .refine go 1 ?_
    try (have m:(dg U y).getD k 0=0:=by simp [List.getD,bE (by omega:(dg U y).length<=k)])
    exact Po () aA ⟨by first|rfl|(rw [m];rfl),aA⟩ aA
  .rintro _ -;refine go 9 ⟨O2,O2,?_⟩;refine dt (Yod J J J J O Ycl)<|go 4 ⟨O2,?_⟩;refine tt (Ka (i:=3) (enc:=Mv) _ J J J J J J pU J s.h O3 O2) (λ_ _=>?_);refine go 8 ⟨O,?_⟩;exact Yp (k+1,_,_) ⟨O1,O8,Lz a _ _ (bO _ Qa),Ykq _ _ _,Ye5 p (Xu Qa (Nt Xv x) k) (Xu Qa (Nt Xv y) k) j O⟩ O1 K2 K1
 .refine go 8 ?_;refine cl 3 [3] (Oo _ _) λ_ _=>?_;refine Xy (Zay 3 J J pU)<|go 4 ?_;obtain rfl:k=(dg U x).length:=O;have t:tz o=dg U (x-y):=by rw [<-Kt Xv _ a];congr 1;have g:(dg U y).length<=(dg U x).length:=O;rw [Mj U o _ O,Mj U (dg U y) _ g,Mj U (dg U x) _ (aH _),Mm Xv,Mm Xv]at j;have z:=Zhc Qa o a;rw [b]at z;have u:c=0\/c=1:=O;rcases u with rfl|rfl<;>omega
  exact Xd h _ results224 J aA (gow 3 Za t)
def Zcy(v w:Value)(x y:Nat)(q:bl x<=4294967296)(s:bl y<=4294967296):Cal prog 223 #[v,w] [Ey v x,Ey w y] false (G:=Int) (λr=>(r<0↔x<y)/\(0<r↔y<x)) (λr=> .int .i64 r) (λr=>[]):=by
 refine Zh func223 ntmps223 λu t p a=>?_;have m:=Ml x;have n:=Ml y;refine go 15 ?_;refine Zd J (λe=>?_) (λe=>?_)
 .refine go 12 ⟨O,?_⟩;exact Xd a _ results223 J ⟨⟨λh=>Za9 Xv O,λh=>by have:=Oi (dX h);omega⟩,⟨λh=>Za9 Xv O,λh=>by have:=Oi (dX h);omega⟩⟩ Za
 .have c:(dg U x).length=(dg U y).length:=O;refine go 12 ⟨O,?_⟩;refine lp (G:=Nat) [0,1] [0,1,2] (λk=>[(5,.int .i64 ((k:Int)-1))]) (λk=>[]) (λk=>(k<=(dg U x).length)/\((dg U x).drop k=(dg U y).drop k)) (λk=>k) (dg U x).length ⟨O1,by rw [iJ,c,iJ]⟩ K1 aA ?_;rintro k ⟨o,d⟩;refine go 7 ?_;refine Zd J (λf=>?_) (λf=>?_)
  .refine go 6 ?_;refine Qg (λ_=>False) [(0,0),(1,0),(2,0),(3,0),(4,0),(5,0),(6,0),(7,0),(8,0),(9,0)]<|go 2 ?_;refine Xe J J (Xt (Zv (ii:=1) (i:=k-1) J J J J Zq Oj Ku))<|go 3 ⟨O2,?_⟩;refine Xe J J (Xt (Zv (ii:=2) (i:=k-1) J J J J Zq Oj Ku))<|go 5 ⟨O2,?_⟩;refine Zd J (λg=>?_) (λg=>?_)
   .refine go 12 ?_;have b:=Zrf Qa (xs:=dg U x) (ys:=dg U y) (Nt Xv x) (k:=k-1) O O (by rw [show k-1+1=k by omega];exact d) O;rw [Mm Xv,Mm Xv]at b;exact Xd a (-1) results223 J O Za
   .refine go 1 ?_;refine Qg (λ_=>False) [(0,0),(1,0),(2,0),(3,0),(4,0),(5,0),(6,0),(7,0),(8,0),(9,0)]<|go 2 ?_;refine Xe J J (Xt (Zv (ii:=1) (i:=k-1) J J J J Zq Oj Ku))<|go 3 ⟨O2,?_⟩;refine Xe J J (Xt (Zv (ii:=2) (i:=k-1) J J J J Zq Oj Ku))<|go 5 ⟨O2,?_⟩;refine Zd J (λj=>?_) (λj=>?_)
    .refine go 12 ?_;have b:=Zrf Qa (xs:=dg U y) (ys:=dg U x) (Nt Xv y) (k:=k-1) O O (by rw [show k-1+1=k by omega];exact d.symm) O;rw [Mm Xv,Mm Xv]at b;exact Xd a 1 results223 J O Za
    .refine go 9 ⟨O,?_⟩;exact Yp (k-1) ⟨O1,by have:=Zgt (xs:=dg U x) (ys:=dg U y) (k:=k-1) O O (by rw [show k-1+1=k by omega];exact d) O;exact this⟩ O1 ⟨by rw [show(((k-1:Nat):Int)-1)=(k:Int)-1-1 by omega];rfl,aA⟩ aA
  .refine go 11 ?_;obtain rfl:k=0:=O;have l:x=y:=(Zh5 Xv).1 (by simpa using d);exact Xd a 0 results223 J O Za
def Yku(x y:Nat)(b:x<U)(c:y<U):Xs prog 268 #[.int .u64 (x:Int),.int .u64 (y:Int)] [] (.tuple #[.int .u64 ((x*y/U:Nat):Int),.int .u64 ((x*y%U:Nat):Int)]):=by refine Zh func268 ntmps268 λf e d a=>?_;simp only [U]at b c;refine go 9 ?_;refine dt (Zr9 J J J b)<|go 6 ?_;refine dt (Fz (n:=32) (n':=4294967296) J J J J J)<|go 6 ?_;refine dt (Zr9 J J J c)<|go 6 ?_;refine dt (Fz (n:=32) (n':=4294967296) J J J J J)<|go 7 ?_;refine dt (Cu J J J)<|go 7 ?_;refine dt (Cu J J J)<|go 1 ?_;refine dt (Fz (n:=32) (n':=4294967296) J J J J J)<|dt (Bv J J J)<|go 6 ?_;refine dt (Zr9 J J J (bO _ Qa))<|go 6 ?_;refine dt (Fz (n:=32) (n':=4294967296) J J J J J)<|go 8 ?_;refine dt (Cu J J J)<|dt (Bv J J J)<|go 7 ?_;refine dt (Cu J J J)<|go 1 ?_;refine dt (Bv J J J)<|go 1 ?_;refine dt (Fz (n:=32) (n':=4294967296) J J J J J)<|dt (Bv J J J)<|go 7 ?_;refine dt (Cu J J J)<|go 4 ?_;exact Mi a () results268 (by rw [Yhy b c _ _ rfl rfl]) aA Za
def Zzw(v w:Value)(x y:Nat)(H:bl x<=4294967296)(Q:bl y<=4294967296):Cal prog 220 #[v,w] [Ey v x,Ey w y] false (G:=Value) (λr=>True) (λr=>r) (λr=>[Ey r (x*y)]):=by
 refine Zh func220 ntmps220 λS R D B=>?_;have N:=Ml x;have P:=Ml y;refine go 12 ⟨O,?_⟩;refine tt (Iy (i:=3) (n:=(dg U x).length+(dg U y).length) (by_:=8) (enc:=Mv) 0 J J J J Oj ti232 J pU.cells pU.pos J J J D.h) λv _=>go 12 ?_;refine lp (G:=Nat×List Nat) [1,5,20,21] [0,1,2] (λq=>[(22,.int .i64 (q.1:Int))]) (λq=>[(3,On 1 232 Mv v q.2)]) (λq=>(q.1<=(dg U x).length)/\(q.2.length=(dg U x).length+(dg U y).length)/\(∀d∈q.2,d<U)/\(∀j,q.1+(dg U y).length<=j->q.2.getD j 0=0)/\(Yq U (q.2.take (q.1+(dg U y).length))=Yq U ((dg U x).take q.1)*y)) (λq=>(dg U x).length-q.1) (0,List.replicate ((dg U x).length+(dg U y).length) 0) ⟨O1,O5,Nh _ Qa,λj _=>Ih _ j,by simp [Yq,nI,Gn]⟩ K1 K1 ?_;rintro⟨i,o⟩ ⟨hi,t,g,I,u⟩;dsimp only at hi t g I u;dsimp only;refine go 6 ?_;refine Zd J (λm=>?_) (λm=>?_)
 .refine go 27 ⟨O2,O2,?_⟩;refine lp (G:=Nat×List Nat×Nat) [1,5,6,7,20,21,22,27,28] [0,1,2] (λq=>[(29,.int .i64 (q.1:Int)),(8,.int .u64 (q.2.2:Int))]) (λq=>[(3,On 1 232 Mv v q.2.1)]) (λq=>(q.1<=(dg U y).length)/\(q.2.1.length=(dg U x).length+(dg U y).length)/\(∀d∈q.2.1,d<U)/\(∀j,i+(dg U y).length<=j->q.2.1.getD j 0=0)/\(q.2.2<U)/\(Yq U (q.2.1.take (i+(dg U y).length))+q.2.2*U^(i+q.1)=Yq U ((dg U x).take i)*y+(dg U x).getD i 0*U^i*Yq U ((dg U y).take q.1))) (λq=>(dg U y).length-q.1) (0,o,0) ⟨O1,t,g,I,Qa,by rw [u];simp [Yq]⟩ K2 K1 ?_;rintro⟨k,p,c⟩ ⟨M,z,a,l,f,h⟩;dsimp only at M z a l f h;dsimp only;have b:=Ydg (Xu Qa (Nt Xv x) i) (Xu Qa (Nt Xv y) k) (Xu Qa a (i+k)) f;refine go 6 ?_;refine Zd J (λs=>?_) (λs=>?_)
  .refine go 17 ⟨O2,O2,?_⟩;refine cl 3 [] (Yku _ _ (Xu Qa (Nt Xv _) _) (Xu Qa (Nt Xv _) _)) λ_ _=>?_;refine go 14 ⟨O,?_⟩;refine dt (Zv (ii:=3) (i:=i+k) J J J J (Yd pU) Oj Ku)<|go 1 ⟨O2,?_⟩;refine dt (Zq8 (c:=0) J J J J O Zic)<|go 11 ?_;refine dt (Bv J J J)<|go 7 ?_;refine dt (Zq8 (c:=0) J J J J O Zic)<|go 15 ⟨O,?_⟩;refine dt (Bv J J J)<|dt (Zv (ii:=3) (i:=i+k) J J J J (Yd pU) Oj Ku)<|tt (Ka (i:=3) (enc:=Mv) _ J J J J J J pU J D.h O3 O2) (λ_ _=>?_);refine go 8 ⟨O,?_⟩;exact Yp (k+1,_,_) ⟨O1,O8,Lz a _ _ (bO _ Qa),λj F=>by rw [Nb _ _ _ _ _ O,aD O];exact l j F,b.2,Yhx h O O b.1⟩ O1 K2 K1
  .refine go 5 ?_;obtain rfl:k=(dg U y).length:=O;have e:=h;rw [bK (aH (dg U y).length),Mm Xv]at e;refine go 7 ⟨O,?_⟩;refine dt (Zv (ii:=3) (i:=i+(dg U y).length) J J J J (Yd pU) Oj Ku)<|tt (Ka (i:=3) (enc:=Mv) _ J J J J J J pU J D.h O3 O2) (λ_ _=>?_);refine go 7 ⟨O,?_⟩;exact Yp (i+1,_) ⟨O1,O8,Lz a _ _ f,λj F=>by rw [Nb _ _ _ _ _ O,aD O];exact l j O,by dsimp only;rw [show i+1+(dg U y).length=i+(dg U y).length+1 by omega,Cz _ _ _ _ O,Qo,bF,<-e]⟩ O1 K1 K1
 .refine go 8 ?_;refine cl 3 [3] (Oo _ _) λ_ _=>?_;refine Xy (Zay 3 J J pU)<|go 4 ?_;obtain rfl:i=(dg U x).length:=O;have H:tz o=dg U (x*y):=by rw [<-Kt Xv _ g];congr 1;rw [Mj U o _ O,bK (aH _),Mm Xv]at u;exact u
  exact Xd B _ results220 J aA (gow 3 Za H)
set_option maxHeartbeats 1000000 in
def Zvf(x:Nat)(q:x<U):Xs prog 251 #[.int .u64 (x:Int)] [] (.int .i64 (bl x:Int)):=by
 refine Zh func251 ntmps251 λz y w g=>?_;simp only [U]at q;have c:=Gb x 32;have a:=Gb x 16;have l:=Gb x 8;have b:=Gb x 24;have d:=Gb x 40;have e:=Gb x 48;have f:=Gb x 56;have f32:=Zcd 32 x;have f16:=Zcd 16 x;have f8:=Zcd 8 x;have f24:=Zcd 24 x;have f40:=Zcd 40 x;have f48:=Zcd 48 x;have f56:=Zcd 56 x;have r:=aU x (2^32) (2^16);have s:=aU x (2^32) (2^8);have t:=aU x (2^16) (2^8);have u:=aU (x/2^32) (2^16) (2^8);have v:=aU x (2^32) (2^16*2^8);simp only [Nat.reducePow,Nat.reduceMul]at *;refine go 12 ?_;refine Zd J (λm=>?_) (λm=>?_)
 .refine go 3 ?_;refine dt (Fz (n:=32) (n':=4294967296) J J J J J)<|go 14 ?_;refine Zd J (λo=>?_) (λo=>?_)
  .refine go 3 ?_;refine dt (Fz (n:=16) (n':=65536) J J J J J)<|go 16 ⟨O,?_⟩;refine Zd J (λp=>?_) (λp=>?_)
   .refine go 3 ?_;refine dt (Fz (n:=8) (n':=256) J J J J J)<|go 13 ⟨O,?_⟩;refine dt (Zet J J Zat uT5)<|dt (Ziw J J J uT9 J O O3 O6)<|dt (Zb5 J J uT5 uT3 (Zaf _))<|go 5 ⟨Cl _ O O,?_⟩;exact Xd g () results251 (Zae (n:=x) O (by first|omega|(simp only [aU,Nat.reduceMul,c,a,l,b,d,e,f];omega))).symm aA Za
   .refine go 6 ?_;refine dt (Zet J J Zat uT5)<|dt (Ziw J J J uT9 J O O3 O6)<|dt (Zb5 J J uT5 uT3 (Zaf _))<|go 5 ⟨Cl _ O O,?_⟩;exact Xd g () results251 (Zae (n:=x) O (by first|omega|(simp only [aU,Nat.reduceMul,c,a,l,b,d,e,f];omega))).symm aA Za
  .refine go 9 ?_;refine Zd J (λi=>?_) (λi=>?_)
   .refine go 3 ?_;refine dt (Fz (n:=8) (n':=256) J J J J J)<|go 13 ⟨O,?_⟩;refine dt (Zet J J Zat uT5)<|dt (Ziw J J J uT9 J O O3 O6)<|dt (Zb5 J J uT5 uT3 (Zaf _))<|go 5 ⟨Cl _ O O,?_⟩;exact Xd g () results251 (Zae (n:=x) O (by first|omega|(simp only [aU,Nat.reduceMul,c,a,l,b,d,e,f];omega))).symm aA Za
   .refine go 6 ?_;refine dt (Zet J J Zat uT5)<|dt (Ziw J J J uT9 J O O3 O6)<|dt (Zb5 J J uT5 uT3 (Zaf _))<|go 5 ⟨Cl _ O O,?_⟩;exact Xd g () results251 (Zae (n:=x) O (by first|omega|(simp only [aU,Nat.reduceMul,c,a,l,b,d,e,f];omega))).symm aA Za
 .refine go 9 ?_;refine Zd J (λh=>?_) (λh=>?_)
  .refine go 3 ?_;refine dt (Fz (n:=16) (n':=65536) J J J J J)<|go 16 ⟨O,?_⟩;refine Zd J (λj=>?_) (λj=>?_)
   .refine go 3 ?_;refine dt (Fz (n:=8) (n':=256) J J J J J)<|go 13 ⟨O,?_⟩;refine dt (Zet J J Zat uT5)<|dt (Ziw J J J uT9 J O O3 O6)<|dt (Zb5 J J uT5 uT3 (Zaf _))<|go 5 ⟨Cl _ O O,?_⟩;exact Xd g () results251 (Zae (n:=x) O (by first|omega|(simp only [aU,Nat.reduceMul,c,a,l,b,d,e,f];omega))).symm aA Za
   .refine go 6 ?_;refine dt (Zet J J Zat uT5)<|dt (Ziw J J J uT9 J O O3 O6)<|dt (Zb5 J J uT5 uT3 (Zaf _))<|go 5 ⟨Cl _ O O,?_⟩;exact Xd g () results251 (Zae (n:=x) O (by first|omega|(simp only [aU,Nat.reduceMul,c,a,l,b,d,e,f];omega))).symm aA Za
  .refine go 9 ?_;refine Zd J (λk=>?_) (λk=>?_)
   .refine go 3 ?_;refine dt (Fz (n:=8) (n':=256) J J J J J)<|go 13 ⟨O,?_⟩;refine dt (Zet J J Zat uT5)<|dt (Ziw J J J uT9 J O O3 O6)<|dt (Zb5 J J uT5 uT3 (Zaf _))<|go 5 ⟨Cl _ O O,?_⟩;exact Xd g () results251 (Zae (n:=x) O (by first|omega|(simp only [aU,Nat.reduceMul,c,a,l,b,d,e,f];omega))).symm aA Za
   .refine go 6 ?_;refine dt (Zet J J Zat uT5)<|dt (Ziw J J J uT9 J O O3 O6)<|dt (Zb5 J J uT5 uT3 (Zaf _))<|go 5 ⟨Cl _ O O,?_⟩;exact Xd g () results251 (Zae (n:=x) O (by first|omega|(simp only [aU,Nat.reduceMul,c,a,l,b,d,e,f];omega))).symm aA Za
def Zru(x:Nat)(b:x<U):Xs prog 272 #[.int .u64 (x:Int)] [] (.int .i64 ((64-bl x:Nat):Int)):=by refine Zh func272 ntmps272 λf e d a=>?_;have c:bl x<=64:=(Qm 64 x).2 b;refine go 8 ?_;refine cl 0 [] (Zvf _ b) λ_ _=>?_;refine go 5 ⟨O,?_⟩;exact Xd a () results272 (by congr 1;omega) aA Za
def Zlh(v:Value)(x:Nat)(g:bl x<=1099511627776:=by omega):Xs prog 232 #[v] [Ey v x] (.int .i64 (bl x:Int)):=by
 refine Zh func232 ntmps232 λk j f b=>?_;have e:=Ml x;refine go 13 ?_;refine Zd J (λa=>?_) (λa=>?_)
 .refine go 7 ?_;have c:x=0:=(Ok Xv x).1 O;exact Xd b () results232 (by rw [c];rfl) aA Za
 .have d:0<x:=by rcases aV x with rfl|h;(simp [Gi]at a);exact h
  obtain⟨l,m,n,o⟩:=Zym d;refine go 11 ⟨O,O,?_⟩;refine dt (Zv (ii:=1) (i:=(dg U x).length-1) J J J J Zq Oj Ku)<|go 1 ⟨O2,?_⟩;refine cl 1 [] (Zru _ (Xu Qa (Nt Xv _) _)) λ_ _=>?_;refine go 5 ⟨O,?_⟩;exact Xd b () results232 (by congr 1;omega) aA Za
def Yd8(v:Value)(xs:List Nat)(g:xs.length*8<=140737488355328):Ypo prog 309 #[v] [Yw 1 Mv v xs] (G:=Value) (λr=>True) (λr=>r) (λr=>On 1 232 Mv r xs):=by
 refine Ybt func309 J ntmps309 J K1 ?_;intro k h d e;have d:=Hw.mk d;simp only [Oh,Qt];refine Pv (f_nil (i:=1) J Zq) λc=>go 9 ?_;refine dt (Ya6 J J J (i:=1) J Zq Oj)<|go 2 ?_;refine Lj J (λb=>?_) (λb=>?_)
 .refine go 7 ?_;obtain rfl:xs=[]:=c (by simpa using b);exact Zr (Qr 9 1 232 Mv)<|Zox (.inl J) (.slice none 0 0) _ (λa w hs=>Zed hs results309 J) J aA J 9 J J J
 .refine go 4 ?_;refine tt (t_bs0 (i:=2) (enc:=Mv) J J J Oj pU J d.h) λv _=>go 1 ?_;refine tt (Oc (i:=2) (j:=1) (by_:=8) J J J J J J O3 J Zq Oj ti232 J pU J J J O8 O3 J d.h) λf _=>go 4 ?_;exact Zox (.inl J) _ _ (λa w hs=>Zed hs results309 J) J aA J 2 J (by rfl) J
set_option maxHeartbeats 1600000 in
def Zvg(h l y:Nat)(hl:l<U)(hy:y<U)(hh:h<y):Xs prog 294 #[.int .u64 (h:Int),.int .u64 (l:Int),.int .u64 (y:Int)] [] (.tuple #[.int .u64 (((h*U+l)/y:Nat):Int),.int .u64 (((h*U+l)%y:Nat):Int)]):=by
 refine Zh func294 ntmps294 λw0 sc hw a8=>?_;have c0:U=18446744073709551616:=rfl;have hp:0<y:=O;have c1:bl y<=64:=(Qm 64 y).2 hy;obtain⟨s,hs⟩:∃s,s=64-bl y:=⟨_,rfl⟩;obtain⟨Y,i⟩:∃Y,Y=y*2^s:=⟨_,rfl⟩;obtain⟨b6,S⟩:=Yhs hp hy hs;rw [<-i]at b6 S;have V:=S;obtain⟨D,hD⟩:∃D,D=(h*U+l)*2^s:=⟨_,rfl⟩;obtain⟨u,Z⟩:∃u,u=D/U:=⟨_,rfl⟩;obtain⟨v,a0⟩:∃v,v=D%U:=⟨_,rfl⟩;obtain⟨v1,Q⟩:∃x,x=v/4294967296:=⟨_,rfl⟩;obtain⟨v0,P⟩:∃x,x=v%4294967296:=⟨_,rfl⟩;obtain⟨e,b1⟩:∃x,x=Y/4294967296:=⟨_,rfl⟩;obtain⟨N,a9⟩:∃x,x=Y%4294967296:=⟨_,rfl⟩;have f:Y=e*4294967296+N:=O;have b7:=shl_lt hh (show y*2^s<U by rw [<-i];exact S);have c3:u<Y:=by rw [Z,hD,i];exact top_lt hl hh
 have hu:u<e*4294967296+N:=O;have c4:v<U:=by rw [a0];exact bO _ Qa
 have b0:2147483648<=e:=O;have j:e<4294967296:=O;have g:N<4294967296:=O;have M:v1<4294967296:=O;have I:v0<4294967296:=O;obtain⟨Q1,o⟩:∃x,x=(u*4294967296+v1)/Y:=⟨_,rfl⟩;obtain⟨t,H⟩:∃x,x=(u*4294967296+v1)%Y:=⟨_,rfl⟩;have c2:t<Y:=by rw [H];exact bO _ O
 have ht:t<e*4294967296+N:=O;obtain⟨Q0,m⟩:∃x,x=(t*4294967296+v0)/Y:=⟨_,rfl⟩;have R:0<Y:=O;obtain⟨a6,a7⟩:=dv_two (D:=D) R Z a0 Q P;rw [<-o,<-H,<-m]at a6;rw [<-H]at a7;have b8:Q0<4294967296:=by rw [m,f];exact dv_Q I ht
 have b9:Q1<4294967296:=by rw [o,f];exact dv_Q M hu
 refine go 13 ?_;refine Zd J (λa1=>?_) (λa1=>?_)
 .exfalso;omega
 .refine go 10 ?_;refine Zd J (λa2=>?_) (λa2=>?_)
  .exfalso;omega
  .refine go 9 ?_;refine Zd J (λa3=>?_) (λa3=>?_)
   .refine go 1 ?_;refine Qg (λ_=>False) [(0,0),(1,0),(2,0),(3,0),(4,0),(5,0),(6,0),(7,3)]<|go 2 ?_;refine Xe J J (Xt (Yer J J J))<|go 2 ?_;refine Xe J J (Xt (u_rem J J J O))<|go 6 ?_;exact Mi a8 () results294 (by have h0:h=0:=O;rw [h0];simp) aA Za
   .refine go 5 ?_;refine cl 0 [] (Zru _ hy) λ_ _=>?_;refine dt (Zxj J J uT3 underlying230 (by simp only [U];omega))<|go 4 ?_;refine Zg (Kb 8 (v':= .int .u64 (s:Int)) J (by rw [hs]))<|go 3 ?_;refine dt (Znk J J J J)<|go 4 ?_;refine Zg (Kb 2 (v':= .int .u64 (Y:Int)) J (by rw [i,aW (by rw [<-i];exact V)]))<|go 2 ?_;refine dt (Fz (n:=32) (n':=4294967296) J J J J J)<|go 6 ?_;refine dt (Zr9 J J J)<|go 7 ?_;refine dt (Znk J J J J)<|go 2 ?_;refine dt (Zeh J J J (by first|exact bO _ Qa|omega))<|dt (Znj J J (n:=64-s) J (by simp only [U];omega))<|dt (Ylp J J J (bO _ Qa) (aZ (eH _ _) hl))<|go 4 ?_;refine Zg (Kb 11 (v':= .int .u64 (u:Int)) J (by rw [Z,hD,Yhg O b7 hl]))<|go 3 ?_;refine dt (Znk J J J J)<|go 4 ?_;refine Zg (Kb 12 (v':= .int .u64 (v:Int)) J (by rw [a0,hD,Ydi h l s]))<|go 2 ?_;refine dt (Fz (n:=32) (n':=4294967296) J J J J J)<|go 4 ?_;refine Zg (Kb 13 (v':= .int .u64 (v1:Int)) J (by rw [Q]))<|go 2 ?_;refine dt (Zr9 J J J)<|go 4 ?_;refine Zg (Kb 14 (v':= .int .u64 (v0:Int)) J (by rw [Zvj,P]))<|Zg (Kb 9 (v':= .int .u64 (e:Int)) J (by rw [b1]))<|Zg (Kb 10 (v':= .int .u64 (N:Int)) J (by rw [Zvj,a9]))<|go 3 ?_;refine dt (Yer J J J)<|go 8 ?_;refine dt (Cu J J J)<|dt (Zeh J J J (by first|exact bO _ Qa|omega))<|go 3 ?_;refine jn (G:=Unit) [2,8,9,10,11,13,14] [0] (λ_=>[(15,.int .u64 ((Q1:Nat):Int))]) (λ_=>[]) (λ_=>True) ?_ ?_
    .refine go 1 ?_;refine Zg (Kb 16 (v':= .int .u64 ((u%e:Nat):Int)) J (by rw [rsub O O]))<|lp (G:=Nat×Nat) [2,8,9,10,11,13,14] [0] (λq=>[(15,.int .u64 (q.1:Int)),(16,.int .u64 (q.2:Int))]) (λq=>[]) (λq=>(dvI u v1 e N q.1 q.2)/\(q.2<4294967296)) (λq=>q.1) (u/e,u%e) ⟨dv0 b0 j g M hu,jM (bO _ O) j⟩ K2 aA ?_;rintro⟨a,r⟩ ⟨k,hr⟩;dsimp only at k hr;dsimp only;have b4:=k.1;have b5:=k.2.1;refine go 6 ?_;refine Yt (d:=69) J (λb2=>?_) (λb2=>?_)
     .refine go 16 ?_;have b:=Zjx O k M hu O;have c:=b.1;refine go 2 ?_;refine dt (Zeh (n:=1) J J J)<|go 4 ?_;refine Zg (Kb 15 (v':= .int .u64 ((a-1:Nat):Int)) J (Zbl (Zuw c O)))<|go 3 ?_;refine dt (Bv J J J)<|go 4 ?_;refine Zg (Kb 16 (v':= .int .u64 ((r+e:Nat):Int)) J (Zbl (aW O)))<|go 5 ?_;refine Zd J (λa4=>?_) (λa4=>?_)
      .refine go 4 ?_;have z:Q1=a-1:=by rw [o,f];exact(Zgr O g b.2 O O).symm
       exact Po () aA ⟨by rw [z];rfl,aA⟩ aA
      .refine go 2 ?_;exact Yp (a-1,r+e) ⟨b.2,O9⟩ O1 K2 aA
     .have W:=Ztv (show a<4294967296 by omega) g;have e1:=aW (show a*N<U from W);have e2:=aW (show 4294967296*r<U by omega);have e3:=aW (show 4294967296*r+v1<U by omega);refine go 2 ?_;refine Fa (Cu J J J) J J<|go 1 ?_;refine Fa (Cu J J J) J J<|go 1 ?_;refine Fa (Bv J J J) J J<|go 4 ?_;refine Zd J (λp=>?_) (λp=>?_)
      .rw [e1,e2,e3]at p;refine go 4 ?_;have b:=Zjx O k M hu O;have c:=b.1;refine go 2 ?_;refine dt (Zeh (n:=1) J J J)<|go 4 ?_;refine Zg (Kb 15 (v':= .int .u64 ((a-1:Nat):Int)) J (Zbl (Zuw c O)))<|go 3 ?_;refine dt (Bv J J J)<|go 4 ?_;refine Zg (Kb 16 (v':= .int .u64 ((r+e:Nat):Int)) J (Zbl (aW O)))<|go 5 ?_;refine Zd J (λB=>?_) (λB=>?_)
       .refine go 4 ?_;have z:Q1=a-1:=by rw [o,f];exact(Zgr O g b.2 O O).symm
        exact Po () aA ⟨by rw [z];rfl,aA⟩ aA
       .refine go 2 ?_;exact Yp (a-1,r+e) ⟨b.2,O9⟩ O1 K2 aA
      .rw [e1,e2,e3]at p;refine go 4 ?_;have z:Q1=a:=by rw [o,f];exact(Zq6 O k O).symm
       exact Po () aA ⟨by rw [z];rfl,aA⟩ aA
    .rintro _ -;refine go 3 ?_;refine dt (Cu J J J)<|go 1 ?_;refine dt (Bv J J J)<|go 2 ?_;refine dt (Cu J J J)<|dt (Zeh J J J (by first|exact bO _ Qa|omega))<|go 4 ?_;refine Zg (Kb 17 (v':= .int .u64 (t:Int)) J (by rw [H,o,Yav R V]))<|go 3 ?_;refine dt (Yer J J J)<|go 8 ?_;refine dt (Cu J J J)<|dt (Zeh J J J (by first|exact bO _ Qa|omega))<|go 3 ?_;refine jn (G:=Unit) [2,8,14,15,17] [0] (λ_=>[(18,.int .u64 ((Q0:Nat):Int))]) (λ_=>[]) (λ_=>True) ?_ ?_
     .refine go 1 ?_;refine Zg (Kb 16 (v':= .int .u64 ((t%e:Nat):Int)) J (by rw [rsub O O]))<|lp (G:=Nat×Nat) [2,8,9,10,14,15,17] [0] (λq=>[(18,.int .u64 (q.1:Int)),(16,.int .u64 (q.2:Int))]) (λq=>[]) (λq=>(dvI t v0 e N q.1 q.2)/\(q.2<4294967296)) (λq=>q.1) (t/e,t%e) ⟨dv0 b0 j g I ht,jM (bO _ O) j⟩ K2 aA ?_;rintro⟨a,r⟩ ⟨k,hr⟩;dsimp only at k hr;dsimp only;have b4:=k.1;have b5:=k.2.1;refine go 6 ?_;refine Yt (d:=104) J (λb3=>?_) (λb3=>?_)
      .refine go 16 ?_;have b:=Zjx O k I ht O;have c:=b.1;refine go 2 ?_;refine dt (Zeh (n:=1) J J J)<|go 4 ?_;refine Zg (Kb 18 (v':= .int .u64 ((a-1:Nat):Int)) J (Zbl (Zuw c O)))<|go 3 ?_;refine dt (Bv J J J)<|go 4 ?_;refine Zg (Kb 16 (v':= .int .u64 ((r+e:Nat):Int)) J (Zbl (aW O)))<|go 5 ?_;refine Zd J (λa5=>?_) (λa5=>?_)
       .refine go 4 ?_;have z:Q0=a-1:=by rw [m,f];exact(Zgr O g b.2 O O).symm
        exact Po () aA ⟨by rw [z];rfl,aA⟩ aA
       .refine go 2 ?_;exact Yp (a-1,r+e) ⟨b.2,O9⟩ O1 K2 aA
      .have W:=Ztv (show a<4294967296 by omega) g;have e1:=aW (show a*N<U from W);have e2:=aW (show 4294967296*r<U by omega);have e3:=aW (show 4294967296*r+v0<U by omega);refine go 2 ?_;refine Fa (Cu J J J) J J<|go 1 ?_;refine Fa (Cu J J J) J J<|go 1 ?_;refine Fa (Bv J J J) J J<|go 4 ?_;refine Zd J (λw=>?_) (λw=>?_)
       .rw [e1,e2,e3]at w;refine go 4 ?_;have b:=Zjx O k I ht O;have c:=b.1;refine go 2 ?_;refine dt (Zeh (n:=1) J J J)<|go 4 ?_;refine Zg (Kb 18 (v':= .int .u64 ((a-1:Nat):Int)) J (Zbl (Zuw c O)))<|go 3 ?_;refine dt (Bv J J J)<|go 4 ?_;refine Zg (Kb 16 (v':= .int .u64 ((r+e:Nat):Int)) J (Zbl (aW O)))<|go 5 ?_;refine Zd J (λF=>?_) (λF=>?_)
        .refine go 4 ?_;have z:Q0=a-1:=by rw [m,f];exact(Zgr O g b.2 O O).symm
         exact Po () aA ⟨by rw [z];rfl,aA⟩ aA
        .refine go 2 ?_;exact Yp (a-1,r+e) ⟨b.2,O9⟩ O1 K2 aA
       .rw [e1,e2,e3]at w;refine go 4 ?_;have z:Q0=a:=by rw [m,f];exact(Zq6 O k O).symm
        exact Po () aA ⟨by rw [z];rfl,aA⟩ aA
     .rintro _ -;refine go 3 ?_;refine dt (Cu J J J)<|go 1 ?_;refine dt (Bv J J J)<|go 1 ?_;refine dt (Cu J J J)<|go 1 ?_;refine dt (Bv J J J)<|go 2 ?_;refine dt (Cu J J J)<|dt (Zeh J J J (by first|exact bO _ Qa|omega))<|go 1 ?_;refine dt (Znj J J J J)<|go 5 ?_;have hA:(Q1*4294967296%U+Q0)%U=(h*U+l)/y:=by rw [<-Znv _ y s,<-hD,<-i,a6];simp only [U];omega
      have hB:((t*4294967296%U+v0)%U+(U-(Q0*Y)%U))%U/2^s=(h*U+l)%y:=by rw [<-Znu _ y s,<-hD,<-i,a7,m,Yav R V]
      exact Mi a8 () results294 (by rw [hA,hB]) aA Za
def Ydf(v:Value)(x d:Nat)(u:bl x<=8589934592)(f:0<d)(g:d<U):Cal prog 292 #[v,.int .u64 (d:Int)] [Ey v x] false (G:=Value) (λr=>True) (λr=> .tuple #[r,.int .u64 ((x%d:Nat):Int)]) (λr=>[Ey r (x/d)]):=by
 refine Zh func292 ntmps292 λy w l j=>?_;have t:=Ml x;refine go 10 ?_;refine tt (Iy (i:=2) (n:=(dg U x).length) (by_:=8) (enc:=Mv) 0 J J J J Oj ti232 J pU.cells pU.pos J J J l.h) (λv _=>?_);refine go 18 ⟨O,?_⟩;refine lp (G:=Nat×List Nat×Nat) [0,1,6] [0,1] (λq=>[(8,.int .i64 ((q.1:Int)-1)),(7,.int .u64 (q.2.2:Int))]) (λq=>[(2,On 1 232 Mv v q.2.1)]) (λq=>(q.1<=(dg U x).length)/\(q.2.1.length=(dg U x).length)/\(q.2.2<d)/\(∀d∈q.2.1,d<U)/\(Yq U (q.2.1.drop q.1)*d+q.2.2=Yq U ((dg U x).drop q.1))) (λq=>q.1) ((dg U x).length,List.replicate (dg U x).length 0,0) ⟨aH _,O5,O1,Nh _ Qa,by simp [Yq]⟩ K2 K1 ?_;rintro⟨k,o,r⟩ ⟨m,h,c,a,e⟩;dsimp only at m h c a e;dsimp only;refine go 7 ?_;refine Zd J (λb=>?_) (λb=>?_)
 .refine go 10 ?_;refine dt (Zv (ii:=1) (i:=k-1) J J J J Zq Oj Ku)<|go 2 ⟨O2,?_⟩;refine cl 2 [] (Zvg _ _ _ (Xu Qa (Nt Xv _) _) g c) λ_ _=>go 3 ?_;refine dt (Zv (ii:=2) (i:=k-1) J J J J (Yd pU) Oj Ku)<|tt (Ka (i:=2) (enc:=Mv) _ J J J J J J pU J l.h O3 O2) (λ_ _=>?_);refine go 9 ⟨O,?_⟩;exact Yp (k-1,_,_) ⟨O1,O8,bO _ f,Lz a _ _ (Zun (Xu Qa (Nt Xv x) _) c),Zvx f O O (by rw [show k-1+1=k by omega];exact e)⟩ O1 ⟨by rw [show(((k-1:Nat):Int)-1)=(k:Int)-1-1 by omega];rfl,rfl,aA⟩ K1
 .refine go 8 ?_;refine cl 2 [2] (Oo _ _) λ_ _=>?_;refine Xy (Zay 2 J J pU)<|go 6 ?_;obtain rfl:k=0:=O;rw [gO,gO,Mm Xv]at e;have s:tz o=dg U (x/d):=by rw [<-Kt Xv _ a,<-e,aO,gG f,cN c,eF]
  have p:r=x%d:=by rw [<-e,aO,gR,aW c]
  exact Mi j _ results292 (by rw [p]) aA (gow 2 Za s)
def Zp9(v:Value)(x s:Nat)(V:bl x<=4294967296:=by omega)(hs:s<=4294967296:=by omega):Cal prog 293 #[v,.int .i64 (s:Int)] [Ey v x] false (G:=Value) (λr=>True) (λr=>r) (λr=>[Ey r (x*2^s)]):=by
 refine Zh func293 ntmps293 λY W H z=>?_;obtain⟨w,R⟩:∃w,w=s/64:=⟨_,rfl⟩;obtain⟨b,P⟩:∃b,b=s%64:=⟨_,rfl⟩;have S:=Ml x;refine go 13 ?_;refine Zd J (λm=>?_) (λm=>?_)
 .refine go 7 ?_;refine Zr (Qr 9 1 232 Mv) ?_;have I:x=0:=(Ok Xv x).1 O;exact Xd z (.slice none 0 0) results293 J aA (gow 9 Za (by rw [I,gI];rfl))
 .refine go 5 ?_;refine dt (Zes J J J)<|go 1 ?_;refine dt (Zme J J J)<|go 5 ?_;refine Zg (Kb 5 (v':= .int .i64 (w:Int)) J (by congr 1;omega))<|Zg (Kb 6 (v':= .int .i64 (b:Int)) J (by congr 1;omega))<|go 6 ⟨O,O,?_⟩;refine tt (Iy (i:=2) (n:=(dg U x).length+w+1) (by_:=8) (enc:=Mv) 0 J J J J Oj ti232 J pU.cells pU.pos J J J H.h) λv _=>go 12 ?_;refine lp (G:=Nat×List Nat) [5,6,7,23,24] [0,1] (λq=>[(25,.int .i64 (q.1:Int))]) (λq=>[(2,On 1 232 Mv v q.2)]) (λq=>(q.1<=(dg U x).length)/\(q.2.length=(dg U x).length+w+1)/\(q.2.getD (w+q.1) 0<2^b)/\(∀j,w+q.1<j->q.2.getD j 0=0)/\(∀d∈q.2,d<U)/\(Yq U (q.2.take ((dg U x).length+w+1))=Yq U ((dg U x).take q.1)*2^b*U^w)) (λq=>(dg U x).length-q.1) (0,List.replicate ((dg U x).length+w+1) 0) ⟨O1,O5,by rw [Ih];exact dJ b,λj _=>Ih _ j,Nh _ Qa,by rw [nI,Gn];simp [Yq]⟩ K1 K1 ?_;rintro⟨i,o⟩ ⟨hi,y,N,l,a,D⟩;dsimp only at hi y N l a D;dsimp only;have B:i<(dg U x).length->_:=λQ=>Yfq (xs:=dg U x) (show b<=63 by omega) y.symm (show w+i+1<_ by omega) N (l (w+i+1) O) (Xu Qa (Nt Xv x) i) D;refine go 6 ?_;refine Zd J (λp=>?_) (λp=>?_)
  .refine go 14 ⟨O2,O2,?_⟩;have f:=Xu Qa (Nt Xv x) i;refine Qg (λ_=>False) [(0,0),(1,0),(2,0),(3,0),(4,0),(5,0),(6,0),(7,0),(8,0),(9,0),(10,0),(11,3)]<|go 4 ⟨O,?_⟩;refine Xe J J (Xt (Zv (ii:=2) (i:=w+i) J J J J (Yd pU) Oj Ku))<|go 3 ⟨O2,?_⟩;refine Xe J J (Xt (Znk J J (n:=b) J J))<|Xe J J (Xt (Ylp J J J (Xu Qa a _) (bO _ Qa)))<|Xe J J (Xt (Zv (ii:=2) (i:=w+i) J J J J (Yd pU) Oj Ku))<|r3' J (Ka (i:=2) (enc:=Mv) _ J J J J J J pU J H.h O3 O2) λ_ _=>go 8 ?_;refine Zd J (λt=>?_) (λt=>?_)
   .have c:=Lz (Lz a (w+i) (o.getD (w+i) 0 ||| (dg U x).getD i 0*2^b%U) (kA (n:=64) (Xu Qa a _) (bO _ Qa))) (w+i+1) ((dg U x).getD i 0/2^(64-b)) (aZ (eH _ _) f);have g:((o.set (w+i) (o.getD (w+i) 0 ||| (dg U x).getD i 0*2^b%U)).set (w+i+1) ((dg U x).getD i 0/2^(64-b))).getD (w+i+1) 0<2^b:=by rw [Nb _ _ _ _ _ O8,aG rfl];exact Zfe O f
    have k:∀j,w+i+1<j->((o.set (w+i) (o.getD (w+i) 0 ||| (dg U x).getD i 0*2^b%U)).set (w+i+1) ((dg U x).getD i 0/2^(64-b))).getD j 0=0:=λj u=>by rw [Nb _ _ _ _ _ O8,aD O,Nb _ _ _ _ _ O,aD O];exact l j O
    have e:=B O;refine go 9 ⟨O,O,O,?_⟩;refine dt (Znj J J (n:=64-b) J O)<|dt (Zv (ii:=2) (i:=w+i+1) J J J J (Yd pU) Oj Ku O (by simp only [cL];omega))<|tt (Ka (i:=2) (enc:=Mv) _ J J J J J J pU J H.h O3 (by simp only [cL];omega)) (λ_ _=>?_);refine go 7 ⟨O,?_⟩;exact Yp (i+1,_) ⟨O1,O8,by dsimp only;rw [show w+(i+1)=w+i+1 by omega];exact g,λj u=>by have F:w+(i+1)<j:=u;dsimp only;exact k j O,c,e⟩ O1 K1 K1
   .obtain rfl:b=0:=O;have c:=Lz a (w+i) (o.getD (w+i) 0 ||| (dg U x).getD i 0*2^0%U) (kA (n:=64) (Xu Qa a _) (bO _ Qa));have g:(o.set (w+i) (o.getD (w+i) 0 ||| (dg U x).getD i 0*2^0%U)).getD (w+i+1) 0<2^0:=by rw [Nb _ _ _ _ _ O,aD O,l _ O];exact dJ 0
    have k:∀j,w+i+1<j->(o.set (w+i) (o.getD (w+i) 0 ||| (dg U x).getD i 0*2^0%U)).getD j 0=0:=λj u=>by rw [Nb _ _ _ _ _ O,aD O];exact l j O
    have e:=B O;rw [show(dg U x).getD i 0/2^(64-0)=0 from cN f]at e;have h:=Zm7 (o.set (w+i) (o.getD (w+i) 0 ||| (dg U x).getD i 0*2^0%U)) (w+i+1) (by rw [Nb _ _ _ _ _ O,aD O,l _ O]);rw [h]at e;refine go 7 ⟨O,?_⟩;exact Yp (i+1,_) ⟨O1,O8,by dsimp only;rw [show w+(i+1)=w+i+1 by omega];exact g,λj u=>by have F:w+(i+1)<j:=u;dsimp only;exact k j O,c,e⟩ O1 K1 K1
  .refine go 8 ?_;refine cl 2 [2] (Oo _ _) λ_ _=>?_;refine Xy (Zay 2 J J pU)<|go 4 ?_;obtain rfl:i=(dg U x).length:=O;have M:tz o=dg U (x*2^s):=by rw [<-Kt Xv _ a];congr 1;rw [Mj U o _ O,bK (aH _),Mm Xv,Zdi,cT,<-bT,show b+64*w=s by omega]at D;exact D
   exact Xd z _ results293 J aA (gow 2 Za M)
def Yne(v:Value)(x s:Nat)(Q:bl x<=8589934592)(hs:s<=8589934592):Cal prog 295 #[v,.int .i64 (s:Int)] [Ey v x] false (G:=Value) (λr=>True) (λr=>r) (λr=>[Ey r (x/2^s)]):=by
 refine Zh func295 ntmps295 λS R D B=>?_;obtain⟨w,m⟩:∃w,w=s/64:=⟨_,rfl⟩;obtain⟨b,k⟩:∃b,b=s%64:=⟨_,rfl⟩;have P:=Ml x;have M:((dg U x).drop w).length=(dg U x).length-w:=dZ;refine go 8 ?_;refine dt (Zes J J J)<|go 1 ?_;refine dt (Zme J J J)<|go 6 ?_;refine Zg (Kb 5 (v':= .int .i64 (w:Int)) J (by congr 1;omega))<|Zg (Kb 6 (v':= .int .i64 (b:Int)) J (by congr 1;omega))<|go 7 ?_;refine Zd J (λu=>?_) (λu=>?_)
 .refine go 7 ?_;refine Zr (Qr 9 1 232 Mv) ?_;have F:x/2^s=0:=by rw [Zaw m k,cN ((Xm Xv w x).1 O),Nat.zero_div]
  exact Xd B (.slice none 0 0) results295 J aA (gow 9 Za (by rw [F];rfl))
 .refine go 6 ?_;refine dt (d_suf (ii:=1) (i:=w) J J J J Zq Oj Ku O O)<|Xy (s_suf 1 2 (w) J J O)<|tt (Zo4 (n:=3) (Yd8 _ _ (by simp only [dZ];omega)) J J J K1 call309 (Zm 2 J J J Zo) J D.h) λv _=>go 3 ?_;refine jn (G:=List Nat) [7] [0,1,2] (λo=>[]) (λo=>[(3,On 1 232 Mv v o)]) (λo=>(o.length=(dg U x).length-w)/\(∀j,j<o.length->o.getD j 0=x/2^s/U^j%U)) ?_ ?_
  .refine go 6 ?_;refine Zd J (λy=>?_) (λy=>?_)
   .refine go 8 ?_;refine lp (G:=Nat×List Nat) [0,5,6,7,24] [0,1,2] (λq=>[(25,.int .i64 (q.1:Int))]) (λq=>[(3,On 1 232 Mv v q.2)]) (λq=>(q.1<=(dg U x).length-w)/\(q.2.length=(dg U x).length-w)/\(∀j,j<q.1->q.2.getD j 0=x/2^s/U^j%U)/\(∀j,q.1<=j->q.2.getD j 0=x/U^w/U^j%U)/\(∀d∈q.2,d<U)) (λq=>(dg U x).length-w-q.1) (0,(dg U x).drop w) ⟨bD _,O5,λj f=>absurd f (cI j),λj _=>Yay x w j,λd I=>Nt Xv x d (kL I)⟩ K1 K1 ?_;rintro⟨i,o⟩ ⟨hi,t,p,l,a⟩;dsimp only at hi t p l a;dsimp only;refine go 6 ?_;refine Zd J (λz=>?_) (λz=>?_)
    .refine go 17 ⟨O2,O2,?_⟩;refine dt (Znj J J (n:=b) J J)<|go 1 ⟨O2,?_⟩;refine tt (Ka (i:=3) (enc:=Mv) _ J J J J J J pU J D.h O3 O2) (λ_ _=>?_);refine go 11 ⟨O,?_⟩;refine Zd J (λg=>?_) (λg=>?_)
     .simp only [cL]at g;have c:∀j,((o.set i (o.getD i 0/2^b)).set i ((o.set i (o.getD i 0/2^b)).getD i 0 ||| ((dg U x).getD (w+i+1) 0*2^(64-b))%U)).getD j 0=if i=j then x/2^s/U^i%U else o.getD j 0:=λj=>by
       rw [Nb _ _ _ _ _ O8,Nb _ _ _ _ _ O,Nb _ _ _ _ _ O];split
       .rw [aG rfl,l i (aH _),He Xv,Zaw m k,Zuq,show x/U^(w+i+1)=x/U^w/U^i/U by rw [aU,aU,<-bW,<-bT];rfl,Zso _ _ O]
       .rfl
      have h:=Lz (Lz a i (o.getD i 0/2^b) (aZ (eH _ _) (Xu Qa a _))) i ((o.set i (o.getD i 0/2^b)).getD i 0 ||| ((dg U x).getD (w+i+1) 0*2^(64-b))%U) (kA (n:=64) (Xu Qa (Lz a _ _ (aZ (eH _ _) (Xu Qa a _))) _) (bO _ Qa));refine Qg (λ_=>False) [(0,0),(1,0),(2,0),(3,0),(4,0),(5,0),(6,0),(7,0),(8,0),(9,0),(10,0),(11,0),(12,0),(13,0),(14,0),(15,0),(16,3)]<|go 9 ⟨O2,O2,O,O,?_⟩;refine Xe J J (Xt (Zv (ii:=1) (i:=w+i+1) J J J J Zq Oj Ku O O2))<|go 3 ⟨O2,O,?_⟩;refine Xe J J (Xt (Znk J J (n:=64-b) J O))<|Xe J J (Xt (Ylp J J J (Xu Qa (Lz a _ _ (aZ (eH _ _) (Xu Qa a _))) _) (bO _ Qa)))<|go 1 ⟨O2,?_⟩;refine r3' J (Ka (i:=3) (enc:=Mv) _ J J J J J J pU J D.h O3 O2) (λ_ _=>?_);refine go 7 ⟨O,?_⟩;exact Yp (i+1,_) ⟨O1,O8,λj f=>by dsimp only;rw [c j];split;(· rename_i e;rw [<-e]);exact p j (by have:j<i+1:=f;omega),λj f=>by dsimp only;rw [c j,aD (by have:i+1<=j:=f;omega)];exact l j (by have:i+1<=j:=f;omega),h⟩ O1 K1 K1
     .have c:∀j,(o.set i (o.getD i 0/2^b)).getD j 0=if i=j then x/2^s/U^i%U else o.getD j 0:=λj=>by
       rw [Nb _ _ _ _ _ O];split
       .rw [l i (aH _),Zaw m k,Zuq,Ycs _ _ O];rw [aU,<-bW];exact cN (Zz6 (by simp only [cL]at g;omega))
       .rfl
      have h:=Lz a i (o.getD i 0/2^b) (aZ (eH _ _) (Xu Qa a _));refine go 7 ⟨O,?_⟩;exact Yp (i+1,_) ⟨O1,O8,λj f=>by dsimp only;rw [c j];split;(· rename_i e;rw [<-e]);exact p j (by have:j<i+1:=f;omega),λj f=>by dsimp only;rw [c j,aD (by have:i+1<=j:=f;omega)];exact l j (by have:i+1<=j:=f;omega),h⟩ O1 K1 K1
    .refine go 4 ?_;exact Po _ ⟨O,by intro j f;rw [p j O]⟩ aA K1
   .refine go 1 ?_;exact Po _ ⟨O5,by intro j f;rw [Yay,Zaw m k,show b=0 by omega,fD,mY]⟩ aA K1
  .rintro o ⟨t,N⟩;refine go 3 ?_;refine cl 3 [3] (Oo _ _) λ_ _=>?_;refine Xy (Zay 3 J J pU)<|go 4 ?_;have H:tz o=dg U (x/2^s):=Zvu Xv N (by rw [t,Zaw m k];exact aZ (eH _ _) (Zz6 O));exact Xd B _ results295 J aA (gow 3 Za H)
def Zog(v:Value)(x:Nat)(t:bl x<=4294967296:=by omega):Xs prog 233 #[v] [Ey v x] (.string (Qv x)):=by
 refine Zh func233 ntmps233 λw u h g=>?_;have s:=Ml x;have p:=Zh0 x;have r:=lenU x;have m:(List.replicate (dg 256 x).length (0:Nat)).length=(dg 256 x).length:=aT;refine go 8 ?_;refine cl 1 [1] (Zlh _ _) λ_ _=>?_;refine go 1 ⟨O,?_⟩;refine dt (Zes J J J)<|tt (Iy (i:=2) (n:=(dg 256 x).length) (by_:=1) (enc:=Zi6) 0 J J J J Zif ti5 J pB.cells pB.pos J J J h.h) λv _=>go 12 ?_;refine lp (G:=Nat×List Nat) [0,3,12] [0,1] (λq=>[(13,.int .i64 (q.1:Int))]) (λq=>[(2,On 1 5 Zi6 v q.2)]) (λq=>(q.1<=(dg 256 x).length)/\(q.2.length=(dg 256 x).length)/\(∀j,j<q.1->q.2.getD j 0=x/256^((dg 256 x).length-1-j)%256)) (λq=>(dg 256 x).length-q.1) (0,List.replicate (dg 256 x).length 0) ⟨O1,O5,λj d=>absurd d (cI j)⟩ K1 K1 ?_;rintro⟨i,o⟩ ⟨hi,f,b⟩;dsimp only at hi f b;dsimp only;refine go 6 ?_;refine Zd J (λc=>?_) (λc=>?_)
 .refine go 20 ⟨O,O,?_⟩;refine Zg (Kb 5 (v':= .int .i64 (((dg 256 x).length-1-i:Nat):Int)) J (by congr 1;omega)) ?_;have a:=Zrn x ((dg 256 x).length-1-i);rw [<-He Xv]at a;refine go 5 ?_;refine dt (Zes J J J)<|dt (Zv (ii:=1) (i:=((dg 256 x).length-1-i)/8) J J J J Zq Oj Ku)<|go 2 ⟨O,?_⟩;refine dt (Zme J J J)<|go 1 ⟨O,?_⟩;refine dt (Znj J J (n:=((dg 256 x).length-1-i)%8*8) J O)<|dt (Zet J J Zat uT5)<|go 1 ⟨O2,?_⟩;refine tt (Ka (i:=2) (enc:=Zi6) _ J J J J J J pB J h.h O3 O2) (λ_ _=>?_);refine go 7 ⟨O,?_⟩;exact Yp (i+1,_) ⟨O1,O8,λj d=>by dsimp only;rw [Nb _ _ _ _ _ O];split;(· rename_i e;rw [<-e];exact a);exact b j O⟩ O1 K1 K1
 .refine go 8 ?_;refine dt (d_b2s J J (i:=2) J (Yd pB) Zif uT9 uT5)<|go 4 ?_;have k:Qv x=⟨(o.map UInt8.ofNat).toArray⟩:=by
   have l:o=(dg 256 x).reverse:=by refine Zfc O8 (λj d=>?_);rw [b j O,Zqo _ _ _ O,He O]
   rw [l];rfl
  exact Xd g () results233 (by rw [k]) aA Za
def Zdm(x:Nat)(B:bl x<=4294967296:=by omega):Cal prog 219 #[.string (Qv x)] [] false (G:=Value) (λr=>True) (λr=>r) (λr=>[Ey r x]):=by
 refine Zh func219 ntmps219 λF D b m=>?_;have z:=Ml x;have u:=Zh0 x;have y:=lenU x;have p:=Fw x;refine go 10 ⟨O,?_⟩;refine dt (Zes J J J)<|tt (Iy (i:=1) (n:=(dg U x).length) (by_:=8) (enc:=Mv) 0 J J J J Oj ti232 J pU.cells pU.pos J J J b.h) λv _=>go 12 ?_;refine lp (G:=Nat×List Nat) [0,3,12] [0] (λq=>[(13,.int .i64 (q.1:Int))]) (λq=>[(1,On 1 232 Mv v q.2)]) (λq=>(q.1<=(dg 256 x).length)/\(q.2.length=(dg U x).length)/\(∀w,w<q.2.length->q.2.getD w 0=hi x ((dg 256 x).length-q.1) w)) (λq=>(dg 256 x).length-q.1) (0,List.replicate (dg U x).length 0) ⟨O1,O5,λw b=>by dsimp only at *;rw [aT]at b;rw [Ih,hi_top O]⟩ K1 K1 ?_;rintro⟨i,o⟩ ⟨l,f,a⟩;dsimp only at l f a;dsimp only;refine go 6 ?_;refine Zd J (λk=>?_) (λk=>?_)
 .refine go 20 ⟨O,O,?_⟩;refine Zg (Kb 5 (v':= .int .i64 (((dg 256 x).length-1-i:Nat):Int)) J (by congr 1;omega)) ?_;have c:=Zmn x i O;have h:=a (((dg 256 x).length-1-i)/8) O;have d:o.getD (((dg 256 x).length-1-i)/8) 0<U:=by rw [h];exact bO _ Qa
  have g:∀w,w<o.length->(o.set (((dg 256 x).length-1-i)/8) (o.getD (((dg 256 x).length-1-i)/8) 0 ||| (((Qv x).data.toList.getD i 0).toNat*2^(((dg 256 x).length-1-i)%8*8))%U)).getD w 0=hi x ((dg 256 x).length-(i+1)) w:=λw b=>by
   rw [c,h,show(dg 256 x).length-i=(dg 256 x).length-1-i+1 by omega,Ynt,Nb _ _ _ _ _ O,show(dg 256 x).length-(i+1)=(dg 256 x).length-1-i by omega];split
   .rename_i e;rw [e]
   .rename_i e;rw [a w b,show(dg 256 x).length-i=(dg 256 x).length-1-i+1 by omega];exact Yip e
  refine Qg (λ_=>False) [(0,0),(1,0),(2,0),(3,0),(4,0),(5,0),(6,0),(7,0),(8,0),(9,0),(10,0),(11,0),(12,0),(13,0),(14,0),(15,3)]<|go 2 ?_;refine Xe J J (Xt (Zes J J J))<|Xe J J (Xt (Zv (ii:=1) (i:=((dg 256 x).length-1-i)/8) J J J J (Yd pU) Oj Ku))<|go 3 ⟨O2,?_⟩;refine Xe J J (Xt (Ya5 J J J uT9 J))<|Xe J J (Xt (Zxj J J uT5 Zat (by have:=(((Qv x).data.toList.getD i 0).toNat_lt);simp only [U];omega)))<|go 1 ?_;refine Xe J J (Xt (Zme J J J))<|go 1 ⟨O,?_⟩;refine Xe J J (Xt (Znk J J (n:=((dg 256 x).length-1-i)%8*8) J O))<|Xe J J (Xt (Ylp J J J (d) (bO _ Qa)))<|Xe J J (Xt (Zv (ii:=1) (i:=((dg 256 x).length-1-i)/8) J J J J (Yd pU) Oj Ku))<|r3' J (Ka (i:=1) (enc:=Mv) _ J J J J J J pU J b.h O3 O2) (λ_ _=>?_);refine go 7 ⟨O,?_⟩;exact Yp (i+1,_) ⟨O1,O8,λw b=>g w (by simpa using b)⟩ O1 K1 K1
 .refine go 12 ?_;have t:o=dg U x:=Zfc f (λj s=>by rw [a j s,He Xv,Yir O]);exact Xd m _ results219 J aA (gow 1 Za t)
set_option maxHeartbeats 2000000 in
def Zzx(v w:Value)(x y:Nat)(hx:bl x<=4000000000)(e0:bl y<=4000000000)(hy:0<y):Cal prog 267 #[v,w] [Ey v x,Ey w y] true (G:=Value×Value) (λr=>True) (λr=> .tuple #[r.1,r.2]) (λr=>[Ey r.1 (x/y),Ey r.2 (x%y)]):=by
 refine Zh func267 ntmps267 λw0 sc p P=>?_;have hX:=Ml x;have hY:=Ml y;refine go 11 ?_;refine cl 2 [1,2] (Zcy _ _ _ _ O O) λr hr=>go 3 ?_;refine Zd J (λS=>?_) (λS=>?_)
 .have o:x<y:=hr.1.1 O;refine go 9 ?_;exact Zr (Qr 9 1 232 Mv)<|Mi P (.slice none 0 0,v) results267 J aA (gow 9 (Pt 1 Za (by rw [aW o])) (by rw [cN o];rfl))
 .have c4:y<=x:=by have:=hr.1;omega
  have d9:=Oi c4;refine go 10 ?_;refine Zd J (λV=>?_) (λV=>?_)
  .have Q:y<U:=by have:=(Xm Xv 1 y).1 O;simpa using this
   have m:(dg U y).getD 0 0=y:=by rw [He Xv];simp [aW Q]
   refine go 6 ⟨O,O2,?_⟩;refine cl 3 [1] (Ydf _ _ _ O (by rw [m];exact hy) (by rw [m];exact Q)) λv _=>go 11 ?_;refine tt (Xw (i:=4) (ivs:=[(0,_)]) (enc:=Mv) [x%(dg U y).getD 0 0] J J K2 Oj ti232 J J J J J pU.cells J J p.h) λe2 _=>cl 4 [4] (Oo _ _) λ_ _=>?_;refine Xy (Zay 4 J J pU)<|go 6 ?_;exact Mi P (_,_) results267 J aA (Pt 3 (gow 4 Za (by rw [Zhf (jM (bO _ (by rw [m];exact hy)) (by rw [m];exact Q)),m])) (by rw [m]<;>rfl))
  .refine go 3 ?_;obtain⟨k,hk⟩:∃k,k=(dg U y).length:=⟨_,rfl⟩;have d8:k<=(dg U x).length:=O;obtain⟨b,hb⟩:∃b,b=64-bl ((dg U y).getD (k-1) 0):=⟨_,rfl⟩;obtain⟨b2,_,b1,a2,a9,B⟩:=Ynb hy hk hb;obtain⟨D,c⟩:∃D,D=y*2^b:=⟨_,rfl⟩;have c5:(dg U D).length=k:=by rw [c];exact b2
   have a1:D<U^k:=by rw [c];exact a2
   have a0:U^(k-1)*9223372036854775808<=D:=by rw [c];exact B
   have l:0<D:=by rw [c];exact fW hy (dJ b)
   have d7:bl D<=4000000064:=by rw [c,Zx3 _ _ hy];omega
   refine go 5 ⟨O,?_⟩;refine dt (Zv (ii:=2) (i:=(dg U y).length-1) J J J J Zq Oj Ku)<|go 1 ⟨O2,?_⟩;refine cl 4 [] (Zru _ (Xu Qa (Nt Xv y) _)) λ_ _=>?_;refine Xy (Kb 44 (v':= .int .i64 (b:Int)) J (by rw [hb,hk]))<|go 3 ?_;refine jn (G:=Value×Value) [0,8] [0,1,2] (λq=>[(9,q.1),(10,q.2)]) (λq=>[(81,Ey q.1 D),(82,On 1 232 Mv q.2 (List.replicate ((dg U x).length+1) 0))]) (λq=>True) ?_ ?_
   .refine Li (λ_=>False) [8]<|Zj (n:=4) [(0,0),(1,0),(3,0),(4,0),(5,0)]<|go 6 ⟨O,?_⟩;refine Qj (n:=3) 2 6 ?_ ?_
    .refine Pz (Zk 81 [2] (Zp9 _ _ _)) λe3 _=>?_;refine Zj (n:=0) [(7,0),(6,1),(8,3)]<|go 1 ?_;refine Kq J (Iy (i:=82) (n:=(dg U x).length+1) (by_:=8) (enc:=Mv) 0 J J J J Oj ti232 J pU.cells pU.pos J J J p.h) λe4 _=>go 2 ?_;exact Zn<|Po (_,_) aA K2 ⟨by rw [c];rfl,rfl,aA⟩
    .refine Kn J (Iy (i:=82) (n:=(dg U x).length+1) (by_:=8) (enc:=Mv) 0 J J J J Oj ti232 J pU.cells pU.pos J J J p.h) (λe5 _=>?_);refine Zj (n:=0) [(2,1),(7,0),(8,3)]<|Yn (Zk 81 [2] (Zp9 _ _ _)) λe6 _=>go 3 ?_;exact Zn<|Po (_,_) aA K2 ⟨by rw [c];rfl,rfl,aA⟩
   .rintro⟨vd,vr⟩ -;dsimp only;refine go 1 ?_;have c7:(dg U (x*2^b)).length<=(dg U x).length+1:=(Xm Xv _ _).2 (by rw [bW];exact jE ((Xm Xv _ x).1 (aH _)) (by rw [Ylb];exact dH O O) Qa);refine go 4 ?_;refine cl 5 [1] (Zp9 _ _ _) λe7 _=>?_;refine tt (t_cpy (i:=82) (j:=5) 0 J J J J J J O3 J Zq (Yjm _ _ _) (by rw [aT];exact c7) (by rw [aT];omega) (by rw [aT];omega) Oj pU J p.h) λ_ _=>go 3 ?_;have a4:(spl (List.replicate ((dg U x).length+1) 0) 0 (dg U (x*2^b))).length=(dg U x).length+1:=by rw [It _ _ _ (by rw [aT];omega),aT]
    refine go 7 ?_;have d2:(List.replicate ((dg U x).length+1-k) (0:Nat)).length=(dg U x).length+1-k:=aT;refine Zg (Kb 11 (v':= .int .i64 (k:Int)) J (by rw [c5]))<|go 5 ⟨O,?_⟩;refine tt (Iy (i:=6) (n:=(dg U x).length+1-k) (by_:=8) (enc:=Mv) 0 J J J J Oj ti232 J pU.cells pU.pos J J J p.h) (λd1 _=>?_);refine go 13 ⟨O,?_⟩;refine lp (G:=Nat×List Nat×List Nat) [8,9,10,11,12] [0,81,1,2,5] (λq=>[(13,.int .i64 ((q.1:Int)-1))]) (λq=>[(82,On 1 232 Mv vr q.2.1),(6,On 1 232 Mv d1 q.2.2)]) (λq=>(q.1<=(dg U x).length+1-k)/\(q.2.1.length=(dg U x).length+1)/\(∀d∈q.2.1,d<U)/\(q.2.2.length=(dg U x).length+1-k)/\(∀d∈q.2.2,d<U)/\(Yq U q.2.1<D*U^q.1)/\(Yq U (q.2.2.drop q.1)*U^q.1*D+Yq U q.2.1=x*2^b)) (λq=>q.1) ((dg U x).length+1-k,spl (List.replicate ((dg U x).length+1) 0) 0 (dg U (x*2^b)),List.replicate ((dg U x).length+1-k) 0) ⟨aH _,a4,Zrx (Nh _ Qa) (Nt Xv _) 0,O5,Nh _ Qa,by rw [Zr8,Mm Xv];exact Yjq ((Xm Xv _ x).1 (aH _)) a9 b1 O a0,by rw [Zr8,Mm Xv];simp [Yq]⟩ ⟨by rw [aT];rfl,aA⟩ K2 ?_;rintro⟨a,R,q⟩ ⟨hj,a5,e,c8,M,H,hN⟩;dsimp only at hj a5 e c8 M H hN;dsimp only;refine go 7 ?_;refine Zd J (λW=>?_) (λW=>?_)
    .refine go 5 ?_;have I:Yq U R<U^(a-1+k+1):=by refine dB H ?_;rw [show a-1+k+1=k+a by omega,bT];exact aK _ (dX a1)
     have s:tz ((R.drop (a-1)).take (a-1+k+1-(a-1)))=dg U (Yq U R/U^(a-1)):=Ylj e O (by rw [show a-1+(a-1+k+1-(a-1))=a-1+k+1 by omega];exact I);have a7:Yq U R/U^(a-1)<D*U:=by rw [cD (cE Qa),cT,<-nJ,show(a-1).succ=a by omega];exact H
     have a8:bl (Yq U R/U^(a-1))<=4294967296:=by have h1:=Oi (dX a7);have h2:=Zms D U;have h3:bl U<=65:=(Qm 65 U).2 (by simp [U]);omega
     have b5:=Ylv e (j:=a-1) b1 I O;have b7:(dg U D).getD (k-1) 0*U^(k-1)<=D:=by rw [He Xv];exact aB (aK _ (Nat.mod_le _ _)) (nF _ _)
     have c0:Yq U R/U^(a-1)/D<=18446744073709551615:=by have:=(cD l).2 (show _<U*D by rw [aO];exact a7);simp only [U]at this ⊢;omega
     refine go 4 ?_;refine jn (G:=Nat) [8,9,10,11,12,13] [0,82,6,81,1,2,5] (λg=>[(14,.int .u64 (g:Int))]) (λg=>[]) (λg=>(Yq U R/U^(a-1)/D<=g)/\(g<U)) ?_ ?_
     .refine go 1 ?_;refine Qg (λ_=>False) [(0,0),(1,0),(2,0),(3,0),(4,0),(5,0),(6,0),(7,0),(8,0),(9,0),(10,0),(11,0)]<|go 4 ⟨O,?_⟩;refine Xe J J (Xt (Zv (ii:=82) (i:=a-1+k) J J J J (Yd pU) Oj Ku))<|go 4 ⟨O2,O,?_⟩;refine Xe J J (Xt (Zv (ii:=81) (i:=k-1) J J J J Zq Oj Ku))<|go 4 ⟨O2,?_⟩;refine Zd J (λY=>?_) (λY=>?_)
      .refine Qg (λ_=>False) [(0,0),(1,0),(2,0),(3,0),(4,0),(5,0),(6,0),(7,0),(8,0),(9,0),(10,0),(11,0),(12,0),(13,0),(14,0),(15,0),(16,0),(17,0),(18,1),(19,0),(20,0),(21,0),(22,0)]<|go 4 ⟨O,?_⟩;refine Xe J J (Xt (Zv (ii:=82) (i:=a-1+k) J J J J (Yd pU) Oj Ku))<|go 6 ⟨O2,O,O,?_⟩;refine Xe J J (Xt (Zv (ii:=82) (i:=a-1+k-1) J J J J (Yd pU) Oj Ku))<|go 4 ⟨O2,O,?_⟩;refine Xe J J (Xt (Zv (ii:=81) (i:=k-1) J J J J Zq Oj Ku))<|go 1 ⟨O2,?_⟩;refine Yn (Zk 6 [] (Zvg _ _ _ (Xu Qa e _) (Xu Qa (Nt Xv _) _) O)) λ_ _=>go 5 ?_;exact Po _ ⟨Yis b7 O b5,Zun (Xu Qa e _) O⟩ K1 aA
      .refine go 1 ?_;exact Po 18446744073709551615 ⟨c0,O3⟩ K1 aA
     .rintro g ⟨hg,f⟩;refine go 8 ⟨O,O,?_⟩;refine dt (d_mid (ii:=82) (i:=a-1) (j:=a-1+k+1) J J J J J (Yd pU) Oj Ku O O O O)<|go 7 ?_;refine tt (Xw (i:=7) (ivs:=[(0,_)]) (enc:=Mv) [g] J J K2 Oj ti232 J J J J J pU.cells J J p.h) λe8 _=>cl 7 [7] (Oo _ _) λ_ _=>?_;refine Xy (Zay 7 J J pU)<|Xy (Zej 7 (Zhf f) J J)<|cl 83 [81,7] (Zzw _ _ _ _ O (aB ((Qm 64 g).2 f) O)) λd3 _=>go 5 ?_;refine lp (G:=Nat×Value) [8,9,10,11,12,13,15] [0,82,6,81,1,2,5,7] (λq=>[(14,.int .u64 (q.1:Int)),(16,q.2)]) (λq=>[(83,Ey q.2 (D*q.1))]) (λq=>(Yq U R/U^(a-1)/D<=q.1)/\(q.1<U)) (λq=>q.1) (g,_) ⟨O1,O1⟩ ⟨J,J,aA⟩ ⟨J,aA⟩ ?_;rintro⟨g,vp⟩ ⟨hg,f⟩;dsimp only at hg f;dsimp only;have a3:bl (D*g)<=4294967296:=by have h1:=Zms D g;have h2:=(Qm 64 g).2 f;omega
      refine go 4 ?_;refine tt (Xb (n:=7) (Oo _ _) J J J K1 call183 (Zdw 82 J J pU (Zji (a-1) (a-1+k+1)) (Zj2 _ _ _ _) Zo) J p.h) λ_ _=>go 1 ?_;refine tt (Xb (n:=7) (Zcy _ _ _ _ a8 a3) J J J K2 call223 (Zdw 82 J J pU (Yf9 s (by rw [s]) (Zji (a-1) (a-1+k+1))) (by rw [Gr];exact(Zj2 _ _ _ _)) (Zm 83 J J J Zo)) J p.h) λe1 t=>go 3 ?_;refine Zd J (λZ=>?_) (λZ=>?_)
      .have o:Yq U R/U^(a-1)<D*g:=t.1.1 O;have b0:1<=g:=by rcases aV g with h|h;(rw [h,gW]at o;exact absurd o (cI _));exact h
       have b6:D<=D*g:=dO _ b0;have c1:Yq U R/U^(a-1)/D<=g-1:=by have:=(cD l).2 (show _<g*D by rw [aO];exact o);omega
       refine go 6 ?_;refine dt (Zeh (n:=1) J J J)<|go 3 ?_;refine Zg (Kb 14 (v':= .int .u64 ((g-1:Nat):Int)) J (Zbl (Zuw b0 f)))<|go 3 ?_;refine cl 8 [83,81] (Zgb _ _ _ _ a3 b6) λd4 _=>go 3 ?_;exact Zr (Xn 8 83 J J J)<|Yp (g-1,_) ⟨c1,O9⟩ O1 K2 ⟨by rw [Nat.mul_sub_one];rfl,aA⟩
      .refine go 6 ?_;have hQ:g=Yq U R/U^(a-1)/D:=by have h1:=t.1;have h2:D*g<=Yq U R/U^(a-1):=O;exact jR ((iT l).2 (by rw [aO];exact h2)) hg
       refine go 2 ?_;refine tt (Xb (n:=8) (Oo _ _) J J J K1 call183 (Zdw 82 J J pU (Zji (a-1) (a-1+k+1)) (Zj2 _ _ _ _) Zo) J p.h) λ_ _=>go 1 ?_;refine tt (Xb (n:=9) (Zgb _ _ _ _ a8) J J J K2 call224 (Zdw 82 J J pU (Yf9 s (by rw [s]) (Zji (a-1) (a-1+k+1))) (by rw [Gr];exact(Zj2 _ _ _ _)) (Zm 83 J J J Zo)) J p.h) λd5 _=>go 4 ?_;have b3:(dg U (Yq U R/U^(a-1)-D*g)).length<=a-1+k+1-(a-1):=by
        have:Yq U R/U^(a-1)-D*g<D:=by rw [hQ];have h3:=bZ (Yq U R/U^(a-1)) D;have h4:=bO (Yq U R/U^(a-1)) l;omega
        have:=(Xm Xv k _).2 (jM this a1);omega
       refine go 2 ?_;refine tt (t_clr (zv:= .bool false) (i:=82) (z:=0) (a-1) J J J J O3 (Yaw _ _ _ O) O O Oj pU (λw=>zeroValue232 w) J J p.h) λ_ _=>go 6 ?_;refine tt (t_cpy (i:=82) (j:=9) (a-1) J J J J J J O3 J Zq (Yaw _ _ _ (by rw [It _ _ _ (by rw [aT];omega)];omega)) b3 (by rw [It _ _ _ (by rw [aT];omega)];omega) (by rw [It _ _ _ (by rw [aT];omega)];omega) Oj pU J p.h) λ_ _=>go 2 ?_;have b8:a-1+(List.replicate (a-1+k+1-(a-1)) 0).length<=R.length:=by rw [aT];omega
       have c6:=It R (a-1) _ b8;have b9:a-1+(dg U (Yq U R/U^(a-1)-D*g)).length<=(spl R (a-1) (List.replicate (a-1+k+1-(a-1)) 0)).length:=O;have u:=Ylo e (j:=a-1) (n:=a-1+k+1-(a-1)) O (by rw [show a-1+(a-1+k+1-(a-1))=a-1+k+1 by omega];exact I) b3;rw [Mm Xv]at u;have b4:=Yjo (j:=a-1) (N:=x*2^b) (Vq:=Yq U (q.drop a)) l hQ (by rw [show a-1+1=a by omega];exact hN);have a6:=b4.1;have F:=b4.2;rw [<-u]at a6 F;have c3:Yq U ((q.set (a-1) g).drop (a-1))=g+U*Yq U (q.drop a):=by rw [drop_set _ _ _ O,show a-1+1=a by omega];rfl
       rw [<-c3]at F;refine go 4 ?_;refine dt (Zv (ii:=6) (i:=a-1) J J J J (Yd pU) Oj Ku)<|tt (Ka (i:=6) (enc:=Mv) _ J J J J J J pU J p.h O3 O2) (λ_ _=>?_);refine go 8 ⟨O,?_⟩;exact Yp (a-1,_,_) ⟨O1,(It _ _ _ b9).trans (c6.trans a5),Zrx (Zrx e (Nh _ Qa) _) (Nt Xv _) _,O8,Lz M _ _ f,a6,F⟩ O1 ⟨by rw [show(((a-1:Nat):Int)-1)=(a:Int)-1-1 by omega];rfl,aA⟩ K2
    .refine go 6 ?_;obtain rfl:a=0:=O;rw [fD,jF]at H;have c2:bl (Yq U R)<=8589934592:=by have:=Oi (dX H);omega
     refine go 2 ?_;refine cl 9 [6] (Oo _ _) λ_ _=>?_;refine Xy (Zay 6 J J pU)<|go 1 ?_;refine cl 9 [82] (Oo _ _) λ_ _=>?_;refine Xy (Zay 82 J J pU)<|Xy (Zej 82 (Kt Xv R e).symm J J)<|go 1 ?_;refine cl 10 [82] (Yne _ _ _ c2 O) λd6 _=>go 5 ?_;rw [gO,fD,jF]at hN;have c9:tz q=dg U (x/y):=by rw [<-Kt Xv _ M,<-Znv x y b,<-c,<-hN,aO,gG l,cN H,eF]
     have d0:Yq U R/2^b=x%y:=by rw [<-Znu x y b,<-c,<-hN,aO,gR,aW H]
     exact Mi P (_,_) results267 J aA (gow 6 (Pt 10 Za (by rw [d0])) c9)
def Zqa(v w:Value)(x y:Nat)(l:bl x<=4000000000:=by omega)(m:bl y<=4000000000:=by omega):Cal prog 217 #[v,w] [Ey v x,Ey w y] true (G:=Value) (λr=>True) (λr=>r) (λr=>[Ey r (Nat.gcd x y)]):=by
 refine Zh func217 ntmps217 λz s p j=>?_;have n:=Ml x;have o:=Ml y;refine go 7 ?_;refine Zg (Xn 1 91 J J J)<|Zg (Xn 2 92 J J J)<|lp (G:=Value×Value×Nat×Nat) [] [0,1,2] (λq=>[(0,q.1),(1,q.2.1)]) (λq=>[(91,Ey q.1 q.2.2.1),(92,Ey q.2.1 q.2.2.2)]) (λq=>(Nat.gcd q.2.2.1 q.2.2.2=Nat.gcd x y)/\(bl q.2.2.1<=4000000000)/\(bl q.2.2.2<=4000000000)) (λq=>q.2.2.2) (v,w,x,y) ⟨J,l,m⟩ K2 K2 ?_;rintro⟨t,u,a,b⟩ ⟨i,k,f⟩;dsimp only at i k f;dsimp only;refine go 8 ?_;refine Zd J (λd=>?_) (λd=>?_)
 .have c:0<b:=by rcases aV b with h|h;(subst h;simp [Gi]at d);exact h
  refine go 7 ?_;refine cl 3 [91,92] (Zzx _ _ _ _ k f c) λg _=>go 14 ?_;have e:a%b<b:=bO _ c;exact Zr (Xn 92 91 J J J)<|Zr (Xn 4 92 J J J)<|Yp (_,_,b,a%b) ⟨by dsimp only;rw [<-i,mF b,<-Nat.gcd_rec,mF],f,aB (Oi (dX e)) f⟩ e K2 K2
 .have c:b=0:=(Ok Xv b).1 O;refine go 12 ?_;exact Xd j _ results217 J aA (Pt 91 Za (by rw [<-i,c,nR]))
def Zp6(s:Bool)(v:Value)(x:Int)(hs:sg s x):Cal prog 235 #[.agg #[.bool s,v]] [Ey v x.natAbs] true (G:=Bool×Value) (λr=>sg r.1 (-x)) (λr=> .agg #[.bool r.1,r.2]) (λr=>[Ey r.2 (-x).natAbs]):=by refine Zh func235 ntmps235 λg f e c=>go 2 ?_;refine Yg (Yh 2) λb _=>Yg (Yb 3) λd _=>go 9 ?_;refine dt (Qy (ivs:=[(0,_),(1,_)]) J K4 (λa w hs=>Ia ((Yr J) a w hs) ((Oe (i:=1) J Zq) a w hs)))<|go 4 ?_;exact Xd c (!s,v) results235 J (Yfu hs) (Pt 1 Za (by rw [dU]))
def Zd0(s t:Bool)(v w:Value)(x y:Int)(hs:sg s x)(f:sg t y)(g:bl x.natAbs<=4294967296:=by omega)(h:bl y.natAbs<=4294967296:=by omega):Cal prog 167 #[.agg #[.bool s,v],.agg #[.bool t,w]] [Ey v x.natAbs,Ey w y.natAbs] true (G:=Bool×Value) (λr=>sg r.1 (x*y)) (λr=> .agg #[.bool r.1,r.2]) (λr=>[Ey r.2 (x*y).natAbs]):=by refine Zh func167 ntmps167 λl k j c=>go 2 ?_;refine Yg (Yh 3) λb _=>Yg (Yh 4) λd _=>Yg (Yb 5) λe _=>go 3 ?_;refine Qg (λ_=>False) [(0,0),(1,0),(2,0),(3,0),(4,0),(5,0),(6,0),(7,0),(8,0),(9,1),(10,0),(11,3)]<|go 9 ?_;refine Yn (Zk 6 [1,2] (Zzw _ _ _ _ g h)) λv _=>?_;refine Xe J J (Xt (Qy (ivs:=[(0,_),(1,_)]) J K4 (λa w hs=>Ia ((Yr J) a w hs) ((Oe (i:=6) J Zq) a w hs))))<|go 4 ?_;exact Xd c (_,_) results167 J (Yfv hs f) (Pt 6 Za (by rw [cF]))
def Zlg(s:Bool)(v:Value)(x:Int)(hs:sg s x)(g:bl x.natAbs<=4294967296:=by omega):Cal prog 236 #[.agg #[.bool s,v]] [Ey v x.natAbs] true (G:=Unit) (λ_=>True) (λ_=> .int .i64 x.sign) (λ_=>[]):=by
 refine Zh func236 ntmps236 λi h f d=>?_;have e:=Ml x.natAbs;refine go 2 ?_;refine Yg (Yh 2) λb _=>go 14 ?_;refine Zd J (λa=>?_) (λa=>?_)
 .refine go 8 ?_;exact Xd d () results236 (Ycr a) aA Za
 .refine go 7 ?_;refine Lj J (λc=>?_) (λc=>?_)
  .refine go 8 ?_;exact Xd d () results236 (Yfp hs c a) aA Za
  .refine go 9 ?_;exact Xd d () results236 (Yfo hs c a) aA Za
def Zga(s t:Bool)(v w:Value)(x y:Int)(hs:sg s x)(g:sg t y)(j:bl x.natAbs<=4294967296:=by omega)(k:bl y.natAbs<=4294967296:=by omega):Cal prog 170 #[.agg #[.bool s,v],.agg #[.bool t,w]] [Ey v x.natAbs,Ey w y.natAbs] true (G:=Bool×Value) (λr=>sg r.1 (x+y)) (λr=> .agg #[.bool r.1,r.2]) (λr=>[Ey r.2 (x+y).natAbs]):=by
 refine Zh func170 ntmps170 λz u q f=>go 2 ?_;refine Yg (Yh 3) λb _=>Yg (Yh 4) λm _=>Yg (Yb 5) λn _=>go 14 ?_;refine Lj J (λd=>?_) (λd=>?_)
 .have c:s=t:=by simpa using d
  refine go 1 ?_;refine Qg (λ_=>False) [(0,0),(1,0),(2,0),(3,0),(4,0),(5,0),(6,1),(7,0),(8,3)]<|go 6 ?_;refine Yn (Zk 6 [1,2] (Zzy _ _ _ _ j k)) λv _=>?_;refine Xe J J (Xt (Qy (ivs:=[(0,_),(1,_)]) J K4 (λa w hs=>Ia ((Yr J) a w hs) ((Oe (i:=6) J Zq) a w hs))))<|go 6 ?_;exact Xd f (_,_) results170 J (Zys hs (c▸g)) (Pt 6 Za (by rw [Zg9 hs (c▸g)]))
 .have c:s≠t:=by simpa using d
  refine go 6 ?_;refine cl 6 [1,2] (Zcy _ _ _ _ j k) λr l=>go 4 ?_;refine Zd J (λh=>?_) (λh=>?_)
  .have e:y.natAbs<=x.natAbs:=by have:=l.1;omega
   refine go 1 ?_;refine Qg (λ_=>False) [(0,0),(1,0),(2,0),(3,0),(4,0),(5,0),(6,1),(7,0),(8,3)]<|go 6 ?_;refine Yn (Zk 7 [1,2] (Zgb _ _ _ _ j)) λo _=>?_;refine Xe J J (Xt (Qy (ivs:=[(0,_),(1,_)]) J K4 (λa w hs=>Ia ((Yr J) a w hs) ((Oe (i:=7) J Zq) a w hs))))<|go 6 ?_;exact Xd f (_,_) results170 J (Zjf hs g c e) (Pt 7 Za (by rw [Zbh hs g c e]))
  .have e:x.natAbs<=y.natAbs:=by have:=l.1;omega
   refine go 4 ?_;refine Qg (λ_=>False) [(0,0),(1,0),(2,0),(3,0),(4,0),(5,0),(6,1),(7,0),(8,3)]<|go 6 ?_;refine Yn (Zk 8 [2,1] (Zgb _ _ _ _ k)) λp _=>?_;refine Xe J J (Xt (Qy (ivs:=[(0,_),(1,_)]) J K4 (λa w hs=>Ia ((Yr J) a w hs) ((Oe (i:=8) J Zq) a w hs))))<|go 4 ?_;exact Xd f (_,_) results170 J (by rw [jJ];exact Zjf g hs (iC c) e) (Pt 8 Za (by rw [jJ,Zbh g hs (iC c) e]))
def Qq(s:Bool)(x:Int)(hs:sg s x)(e:bl x.natAbs<=4294967296:=by omega):Cal prog 166 #[.agg #[.bool s,.string (Qv x.natAbs)]] [] true (G:=Bool×Value) (λr=>sg r.1 x) (λr=> .agg #[.bool r.1,r.2]) (λr=>[Ey r.2 x.natAbs]):=by refine Zh func166 ntmps166 λh g f c=>go 2 ?_;refine Yg (Yh 1) λb _=>Yg (Yb 2) λd _=>go 3 ?_;refine Qg (λ_=>False) [(0,0),(1,0),(2,0),(3,0),(4,1),(5,0),(6,3)]<|go 4 ?_;refine Yn (Zk 3 [] (Zdm _ e)) λv _=>?_;refine Xe J J (Xt (Qy (ivs:=[(0,_),(1,_)]) J K4 (λa w hs=>Ia ((Yr J) a w hs) ((Oe (i:=3) J Zq) a w hs))))<|go 4 ?_;exact Xd c (_,_) results166 J hs (Pt 3 Za J)
def Ht(s:Bool)(v:Value)(x:Int)(hs:sg s x)(g:bl x.natAbs<=4294967296:=by omega):Xs prog 184 #[.agg #[.bool s,v]] [Ey v x.natAbs] (Zci x):=by
 refine Zh func184 ntmps184 λi h f d=>go 2 ?_;refine Yg (Yh 2) λb _=>Yg (Yb 3) λe _=>go 8 ?_;refine cl 3 [1] (Zlh _ _) λ_ _=>go 3 ?_;refine Zd J (λc=>?_) (λc=>?_)
 .refine go 2 ?_;refine dt (Qy (ivs:=[]) J aA (λa w hs=>b80_))<|go 6 ?_;exact Mi d () results184 (Ycc c) aA Za
 .refine go 3 ?_;cases s
  .refine Qg (λ_=>False) [(0,0),(1,0),(2,0),(3,2),(4,2),(5,2),(6,2),(7,0),(8,0),(9,0),(10,1),(11,0),(12,3),(13,3)]<|go 10 ?_;refine Yn (Zk 3 [1] (Zog _ _)) λ_ _=>?_;refine Xe J J (Xt (Qy (ivs:=[(0,_),(1,_)]) J K4 (λa w hs=>Zx6 ((Yr J) a w hs) ((Yr J) a w hs))))<|go 5 ?_;exact Mi d () results184 (by first|exact Zr3 hs c|exact Zr2 hs c) aA Za
  .refine Qg (λ_=>False) [(0,0),(1,0),(2,0),(3,0),(4,0),(5,0),(6,0),(7,0),(8,0),(9,0),(10,1),(11,0),(12,3),(13,3)]<|go 10 ?_;refine Yn (Zk 3 [1] (Zog _ _)) λ_ _=>?_;refine Xe J J (Xt (Qy (ivs:=[(0,_),(1,_)]) J K4 (λa w hs=>Zx6 ((Yr J) a w hs) ((Yr J) a w hs))))<|go 5 ?_;exact Mi d () results184 (by first|exact Zr3 hs c|exact Zr2 hs c) aA Za
def Nl(s t:Bool)(v w:Value)(x y:Int)(hs:sg s x)(o:sg t y)(k:y≠0)(N:bl x.natAbs<=3000000000:=by omega)(P:bl y.natAbs<=3000000000:=by omega):Cal prog 218 #[.agg #[.bool s,v],.agg #[.bool t,w]] [Ey v x.natAbs,Ey w y.natAbs] true (G:=Bool×Value×Value) (λr=>sg r.1 (x/y)) (λr=> .tuple #[.agg #[.bool r.1,r.2.1],.agg #[.bool false,r.2.2]]) (λr=>[Ey r.2.1 (x/y).natAbs,Ey r.2.2 (x%y).natAbs]):=by
 refine Zh func218 ntmps218 λR Q D j=>?_;have I:=Ml x.natAbs;have M:=Ml y.natAbs;have l:0<y.natAbs:=O;have n:x.natAbs%y.natAbs<y.natAbs:=bO _ l;have B:=Oi (dX n);have z:=Oi (eH x.natAbs y.natAbs);refine go 2 ?_;refine Yg (Yh 3) λb _=>Yg (Yh 4) λp _=>Yg (Yb 5) λq _=>Yg (Yb 6) λu _=>go 8 ?_;refine cl 7 [1,2] (Zzx _ _ _ _ O O l) λg _=>go 13 ?_;refine Zgl (d:=18) J (λf=>?_) (λf=>?_)
 .refine go 6 ?_;refine Zd J (λc=>?_) (λc=>?_)
  .subst f;have m:0<x.natAbs%y.natAbs:=by rcases aV (x.natAbs%y.natAbs)with h|h;(rw [h]at c;simp [Gi]at c);exact h
   have e:=divA hs o k m;refine Qg (λ_=>False) [(0,0),(3,0),(4,0),(5,0),(1,1),(2,1),(6,1),(7,0),(8,3)]<|go 4 ?_;refine Kq J (Xw (i:=9) (ivs:=[(0,_)]) (enc:=Mv) (dg U 1) J J K2 Oj ti232 J J J J J pU.cells J J D.h) λv _=>Yn (Zk 10 [7,9] (Zzy _ _ _ _ O (show bl 1<=4294967296 by decide))) λF _=>Yn (Zk 11 [2,8] (Zgb _ _ _ _ O)) λH _=>go 12 ?_;refine dt (Qy (ivs:=[(0,_),(1,_)]) J K4 (λa w hs=>Ia ((Yr J) a w hs) ((Oe (i:=10) J Zq) a w hs)))<|go 1 ?_;refine dt (Qy (ivs:=[(0,_),(1,_)]) J K4 (λa w hs=>Ia ((Yr J) a w hs) ((Oe (i:=11) J Zq) a w hs)))<|go 5 ?_;exact Mi j (_,_,_) results218 J e.1 (Pt 10 (Pt 11 Za (by rw [e.2.2]<;>rfl)) (by rw [e.2.1]<;>rfl))
  .have e:=divB hs o k (.inr ((Ok Xv _).1 O));refine go 10 ?_;refine dt (Qy (ivs:=[(0,_),(1,_)]) J K4 (λa w hs=>Ia ((Yr J) a w hs) ((Oe (i:=7) J Zq) a w hs)))<|go 1 ?_;refine dt (Qy (ivs:=[(0,_),(1,_)]) J K4 (λa w hs=>Ia ((Yr J) a w hs) ((Oe (i:=8) J Zq) a w hs)))<|go 5 ?_;exact Mi j (_,_,_) results218 J e.1 (Pt 7 (Pt 8 Za (by rw [e.2.2]<;>rfl)) (by rw [e.2.1]<;>rfl))
 .have e:=divB hs o k (.inl f);refine go 17 ?_;refine dt (Qy (ivs:=[(0,_),(1,_)]) J K4 (λa w hs=>Ia ((Yr J) a w hs) ((Oe (i:=7) J Zq) a w hs)))<|go 1 ?_;refine dt (Qy (ivs:=[(0,_),(1,_)]) J K4 (λa w hs=>Ia ((Yr J) a w hs) ((Oe (i:=8) J Zq) a w hs)))<|go 5 ?_;exact Mi j (_,_,_) results218 J e.1 (Pt 7 (Pt 8 Za (by rw [e.2.2]<;>rfl)) (by rw [e.2.1]<;>rfl))
end Go.Sky

