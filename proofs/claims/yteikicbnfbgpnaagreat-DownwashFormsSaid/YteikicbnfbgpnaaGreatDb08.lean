/- Rules, arithmetic and contracts: part 9. No conditions but those that each theorem names. -/
import Derived.Test.YteikicbnfbgpnaaGreatDb07
set_option linter.all false
namespace Go.Sky
open Go.Proofs
set_option linter.all false
set_option synthInstance.maxHeartbeats 0
@[reducible,instance] def iUnd3:=Und.mk Tryz.underlying3
@[reducible,instance] def iUnd4:=Und.mk Tryz.underlying4
@[reducible,instance] def iUnd5:=Und.mk Tryz.underlying5
@[reducible,instance] def iUnd9:=Und.mk Tryz.underlying9
@[reducible,instance] def iUnd33:=Und.mk Tryz.underlying33
@[reducible,instance] def iUnd39:=Und.mk Tryz.underlying39
@[reducible,instance] def iUnd40:=Und.mk Tryz.underlying40
@[reducible,instance] def iUnd47:=Und.mk Tryz.underlying47
@[reducible,instance] def iUnd80:=Und.mk Tryz.underlying80
@[reducible,instance] def iUnd82:=Und.mk Tryz.underlying82
@[reducible,instance] def iUnd89:=Und.mk Tryz.underlying89
@[reducible,instance] def iUnd91:=Und.mk Tryz.underlying91
@[reducible,instance] def iUnd121:=Und.mk Tryz.underlying121
@[reducible,instance] def iUnd197:=Und.mk Tryz.underlying197
@[reducible,instance] def iUnd217:=Und.mk Tryz.underlying217
@[reducible,instance] def iUnd219:=Und.mk Tryz.underlying219
@[reducible,instance] def iUnd230:=Und.mk Tryz.underlying230
@[reducible,instance] def iUnd232:=Und.mk Tryz.underlying232
@[reducible,instance] def iUnd248:=Und.mk Tryz.underlying248
@[reducible,instance] def iUnd250:=Und.mk Tryz.underlying250
@[reducible,instance] def iUnd268:=Und.mk Tryz.underlying268
@[reducible,instance] def iUnd270:=Und.mk Tryz.underlying270
@[reducible,instance] def iUnd274:=Und.mk Tryz.underlying274
@[reducible,instance] def iUnd276:=Und.mk Tryz.underlying276
@[reducible,instance] def iUnd280:=Und.mk Tryz.underlying280
@[reducible,instance] def iUnd316:=Und.mk Tryz.underlying316
@[reducible,instance] def iSiz3:=Siz.mk Tryz.sizeOf3
@[reducible,instance] def iSiz4:=Siz.mk Tryz.sizeOf4
@[reducible,instance] def iSiz5:=Siz.mk Tryz.sizeOf5
@[reducible,instance] def iSiz9:=Siz.mk Tryz.sizeOf9
@[reducible,instance] def iSiz26:=Siz.mk Tryz.sizeOf26
@[reducible,instance] def iSiz33:=Siz.mk Tryz.sizeOf33
@[reducible,instance] def iSiz40:=Siz.mk Tryz.sizeOf40
@[reducible,instance] def iSiz47:=Siz.mk Tryz.sizeOf47
@[reducible,instance] def iSiz80:=Siz.mk Tryz.sizeOf80
@[reducible,instance] def iSiz82:=Siz.mk Tryz.sizeOf82
@[reducible,instance] def iSiz89:=Siz.mk Tryz.sizeOf89
@[reducible,instance] def iSiz91:=Siz.mk Tryz.sizeOf91
@[reducible,instance] def iSiz217:=Siz.mk Tryz.sizeOf217
@[reducible,instance] def iSiz219:=Siz.mk Tryz.sizeOf219
@[reducible,instance] def iSiz232:=Siz.mk Tryz.sizeOf232
@[reducible,instance] def iSiz248:=Siz.mk Tryz.sizeOf248
@[reducible,instance] def iSiz268:=Siz.mk Tryz.sizeOf268
@[reducible,instance] def iSiz270:=Siz.mk Tryz.sizeOf270
@[reducible,instance] def iSiz276:=Siz.mk Tryz.sizeOf276
@[reducible,instance] def iAgg4:=Agg.mk Tryz.isAgg4
@[reducible,instance] def iAgg9:=Agg.mk Tryz.isAgg9
@[reducible,instance] def iAgg26:=Agg.mk Tryz.isAgg26
@[reducible,instance] def iAgg33:=Agg.mk Tryz.isAgg33
@[reducible,instance] def iAgg80:=Agg.mk Tryz.isAgg80
@[reducible,instance] def iAgg82:=Agg.mk Tryz.isAgg82
@[reducible,instance] def iAgg89:=Agg.mk Tryz.isAgg89
@[reducible,instance] def iAgg91:=Agg.mk Tryz.isAgg91
@[reducible,instance] def iAgg217:=Agg.mk Tryz.isAgg217
@[reducible,instance] def iAgg219:=Agg.mk Tryz.isAgg219
@[reducible,instance] def iAgg268:=Agg.mk Tryz.isAgg268
@[reducible,instance] def iAgg270:=Agg.mk Tryz.isAgg270
@[reducible,instance] def iAgg276:=Agg.mk Tryz.isAgg276
@[reducible,instance] def iZer80:=Zer.mk Tryz.zeroValue80
@[reducible,instance] def iZer82:=Zer.mk Tryz.zeroValue82
@[reducible,instance] def iZer89:=Zer.mk Tryz.zeroValue89
@[reducible,instance] def iZer91:=Zer.mk Tryz.zeroValue91
@[reducible,instance] def iZer219:=Zer.mk Tryz.zeroValue219
@[reducible,instance] def iZer232:=Zer.mk Tryz.zeroValue232
@[reducible,instance] def iZer250:=Zer.mk Tryz.zeroValue250
@[reducible,instance] def iZer270:=Zer.mk Tryz.zeroValue270
@[reducible,instance] def iZer274:=Zer.mk Tryz.zeroValue274
@[reducible,instance] def iZer276:=Zer.mk Tryz.zeroValue276
@[reducible,instance] def iCalF57:=CalF.mk Tryz.call57
@[reducible,instance] def iCalF67:=CalF.mk Tryz.call67
@[reducible,instance] def iCalF69:=CalF.mk Tryz.call69
@[reducible,instance] def iCalF70:=CalF.mk Tryz.call70
@[reducible,instance] def iCalF72:=CalF.mk Tryz.call72
@[reducible,instance] def iCalF76:=CalF.mk Tryz.call76
@[reducible,instance] def iCalF78:=CalF.mk Tryz.call78
@[reducible,instance] def iCalF79:=CalF.mk Tryz.call79
@[reducible,instance] def iCalF81:=CalF.mk Tryz.call81
@[reducible,instance] def iCalF82:=CalF.mk Tryz.call82
@[reducible,instance] def iCalF97:=CalF.mk Tryz.call97
@[reducible,instance] def iCalF99:=CalF.mk Tryz.call99
@[reducible,instance] def iCalF100:=CalF.mk Tryz.call100
@[reducible,instance] def iCalF105:=CalF.mk Tryz.call105
@[reducible,instance] def iCalF106:=CalF.mk Tryz.call106
@[reducible,instance] def iCalF117:=CalF.mk Tryz.call117
@[reducible,instance] def iCalF118:=CalF.mk Tryz.call118
@[reducible,instance] def iCalF119:=CalF.mk Tryz.call119
@[reducible,instance] def iCalF126:=CalF.mk Tryz.call126
@[reducible,instance] def iCalF127:=CalF.mk Tryz.call127
@[reducible,instance] def iCalF128:=CalF.mk Tryz.call128
@[reducible,instance] def iCalF129:=CalF.mk Tryz.call129
@[reducible,instance] def iCalF130:=CalF.mk Tryz.call130
@[reducible,instance] def iCalF131:=CalF.mk Tryz.call131
@[reducible,instance] def iCalF135:=CalF.mk Tryz.call135
@[reducible,instance] def iCalF136:=CalF.mk Tryz.call136
@[reducible,instance] def iCalF138:=CalF.mk Tryz.call138
@[reducible,instance] def iCalF140:=CalF.mk Tryz.call140
@[reducible,instance] def iCalF143:=CalF.mk Tryz.call143
@[reducible,instance] def iCalF144:=CalF.mk Tryz.call144
@[reducible,instance] def iCalF146:=CalF.mk Tryz.call146
@[reducible,instance] def iCalF147:=CalF.mk Tryz.call147
@[reducible,instance] def iCalF148:=CalF.mk Tryz.call148
@[reducible,instance] def iCalF149:=CalF.mk Tryz.call149
@[reducible,instance] def iCalF164:=CalF.mk Tryz.call164
@[reducible,instance] def iCalF165:=CalF.mk Tryz.call165
@[reducible,instance] def iCalF166:=CalF.mk Tryz.call166
@[reducible,instance] def iCalF167:=CalF.mk Tryz.call167
@[reducible,instance] def iCalF169:=CalF.mk Tryz.call169
@[reducible,instance] def iCalF170:=CalF.mk Tryz.call170
@[reducible,instance] def iCalF172:=CalF.mk Tryz.call172
@[reducible,instance] def iCalF173:=CalF.mk Tryz.call173
@[reducible,instance] def iCalF178:=CalF.mk Tryz.call178
@[reducible,instance] def iCalF179:=CalF.mk Tryz.call179
@[reducible,instance] def iCalF180:=CalF.mk Tryz.call180
@[reducible,instance] def iCalF183:=CalF.mk Tryz.call183
@[reducible,instance] def iCalF184:=CalF.mk Tryz.call184
@[reducible,instance] def iCalF188:=CalF.mk Tryz.call188
@[reducible,instance] def iCalF189:=CalF.mk Tryz.call189
@[reducible,instance] def iCalF190:=CalF.mk Tryz.call190
@[reducible,instance] def iCalF191:=CalF.mk Tryz.call191
@[reducible,instance] def iCalF192:=CalF.mk Tryz.call192
@[reducible,instance] def iCalF193:=CalF.mk Tryz.call193
@[reducible,instance] def iCalF194:=CalF.mk Tryz.call194
@[reducible,instance] def iCalF195:=CalF.mk Tryz.call195
@[reducible,instance] def iCalF196:=CalF.mk Tryz.call196
@[reducible,instance] def iCalF197:=CalF.mk Tryz.call197
@[reducible,instance] def iCalF198:=CalF.mk Tryz.call198
@[reducible,instance] def iCalF200:=CalF.mk Tryz.call200
@[reducible,instance] def iCalF201:=CalF.mk Tryz.call201
@[reducible,instance] def iCalF202:=CalF.mk Tryz.call202
@[reducible,instance] def iCalF209:=CalF.mk Tryz.call209
@[reducible,instance] def iCalF210:=CalF.mk Tryz.call210
@[reducible,instance] def iCalF211:=CalF.mk Tryz.call211
@[reducible,instance] def iCalF212:=CalF.mk Tryz.call212
@[reducible,instance] def iCalF213:=CalF.mk Tryz.call213
@[reducible,instance] def iCalF214:=CalF.mk Tryz.call214
@[reducible,instance] def iCalF215:=CalF.mk Tryz.call215
@[reducible,instance] def iCalF216:=CalF.mk Tryz.call216
@[reducible,instance] def iCalF217:=CalF.mk Tryz.call217
@[reducible,instance] def iCalF218:=CalF.mk Tryz.call218
@[reducible,instance] def iCalF219:=CalF.mk Tryz.call219
@[reducible,instance] def iCalF220:=CalF.mk Tryz.call220
@[reducible,instance] def iCalF221:=CalF.mk Tryz.call221
@[reducible,instance] def iCalF222:=CalF.mk Tryz.call222
@[reducible,instance] def iCalF223:=CalF.mk Tryz.call223
@[reducible,instance] def iCalF224:=CalF.mk Tryz.call224
@[reducible,instance] def iCalF225:=CalF.mk Tryz.call225
@[reducible,instance] def iCalF226:=CalF.mk Tryz.call226
@[reducible,instance] def iCalF228:=CalF.mk Tryz.call228
@[reducible,instance] def iCalF232:=CalF.mk Tryz.call232
@[reducible,instance] def iCalF233:=CalF.mk Tryz.call233
@[reducible,instance] def iCalF234:=CalF.mk Tryz.call234
@[reducible,instance] def iCalF235:=CalF.mk Tryz.call235
@[reducible,instance] def iCalF236:=CalF.mk Tryz.call236
@[reducible,instance] def iCalF237:=CalF.mk Tryz.call237
@[reducible,instance] def iCalF238:=CalF.mk Tryz.call238
@[reducible,instance] def iCalF239:=CalF.mk Tryz.call239
@[reducible,instance] def iCalF240:=CalF.mk Tryz.call240
@[reducible,instance] def iCalF251:=CalF.mk Tryz.call251
@[reducible,instance] def iCalF254:=CalF.mk Tryz.call254
@[reducible,instance] def iCalF255:=CalF.mk Tryz.call255
@[reducible,instance] def iCalF256:=CalF.mk Tryz.call256
@[reducible,instance] def iCalF257:=CalF.mk Tryz.call257
@[reducible,instance] def iCalF258:=CalF.mk Tryz.call258
@[reducible,instance] def iCalF259:=CalF.mk Tryz.call259
@[reducible,instance] def iCalF260:=CalF.mk Tryz.call260
@[reducible,instance] def iCalF261:=CalF.mk Tryz.call261
@[reducible,instance] def iCalF262:=CalF.mk Tryz.call262
@[reducible,instance] def iCalF263:=CalF.mk Tryz.call263
@[reducible,instance] def iCalF264:=CalF.mk Tryz.call264
@[reducible,instance] def iCalF265:=CalF.mk Tryz.call265
@[reducible,instance] def iCalF266:=CalF.mk Tryz.call266
@[reducible,instance] def iCalF267:=CalF.mk Tryz.call267
@[reducible,instance] def iCalF268:=CalF.mk Tryz.call268
@[reducible,instance] def iCalF272:=CalF.mk Tryz.call272
@[reducible,instance] def iCalF280:=CalF.mk Tryz.call280
@[reducible,instance] def iCalF281:=CalF.mk Tryz.call281
@[reducible,instance] def iCalF282:=CalF.mk Tryz.call282
@[reducible,instance] def iCalF283:=CalF.mk Tryz.call283
@[reducible,instance] def iCalF284:=CalF.mk Tryz.call284
@[reducible,instance] def iCalF285:=CalF.mk Tryz.call285
@[reducible,instance] def iCalF286:=CalF.mk Tryz.call286
@[reducible,instance] def iCalF287:=CalF.mk Tryz.call287
@[reducible,instance] def iCalF288:=CalF.mk Tryz.call288
@[reducible,instance] def iCalF289:=CalF.mk Tryz.call289
@[reducible,instance] def iCalF290:=CalF.mk Tryz.call290
@[reducible,instance] def iCalF291:=CalF.mk Tryz.call291
@[reducible,instance] def iCalF292:=CalF.mk Tryz.call292
@[reducible,instance] def iCalF293:=CalF.mk Tryz.call293
@[reducible,instance] def iCalF294:=CalF.mk Tryz.call294
@[reducible,instance] def iCalF295:=CalF.mk Tryz.call295
@[reducible,instance] def iCalF297:=CalF.mk Tryz.call297
@[reducible,instance] def iCalF298:=CalF.mk Tryz.call298
@[reducible,instance] def iCalF299:=CalF.mk Tryz.call299
@[reducible,instance] def iCalF300:=CalF.mk Tryz.call300
@[reducible,instance] def iCalF301:=CalF.mk Tryz.call301
@[reducible,instance] def iCalF302:=CalF.mk Tryz.call302
@[reducible,instance] def iCalF303:=CalF.mk Tryz.call303
@[reducible,instance] def iCalF304:=CalF.mk Tryz.call304
@[reducible,instance] def iCalF305:=CalF.mk Tryz.call305
@[reducible,instance] def iCalF306:=CalF.mk Tryz.call306
@[reducible,instance] def iCalF307:=CalF.mk Tryz.call307
@[reducible,instance] def iCalF308:=CalF.mk Tryz.call308
@[reducible,instance] def iCalF309:=CalF.mk Tryz.call309
@[reducible,instance] def iCalF310:=CalF.mk Tryz.call310
@[reducible,instance] def iCalF311:=CalF.mk Tryz.call311
@[reducible,instance] def iCalF312:=CalF.mk Tryz.call312
@[reducible,instance] def iCalF313:=CalF.mk Tryz.call313
@[reducible,instance] def iCalF314:=CalF.mk Tryz.call314
@[reducible,instance] def iCalF315:=CalF.mk Tryz.call315
instance:EncT Tryz.prog 232 1 Nl:=⟨pU⟩
instance:EncE 1 Nl:=⟨_,_,pU⟩
instance:EncT Tryz.prog 5 1 Zgh:=⟨pB⟩
instance:EncE 1 Zgh:=⟨_,_,pB⟩
instance:EncT Tryz.prog 3 1 Ks:=⟨pN⟩
instance:EncE 1 Ks:=⟨_,_,pN⟩
instance:EncT Tryz.prog 3 1 Zx:=⟨pZ⟩
instance:EncE 1 Zx:=⟨_,_,pZ⟩
instance:EncT Tryz.prog 80 2 Zs1:=⟨pW⟩
instance:EncE 2 Zs1:=⟨_,_,pW⟩
instance:EncT Tryz.prog 80 2 wv:=⟨pV⟩
instance:EncE 2 wv:=⟨_,_,pV⟩
instance:EncT Tryz.prog 89 2 Fl:=⟨pI⟩
instance:EncE 2 Fl:=⟨_,_,pI⟩
instance {α:Type} : EncT Tryz.prog 40 1 (Li (α:=α)):=⟨pS⟩
instance {α:Type} : EncE 1 (Li (α:=α)):=⟨_,_,pS⟩
instance:EncT Tryz.prog 276 8 iq:=⟨pY⟩
instance:EncE 8 iq:=⟨_,_,pY⟩
instance:EncT Tryz.prog 82 4 rq:=⟨pQ⟩
instance:EncE 4 rq:=⟨_,_,pQ⟩
instance:EncT Tryz.prog 82 4 encQ:=⟨pR⟩
instance:EncE 4 encQ:=⟨_,_,pR⟩
@[reducible,instance] def iUnd23:=Und.mk Tryz.underlying23
@[reducible,instance] def iUnd25:=Und.mk Tryz.underlying25
@[reducible,instance] def iUnd35:=Und.mk Tryz.underlying35
@[reducible,instance] def iUnd38:=Und.mk Tryz.underlying38
@[reducible,instance] def iUnd46:=Und.mk Tryz.underlying46
@[reducible,instance] def iUnd50:=Und.mk Tryz.underlying50
@[reducible,instance] def iUnd61:=Und.mk Tryz.underlying61
@[reducible,instance] def iUnd130:=Und.mk Tryz.underlying130
@[reducible,instance] def iUnd166:=Und.mk Tryz.underlying166
@[reducible,instance] def iUnd182:=Und.mk Tryz.underlying182
@[reducible,instance] def iUnd186:=Und.mk Tryz.underlying186
@[reducible,instance] def iUnd189:=Und.mk Tryz.underlying189
@[reducible,instance] def iUnd190:=Und.mk Tryz.underlying190
@[reducible,instance] def iUnd193:=Und.mk Tryz.underlying193
@[reducible,instance] def iUnd210:=Und.mk Tryz.underlying210
@[reducible,instance] def iUnd242:=Und.mk Tryz.underlying242
@[reducible,instance] def iUnd243:=Und.mk Tryz.underlying243
@[reducible,instance] def iUnd331:=Und.mk Tryz.underlying331
@[reducible,instance] def iSiz23:=Siz.mk Tryz.sizeOf23
@[reducible,instance] def iSiz25:=Siz.mk Tryz.sizeOf25
@[reducible,instance] def iSiz35:=Siz.mk Tryz.sizeOf35
@[reducible,instance] def iSiz38:=Siz.mk Tryz.sizeOf38
@[reducible,instance] def iSiz130:=Siz.mk Tryz.sizeOf130
@[reducible,instance] def iSiz162:=Siz.mk Tryz.sizeOf162
@[reducible,instance] def iSiz182:=Siz.mk Tryz.sizeOf182
@[reducible,instance] def iSiz189:=Siz.mk Tryz.sizeOf189
@[reducible,instance] def iSiz210:=Siz.mk Tryz.sizeOf210
@[reducible,instance] def iSiz242:=Siz.mk Tryz.sizeOf242
@[reducible,instance] def iSiz243:=Siz.mk Tryz.sizeOf243
@[reducible,instance] def iSiz330:=Siz.mk Tryz.sizeOf330
@[reducible,instance] def iAgg3:=Agg.mk Tryz.isAgg3
@[reducible,instance] def iAgg23:=Agg.mk Tryz.isAgg23
@[reducible,instance] def iAgg25:=Agg.mk Tryz.isAgg25
@[reducible,instance] def iAgg35:=Agg.mk Tryz.isAgg35
@[reducible,instance] def iAgg38:=Agg.mk Tryz.isAgg38
@[reducible,instance] def iAgg40:=Agg.mk Tryz.isAgg40
@[reducible,instance] def iAgg130:=Agg.mk Tryz.isAgg130
@[reducible,instance] def iAgg162:=Agg.mk Tryz.isAgg162
@[reducible,instance] def iAgg182:=Agg.mk Tryz.isAgg182
@[reducible,instance] def iAgg189:=Agg.mk Tryz.isAgg189
@[reducible,instance] def iAgg210:=Agg.mk Tryz.isAgg210
@[reducible,instance] def iAgg243:=Agg.mk Tryz.isAgg243
@[reducible,instance] def iAgg330:=Agg.mk Tryz.isAgg330
@[reducible,instance] def iZer3:=Zer.mk Tryz.zeroValue3
@[reducible,instance] def iZer23:=Zer.mk Tryz.zeroValue23
@[reducible,instance] def iZer25:=Zer.mk Tryz.zeroValue25
@[reducible,instance] def iZer26:=Zer.mk Tryz.zeroValue26
@[reducible,instance] def iZer35:=Zer.mk Tryz.zeroValue35
@[reducible,instance] def iZer38:=Zer.mk Tryz.zeroValue38
@[reducible,instance] def iZer130:=Zer.mk Tryz.zeroValue130
@[reducible,instance] def iZer162:=Zer.mk Tryz.zeroValue162
@[reducible,instance] def iZer166:=Zer.mk Tryz.zeroValue166
@[reducible,instance] def iZer182:=Zer.mk Tryz.zeroValue182
@[reducible,instance] def iZer189:=Zer.mk Tryz.zeroValue189
@[reducible,instance] def iZer210:=Zer.mk Tryz.zeroValue210
@[reducible,instance] def iZer243:=Zer.mk Tryz.zeroValue243
@[reducible,instance] def iCalF14:=CalF.mk Tryz.call14
@[reducible,instance] def iCalF15:=CalF.mk Tryz.call15
@[reducible,instance] def iCalF16:=CalF.mk Tryz.call16
@[reducible,instance] def iCalF17:=CalF.mk Tryz.call17
@[reducible,instance] def iCalF18:=CalF.mk Tryz.call18
@[reducible,instance] def iCalF19:=CalF.mk Tryz.call19
@[reducible,instance] def iCalF20:=CalF.mk Tryz.call20
@[reducible,instance] def iCalF21:=CalF.mk Tryz.call21
@[reducible,instance] def iCalF22:=CalF.mk Tryz.call22
@[reducible,instance] def iCalF23:=CalF.mk Tryz.call23
@[reducible,instance] def iCalF24:=CalF.mk Tryz.call24
@[reducible,instance] def iCalF25:=CalF.mk Tryz.call25
@[reducible,instance] def iCalF26:=CalF.mk Tryz.call26
@[reducible,instance] def iCalF27:=CalF.mk Tryz.call27
@[reducible,instance] def iCalF61:=CalF.mk Tryz.call61
@[reducible,instance] def iCalF62:=CalF.mk Tryz.call62
@[reducible,instance] def iCalF63:=CalF.mk Tryz.call63
@[reducible,instance] def iCalF64:=CalF.mk Tryz.call64
@[reducible,instance] def iCalF65:=CalF.mk Tryz.call65
@[reducible,instance] def iCalF66:=CalF.mk Tryz.call66
@[reducible,instance] def iCalF68:=CalF.mk Tryz.call68
@[reducible,instance] def iCalF71:=CalF.mk Tryz.call71
@[reducible,instance] def iCalF73:=CalF.mk Tryz.call73
@[reducible,instance] def iCalF74:=CalF.mk Tryz.call74
@[reducible,instance] def iCalF75:=CalF.mk Tryz.call75
@[reducible,instance] def iCalF77:=CalF.mk Tryz.call77
@[reducible,instance] def iCalF80:=CalF.mk Tryz.call80
@[reducible,instance] def iCalF83:=CalF.mk Tryz.call83
@[reducible,instance] def iCalF84:=CalF.mk Tryz.call84
@[reducible,instance] def iCalF89:=CalF.mk Tryz.call89
@[reducible,instance] def iCalF113:=CalF.mk Tryz.call113
@[reducible,instance] def iCalF114:=CalF.mk Tryz.call114
@[reducible,instance] def iCalF115:=CalF.mk Tryz.call115
@[reducible,instance] def iCalF121:=CalF.mk Tryz.call121
@[reducible,instance] def iCalF124:=CalF.mk Tryz.call124
@[reducible,instance] def iCalF125:=CalF.mk Tryz.call125
@[reducible,instance] def iCalF132:=CalF.mk Tryz.call132
@[reducible,instance] def iCalF133:=CalF.mk Tryz.call133
@[reducible,instance] def iCalF134:=CalF.mk Tryz.call134
@[reducible,instance] def iCalF137:=CalF.mk Tryz.call137
@[reducible,instance] def iCalF139:=CalF.mk Tryz.call139
@[reducible,instance] def iCalF141:=CalF.mk Tryz.call141
@[reducible,instance] def iCalF142:=CalF.mk Tryz.call142
@[reducible,instance] def iCalF145:=CalF.mk Tryz.call145
@[reducible,instance] def iCalF150:=CalF.mk Tryz.call150
@[reducible,instance] def iCalF151:=CalF.mk Tryz.call151
@[reducible,instance] def iCalF152:=CalF.mk Tryz.call152
@[reducible,instance] def iCalF159:=CalF.mk Tryz.call159
@[reducible,instance] def iCalF163:=CalF.mk Tryz.call163
@[reducible,instance] def iCalF168:=CalF.mk Tryz.call168
@[reducible,instance] def iCalF177:=CalF.mk Tryz.call177
@[reducible,instance] def iCalF181:=CalF.mk Tryz.call181
@[reducible,instance] def iCalF185:=CalF.mk Tryz.call185
@[reducible,instance] def iCalF186:=CalF.mk Tryz.call186
@[reducible,instance] def iCalF187:=CalF.mk Tryz.call187
@[reducible,instance] def iCalF199:=CalF.mk Tryz.call199
@[reducible,instance] def iCalF203:=CalF.mk Tryz.call203
@[reducible,instance] def iCalF204:=CalF.mk Tryz.call204
@[reducible,instance] def iCalF227:=CalF.mk Tryz.call227
@[reducible,instance] def iCalF229:=CalF.mk Tryz.call229
@[reducible,instance] def iCalF230:=CalF.mk Tryz.call230
@[reducible,instance] def iCalF231:=CalF.mk Tryz.call231
@[reducible,instance] def iCalF241:=CalF.mk Tryz.call241
@[reducible,instance] def iCalF247:=CalF.mk Tryz.call247
@[reducible,instance] def iCalF271:=CalF.mk Tryz.call271
@[reducible,instance] def iCalF278:=CalF.mk Tryz.call278
open Go.Proofs.Tryz
set_option synthInstance.maxSize 100000
set_option maxRecDepth 20000
set_option maxHeartbeats 4000000
set_option linter.unusedSimpArgs false
theorem Ybu(v:Value)(xs:List Nat):Cal prog 183 #[v] [Yh 1 Nl v xs] true (G:=Unit) (fun _=>True) (fun _=>Le v (tz xs).length) (fun _=>[Yh 1 Nl (Le v (tz xs).length) (tz xs)]):=by
 refine Zd func183 ntmps183 fun w0 sc hw hsc=>?_
 refine Nw (Zsx (i:=1) J Zk) (fun hself=>?_)
 refine Nw (Gp (i:=1) J Zk) fun hlen=>go 7 ?_
 refine lp (G:=Nat) [] [0] (fun k=>[(0,Le v k)]) (fun k=>[(1,Yh 1 Nl (Le v k) (xs.take k))]) (fun k=>(k≤xs.length)∧(tz (xs.take k)=tz xs)) (fun k=>k) xs.length ⟨Nat.le_refl _,by rw [List.take_length]⟩ ⟨by rw [hself];rfl,trivial⟩ ⟨by rw [hself,List.take_length];rfl,trivial⟩ ?_
 rintro k ⟨hk,ht⟩
 have hl:(xs.take k).length=k:=by rw [List.length_take];omega
 refine go 7 ?_
 refine Yt (d:=6) J (fun s21=>?_) (fun s21=>?_)
 ·refine go 4 ⟨O,?_⟩
  refine Ej (Yn (ii:=1) (i:=k-1) J J J J Zk Pb Lk) J J<|go 5 ⟨O,?_⟩
  refine Zc J (fun h21=>?_) (fun h21=>?_)
  ·have hstep:=Zt2 hk O (by omega:(xs.take k).getD (k-1) 0=0)
   refine go 8 ⟨O,?_⟩
   refine dt (Zv2 (ii:=1) (i:=k-1) J J J J Zk Pb Lk)<|go 3 ?_
   exact Yg (Yal 1 1 (k-1) J J)<|Xf (k-1) ⟨O1,by rw [←ht,←hstep]⟩ O1 ⟨by rw [←Hr v k (k-1)];rfl,trivial⟩ ⟨by rw [Hr,List.take_take,Nat.min_eq_left O];rfl,trivial⟩
  ·refine go 12 ?_
   have hx:tz xs=xs.take k:=by rw [←ht];exact Zdi hk O
   exact Xn hsc () results183 (by rw [hx,hl]) trivial (Ot 1 Za (by rw [hx,hl]))
 ·refine go 23 ?_
  have hx:tz xs=xs.take k:=by rw [←ht];exact Zdi hk O
  exact Xn hsc () results183 (by rw [hx,hl]) trivial (Ot 1 Za (by rw [hx,hl]))
theorem Ph(v:Value)(xs:List Nat):Cal prog 183 #[v] [Yh 1 Nl v xs] false (G:=Unit) (fun _=>True) (fun _=>Le v (tz xs).length) (fun _=>[]):=(Ybu v xs).bare
theorem Zu6(v w:Value)(x y:Nat)(hx:bl x≤4294967296)(hy:bl y≤4294967296):Cal prog 222 #[v,w] [Fa v x,Fa w y] false (G:=Value) (fun r=>True) (fun r=>r) (fun r=>[Fa r (x+y)]):=by
 refine Zd func222 ntmps222 fun w0 sc hw hsc=>?_
 have hX:=Nb x
 have hY:=Nb y
 refine go 5 ?_
 refine jn (G:=Value×Value×Nat×Nat) [] [0,1,2] (fun q=>[(0,q.1),(1,q.2.1)]) (fun q=>[(91,Fa q.1 q.2.2.1),(92,Fa q.2.1 q.2.2.2)]) (fun q=>(q.2.2.1+q.2.2.2=x+y)∧((dg U q.2.2.2).length≤(dg U q.2.2.1).length)∧((dg U q.2.2.1).length≤1099511627776)) ?_ ?_
 ·refine go 9 ?_
  refine Zc J (fun h73=>?_) (fun h73=>?_)
  ·refine go 6 ?_
   exact Yg (Pj 2 91 J J J)<|Yg (Pj 1 92 J J J)<|Pr (w,v,y,x) ⟨O1,O1,O1⟩ K2 K2
  ·refine go 1 ?_
   exact Yg (Pj 1 91 J J J)<|Yg (Pj 2 92 J J J)<|Pr (v,w,x,y) ⟨O1,O1,O1⟩ K2 K2
 ·rintro⟨va,vb,a,b⟩ ⟨hs,hl,hla⟩
  dsimp only at hs hl hla
  dsimp only
  refine go 5 ⟨O,?_⟩
  refine tt (Hm (i:=3) (n:=(dg U a).length+1) (by_:=8) (enc:=Nl) 0 J J J J Pb ti232 J pU.cells pU.pos J J J hw.h) fun v _=>go 17 ?_
  refine lp (G:=Nat×List Nat×Nat) [0,1,5,21] [0,91,92,1,2] (fun q=>[(22,.int .i64 (q.1:Int)),(6,.int .u64 (q.2.2:Int))]) (fun q=>[(3,Oa 1 232 Nl v q.2.1)]) (fun q=>(q.1≤(dg U a).length)∧(q.2.1.length=(dg U a).length+1)∧(∀d∈q.2.1,d<U)∧(q.2.2≤1)∧(Ye U (q.2.1.take q.1)+q.2.2*U^q.1=Ye U ((dg U a).take q.1)+Ye U ((dg U b).take q.1))) (fun q=>(dg U a).length-q.1) (0,List.replicate ((dg U a).length+1) 0,0) ⟨O1,O7,Ob _ Xl,O1,by simp [Ye]⟩ K2 K1 ?_
  rintro⟨k,o,c⟩ ⟨hk,hol,hoa,hc,hv⟩
  dsimp only at hk hol hoa hc hv
  dsimp only
  refine go 6 ?_
  refine Zc J (fun h78=>?_) (fun h78=>?_)
  ·refine go 15 ?_
   refine jn (G:=Unit) [0,1,5,6,7,21,22] [0,3,91,92,1,2] (fun _=>[(8,.int .u64 ((dg U b).getD k 0:Int))]) (fun _=>[]) (fun _=>True) ?_ ?_
   ·refine go 8 ?_
    refine Zc J (fun h80=>?_) (fun h80=>?_)
    ·refine go 7 ⟨O2,O2,?_⟩
     try (have hz:(dg U b).getD k 0=0:=by simp [List.getD,List.getElem?_eq_none (by omega:(dg U b).length≤k)])
     exact Pr () trivial ⟨by first | rfl | (rw [hz];rfl),trivial⟩ trivial
    ·refine go 1 ?_
     try (have hz:(dg U b).getD k 0=0:=by simp [List.getD,List.getElem?_eq_none (by omega:(dg U b).length≤k)])
     exact Pr () trivial ⟨by first | rfl | (rw [hz];rfl),trivial⟩ trivial
   ·rintro _ -
    refine go 9 ⟨O2,O2,?_⟩
    refine dt (Znl J J J J O Zfr)<|go 4 ⟨O2,?_⟩
    refine tt (Mw (i:=3) (enc:=Nl) _ J J J J J J pU J hw.h O3 O2) fun _ _=>go 8 ⟨O,?_⟩
    exact Xf (k+1,_,_) ⟨O1,O8,Mr hoa _ _ (Nat.mod_lt _ Xl),by have h1:=Xh Xl (Ok Xi a) k;have h2:=Xh Xl (Ok Xi b) k;simp only [U]at *;omega,Ye0 hv O⟩ O1 K2 K1
  ·refine go 6 ?_
   obtain rfl:k=(dg U a).length:=O
   refine go 6 ⟨O2,?_⟩
   refine tt (Mw (i:=3) (enc:=Nl) _ J J J J J J pU J hw.h O3 O2) fun _ _=>go 5 ?_
   refine cl 3 [3] (Ph _ _) fun _ _=>?_
   refine Yp (Zaf 3 J J pU)<|go 4 ?_
   have hx:tz (o.set (dg U a).length c)=dg U (x+y):=by
    rw [←Ly Xi _ (Mr hoa _ _ (by simp only [U];omega)),←hs]
    congr 1
    conv=>rhs;rw [←Nd Xi a,←Nd Xi b]
    rw [List.take_of_length_le (Nat.le_refl (dg U a).length),Na U (dg U b) _ hl]at hv
    rw [←hv,←Er U o _ c O,Na _ _ _ O8]
   exact Xn hsc _ results222 J trivial (gow 3 Za hx)
theorem Zd9(v w:Value)(x y:Nat)(hx:bl x≤4294967296)(hxy:y≤x:=by omega):Cal prog 224 #[v,w] [Fa v x,Fa w y] false (G:=Value) (fun r=>True) (fun r=>r) (fun r=>[Fa r (x-y)]):=by
 refine Zd func224 ntmps224 fun w0 sc hw hsc=>?_
 have hX:=Nb x
 have hY:=Nb y
 have hm:=Pn hxy
 refine go 9 ?_
 refine tt (Hm (i:=3) (n:=(dg U x).length) (by_:=8) (enc:=Nl) 0 J J J J Pb ti232 J pU.cells pU.pos J J J hw.h) fun v _=>go 17 ?_
 refine lp (G:=Nat×List Nat×Nat) [0,1,5,13] [0,1,2] (fun q=>[(14,.int .i64 (q.1:Int)),(6,.int .u64 (q.2.2:Int))]) (fun q=>[(3,Oa 1 232 Nl v q.2.1)]) (fun q=>(q.1≤(dg U x).length)∧(q.2.1.length=(dg U x).length)∧(∀d∈q.2.1,d<U)∧(q.2.2≤1)∧(Ye U (q.2.1.take q.1)+Ye U ((dg U y).take q.1)=Ye U ((dg U x).take q.1)+q.2.2*U^q.1)) (fun q=>(dg U x).length-q.1) (0,List.replicate ((dg U x).length) 0,0) ⟨O1,O7,Ob _ Xl,O1,by simp [Ye]⟩ K2 K1 ?_
 rintro⟨k,o,c⟩ ⟨hk,hol,hoa,hc,hv⟩
 dsimp only at hk hol hoa hc hv
 dsimp only
 refine go 6 ?_
 refine Zc J (fun h93=>?_) (fun h93=>?_)
 ·refine go 15 ?_
  refine jn (G:=Unit) [0,1,5,6,7,13,14] [0,3,1,2] (fun _=>[(8,.int .u64 ((dg U y).getD k 0:Int))]) (fun _=>[]) (fun _=>True) ?_ ?_
  ·refine go 8 ?_
   refine Zc J (fun h95=>?_) (fun h95=>?_)
   ·refine go 7 ⟨O2,O2,?_⟩
    try (have hz:(dg U y).getD k 0=0:=by simp [List.getD,List.getElem?_eq_none (by omega:(dg U y).length≤k)])
    exact Pr () trivial ⟨by first | rfl | (rw [hz];rfl),trivial⟩ trivial
   ·refine go 1 ?_
    try (have hz:(dg U y).getD k 0=0:=by simp [List.getD,List.getElem?_eq_none (by omega:(dg U y).length≤k)])
    exact Pr () trivial ⟨by first | rfl | (rw [hz];rfl),trivial⟩ trivial
  ·rintro _ -
   refine go 9 ⟨O2,O2,?_⟩
   refine dt (Yhz J J J J O Zxa)<|go 4 ⟨O2,?_⟩
   refine tt (Mw (i:=3) (enc:=Nl) _ J J J J J J pU J hw.h O3 O2) fun _ _=>go 8 ⟨O,?_⟩
   exact Xf (k+1,_,_) ⟨O1,O8,Mr hoa _ _ (Nat.mod_lt _ Xl),Yei _ _ _,Zzo hc (Xh Xl (Ok Xi x) k) (Xh Xl (Ok Xi y) k) hv O⟩ O1 K2 K1
 ·refine go 8 ?_
  refine cl 3 [3] (Ph _ _) fun _ _=>?_
  refine Yp (Zaf 3 J J pU)<|go 4 ?_
  obtain rfl:k=(dg U x).length:=O
  have hx:tz o=dg U (x-y):=by
   rw [←Ly Xi _ hoa]
   congr 1
   have hly:(dg U y).length≤(dg U x).length:=O
   rw [Na U o _ O,Na U (dg U y) _ hly,Na U (dg U x) _ (Nat.le_refl _),Nd Xi,Nd Xi]at hv
   have h1:=Ze0 Xl o hoa
   rw [hol]at h1
   have h0:c=0∨c=1:=O
   rcases h0 with rfl | rfl<;>omega
  exact Xn hsc _ results224 J trivial (gow 3 Za hx)
theorem Zav(v w:Value)(x y:Nat)(hx:bl x≤4294967296)(hy:bl y≤4294967296):Cal prog 223 #[v,w] [Fa v x,Fa w y] false (G:=Int) (fun r=>(r<0↔x<y)∧(0<r↔y<x)) (fun r=> .int .i64 r) (fun r=>[]):=by
 refine Zd func223 ntmps223 fun w0 sc hw hsc=>?_
 have hX:=Nb x
 have hY:=Nb y
 refine go 15 ?_
 refine Zc J (fun h57=>?_) (fun h57=>?_)
 ·refine go 12 ⟨O,?_⟩
  exact Xn hsc _ results223 J ⟨⟨fun h=>Bt Xi O,fun h=>by have:=Pn (Nat.le_of_lt h);omega⟩,⟨fun h=>Bt Xi O,fun h=>by have:=Pn (Nat.le_of_lt h);omega⟩⟩ Za
 ·have hlen:(dg U x).length=(dg U y).length:=O
  refine go 12 ⟨O,?_⟩
  refine lp (G:=Nat) [0,1] [0,1,2] (fun k=>[(5,.int .i64 ((k:Int)-1))]) (fun k=>[]) (fun k=>(k≤(dg U x).length)∧((dg U x).drop k=(dg U y).drop k)) (fun k=>k) (dg U x).length ⟨O1,by rw [List.drop_length,hlen,List.drop_length]⟩ K1 trivial ?_
  rintro k ⟨hk,hd⟩
  refine go 7 ?_
  refine Zc J (fun h60=>?_) (fun h60=>?_)
  ·refine go 6 ?_
   refine Qe (fun _=>False) [(0,0),(1,0),(2,0),(3,0),(4,0),(5,0),(6,0),(7,0),(8,0),(9,0)]<|go 2 ?_
   refine Qc J J (Qy (Yn (ii:=1) (i:=k-1) J J J J Zk Pb Lk))<|go 3 ⟨O2,?_⟩
   refine Qc J J (Qy (Yn (ii:=2) (i:=k-1) J J J J Zk Pb Lk))<|go 5 ⟨O2,?_⟩
   refine Zc J (fun h62=>?_) (fun h62=>?_)
   ·refine go 12 ?_
    have hlt:=Znq Xl (xs:=dg U x) (ys:=dg U y) (Ok Xi x) (k:=k-1) O O (by rw [show k-1+1=k by omega];exact hd) O
    rw [Nd Xi,Nd Xi]at hlt
    exact Xn hsc (-1) results223 J O Za
   ·refine go 1 ?_
    refine Qe (fun _=>False) [(0,0),(1,0),(2,0),(3,0),(4,0),(5,0),(6,0),(7,0),(8,0),(9,0)]<|go 2 ?_
    refine Qc J J (Qy (Yn (ii:=1) (i:=k-1) J J J J Zk Pb Lk))<|go 3 ⟨O2,?_⟩
    refine Qc J J (Qy (Yn (ii:=2) (i:=k-1) J J J J Zk Pb Lk))<|go 5 ⟨O2,?_⟩
    refine Zc J (fun h64=>?_) (fun h64=>?_)
    ·refine go 12 ?_
     have hlt:=Znq Xl (xs:=dg U y) (ys:=dg U x) (Ok Xi y) (k:=k-1) O O (by rw [show k-1+1=k by omega];exact hd.symm) O
     rw [Nd Xi,Nd Xi]at hlt
     exact Xn hsc 1 results223 J O Za
    ·refine go 9 ⟨O,?_⟩
     exact Xf (k-1) ⟨O1,by have:=Zej (xs:=dg U x) (ys:=dg U y) (k:=k-1) O O (by rw [show k-1+1=k by omega];exact hd) O;exact this⟩ O1 ⟨by rw [show(((k-1:Nat):Int)-1)=(k:Int)-1-1 by omega];rfl,trivial⟩ trivial
  ·refine go 11 ?_
   obtain rfl:k=0:=O
   have heq:x=y:=(Zfn Xi).1 (by simpa using hd)
   exact Xn hsc 0 results223 J O Za
theorem Yeo(x y:Nat)(hx:x<U)(hy:y<U):Om prog 268 #[.int .u64 (x:Int),.int .u64 (y:Int)] [] (.tuple #[.int .u64 ((x*y/U:Nat):Int),.int .u64 ((x*y%U:Nat):Int)]):=by
 refine Zd func268 ntmps268 fun w0 sc hw hsc=>?_
 simp only [U]at hx hy
 refine go 9 ?_
 refine dt (Zog J J J hx)<|go 6 ?_
 refine dt (Gc (n:=32) (n':=4294967296) J J J J J)<|go 6 ?_
 refine dt (Zog J J J hy)<|go 6 ?_
 refine dt (Gc (n:=32) (n':=4294967296) J J J J J)<|go 7 ?_
 refine dt (Ek J J J)<|go 7 ?_
 refine dt (Ek J J J)<|go 1 ?_
 refine dt (Gc (n:=32) (n':=4294967296) J J J J J)<|dt (Dm J J J)<|go 6 ?_
 refine dt (Zog J J J (Nat.mod_lt _ Xl))<|go 6 ?_
 refine dt (Gc (n:=32) (n':=4294967296) J J J J J)<|go 8 ?_
 refine dt (Ek J J J)<|dt (Dm J J J)<|go 7 ?_
 refine dt (Ek J J J)<|go 1 ?_
 refine dt (Dm J J J)<|go 1 ?_
 refine dt (Gc (n:=32) (n':=4294967296) J J J J J)<|dt (Dm J J J)<|go 7 ?_
 refine dt (Ek J J J)<|go 4 ?_
 exact Mi hsc () results268 (by rw [Ybx hx hy _ _ rfl rfl]) trivial Za
theorem Zu4(v w:Value)(x y:Nat)(hx:bl x≤4294967296)(hy:bl y≤4294967296):Cal prog 220 #[v,w] [Fa v x,Fa w y] false (G:=Value) (fun r=>True) (fun r=>r) (fun r=>[Fa r (x*y)]):=by
 refine Zd func220 ntmps220 fun w0 sc hw hsc=>?_
 have hX:=Nb x
 have hY:=Nb y
 refine go 12 ⟨O,?_⟩
 refine tt (Hm (i:=3) (n:=(dg U x).length+(dg U y).length) (by_:=8) (enc:=Nl) 0 J J J J Pb ti232 J pU.cells pU.pos J J J hw.h) fun v _=>go 12 ?_
 refine lp (G:=Nat×List Nat) [1,5,20,21] [0,1,2] (fun q=>[(22,.int .i64 (q.1:Int))]) (fun q=>[(3,Oa 1 232 Nl v q.2)]) (fun q=>(q.1≤(dg U x).length)∧(q.2.length=(dg U x).length+(dg U y).length)∧(∀d∈q.2,d<U)∧(∀j,q.1+(dg U y).length≤j→q.2.getD j 0=0)∧(Ye U (q.2.take (q.1+(dg U y).length))=Ye U ((dg U x).take q.1)*y)) (fun q=>(dg U x).length-q.1) (0,List.replicate ((dg U x).length+(dg U y).length) 0) ⟨O1,O7,Ob _ Xl,fun j _=>Lx _ j,by simp [Ye,List.take_replicate,Iv]⟩ K1 K1 ?_
 rintro⟨i,o⟩ ⟨hi,hol,hoa,hz,hv⟩
 dsimp only at hi hol hoa hz hv
 dsimp only
 refine go 6 ?_
 refine Zc J (fun h106=>?_) (fun h106=>?_)
 ·refine go 27 ⟨O2,O2,?_⟩
  refine lp (G:=Nat×List Nat×Nat) [1,5,6,7,20,21,22,27,28] [0,1,2] (fun q=>[(29,.int .i64 (q.1:Int)),(8,.int .u64 (q.2.2:Int))]) (fun q=>[(3,Oa 1 232 Nl v q.2.1)]) (fun q=>(q.1≤(dg U y).length)∧(q.2.1.length=(dg U x).length+(dg U y).length)∧(∀d∈q.2.1,d<U)∧(∀j,i+(dg U y).length≤j→q.2.1.getD j 0=0)∧(q.2.2<U)∧(Ye U (q.2.1.take (i+(dg U y).length))+q.2.2*U^(i+q.1)=Ye U ((dg U x).take i)*y+(dg U x).getD i 0*U^i*Ye U ((dg U y).take q.1))) (fun q=>(dg U y).length-q.1) (0,o,0) ⟨O1,hol,hoa,hz,Xl,by rw [hv];simp [Ye]⟩ K2 K1 ?_
  rintro⟨k,p,c⟩ ⟨hk,hpl,hpa,hpz,hcU,hpv⟩
  dsimp only at hk hpl hpa hpz hcU hpv
  dsimp only
  have hdig:=Zx0 (Xh Xl (Ok Xi x) i) (Xh Xl (Ok Xi y) k) (Xh Xl hpa (i+k)) hcU
  refine go 6 ?_
  refine Zc J (fun h108=>?_) (fun h108=>?_)
  ·refine go 17 ⟨O2,O2,?_⟩
   refine cl 3 [] (Yeo _ _ (Xh Xl (Ok Xi _) _) (Xh Xl (Ok Xi _) _)) fun _ _=>go 14 ⟨O,?_⟩
   refine dt (Yn (ii:=3) (i:=i+k) J J J J (Ys pU) Pb Lk)<|go 1 ⟨O2,?_⟩
   refine dt (Znl (c:=0) J J J J O Zfr)<|go 11 ?_
   refine dt (Dm J J J)<|go 7 ?_
   refine dt (Znl (c:=0) J J J J O Zfr)<|go 15 ⟨O,?_⟩
   refine dt (Dm J J J)<|dt (Yn (ii:=3) (i:=i+k) J J J J (Ys pU) Pb Lk)<|tt (Mw (i:=3) (enc:=Nl) _ J J J J J J pU J hw.h O3 O2) fun _ _=>go 8 ⟨O,?_⟩
   exact Xf (k+1,_,_) ⟨O1,O8,Mr hpa _ _ (Nat.mod_lt _ Xl),fun j hj=>by rw [Pv _ _ _ _ _ O,if_neg O];exact hpz j hj,hdig.2,Ybw hpv O O hdig.1⟩ O1 K2 K1
  ·refine go 5 ?_
   obtain rfl:k=(dg U y).length:=O
   have hfin:=hpv
   rw [List.take_of_length_le (Nat.le_refl (dg U y).length),Nd Xi]at hfin
   refine go 7 ⟨O,?_⟩
   refine dt (Yn (ii:=3) (i:=i+(dg U y).length) J J J J (Ys pU) Pb Lk)<|tt (Mw (i:=3) (enc:=Nl) _ J J J J J J pU J hw.h O3 O2) fun _ _=>go 7 ⟨O,?_⟩
   exact Xf (i+1,_) ⟨O1,O8,Mr hpa _ _ hcU,fun j hj=>by rw [Pv _ _ _ _ _ O,if_neg O];exact hpz j O,by dsimp only;rw [show i+1+(dg U y).length=i+(dg U y).length+1 by omega,Er _ _ _ _ O,Xr,Nat.add_mul,←hfin]⟩ O1 K1 K1
 ·refine go 8 ?_
  refine cl 3 [3] (Ph _ _) fun _ _=>?_
  refine Yp (Zaf 3 J J pU)<|go 4 ?_
  obtain rfl:i=(dg U x).length:=O
  have hx:tz o=dg U (x*y):=by
   rw [←Ly Xi _ hoa]
   congr 1
   rw [Na U o _ O,List.take_of_length_le (Nat.le_refl _),Nd Xi]at hv
   exact hv
  exact Xn hsc _ results220 J trivial (gow 3 Za hx)
set_option maxHeartbeats 1000000 in
theorem Zrb(x:Nat)(hx:x<U):Om prog 251 #[.int .u64 (x:Int)] [] (.int .i64 (bl x:Int)):=by
 refine Zd func251 ntmps251 fun w0 sc hw hsc=>?_
 simp only [U]at hx
 have e32:=Ij x 32
 have e16:=Ij x 16
 have e8:=Ij x 8
 have e24:=Ij x 24
 have e40:=Ij x 40
 have e48:=Ij x 48
 have e56:=Ij x 56
 have f32:=Zae 32 x
 have f16:=Zae 16 x
 have f8:=Zae 8 x
 have f24:=Zae 24 x
 have f40:=Zae 40 x
 have f48:=Zae 48 x
 have f56:=Zae 56 x
 have d1:=Nat.div_div_eq_div_mul x (2^32) (2^16)
 have d2:=Nat.div_div_eq_div_mul x (2^32) (2^8)
 have d3:=Nat.div_div_eq_div_mul x (2^16) (2^8)
 have d4:=Nat.div_div_eq_div_mul (x/2^32) (2^16) (2^8)
 have d5:=Nat.div_div_eq_div_mul x (2^32) (2^16*2^8)
 simp only [Nat.reducePow,Nat.reduceMul]at *
 refine go 12 ?_
 refine Zc J (fun h338=>?_) (fun h338=>?_)
 ·refine go 3 ?_
  refine dt (Gc (n:=32) (n':=4294967296) J J J J J)<|go 14 ?_
  refine Zc J (fun h342=>?_) (fun h342=>?_)
  ·refine go 3 ?_
   refine dt (Gc (n:=16) (n':=65536) J J J J J)<|go 16 ⟨O,?_⟩
   refine Zc J (fun h346=>?_) (fun h346=>?_)
   ·refine go 3 ?_
    refine dt (Gc (n:=8) (n':=256) J J J J J)<|go 13 ⟨O,?_⟩
    refine dt (Zck J J Zaj uT5)<|dt (Zf9 J J J uT9 J O O3 O5)<|dt (Za7 J J uT5 uT3 (Cp _))<|go 5 ⟨Ea _ O O,?_⟩
    exact Xn hsc () results251 (Co (n:=x) O (by first | omega | (simp only [Nat.div_div_eq_div_mul,Nat.reduceMul,e32,e16,e8,e24,e40,e48,e56];omega))).symm trivial Za
   ·refine go 6 ?_
    refine dt (Zck J J Zaj uT5)<|dt (Zf9 J J J uT9 J O O3 O5)<|dt (Za7 J J uT5 uT3 (Cp _))<|go 5 ⟨Ea _ O O,?_⟩
    exact Xn hsc () results251 (Co (n:=x) O (by first | omega | (simp only [Nat.div_div_eq_div_mul,Nat.reduceMul,e32,e16,e8,e24,e40,e48,e56];omega))).symm trivial Za
  ·refine go 9 ?_
   refine Zc J (fun h346_2=>?_) (fun h346_2=>?_)
   ·refine go 3 ?_
    refine dt (Gc (n:=8) (n':=256) J J J J J)<|go 13 ⟨O,?_⟩
    refine dt (Zck J J Zaj uT5)<|dt (Zf9 J J J uT9 J O O3 O5)<|dt (Za7 J J uT5 uT3 (Cp _))<|go 5 ⟨Ea _ O O,?_⟩
    exact Xn hsc () results251 (Co (n:=x) O (by first | omega | (simp only [Nat.div_div_eq_div_mul,Nat.reduceMul,e32,e16,e8,e24,e40,e48,e56];omega))).symm trivial Za
   ·refine go 6 ?_
    refine dt (Zck J J Zaj uT5)<|dt (Zf9 J J J uT9 J O O3 O5)<|dt (Za7 J J uT5 uT3 (Cp _))<|go 5 ⟨Ea _ O O,?_⟩
    exact Xn hsc () results251 (Co (n:=x) O (by first | omega | (simp only [Nat.div_div_eq_div_mul,Nat.reduceMul,e32,e16,e8,e24,e40,e48,e56];omega))).symm trivial Za
 ·refine go 9 ?_
  refine Zc J (fun h342_2=>?_) (fun h342_2=>?_)
  ·refine go 3 ?_
   refine dt (Gc (n:=16) (n':=65536) J J J J J)<|go 16 ⟨O,?_⟩
   refine Zc J (fun h346_3=>?_) (fun h346_3=>?_)
   ·refine go 3 ?_
    refine dt (Gc (n:=8) (n':=256) J J J J J)<|go 13 ⟨O,?_⟩
    refine dt (Zck J J Zaj uT5)<|dt (Zf9 J J J uT9 J O O3 O5)<|dt (Za7 J J uT5 uT3 (Cp _))<|go 5 ⟨Ea _ O O,?_⟩
    exact Xn hsc () results251 (Co (n:=x) O (by first | omega | (simp only [Nat.div_div_eq_div_mul,Nat.reduceMul,e32,e16,e8,e24,e40,e48,e56];omega))).symm trivial Za
   ·refine go 6 ?_
    refine dt (Zck J J Zaj uT5)<|dt (Zf9 J J J uT9 J O O3 O5)<|dt (Za7 J J uT5 uT3 (Cp _))<|go 5 ⟨Ea _ O O,?_⟩
    exact Xn hsc () results251 (Co (n:=x) O (by first | omega | (simp only [Nat.div_div_eq_div_mul,Nat.reduceMul,e32,e16,e8,e24,e40,e48,e56];omega))).symm trivial Za
  ·refine go 9 ?_
   refine Zc J (fun h346_4=>?_) (fun h346_4=>?_)
   ·refine go 3 ?_
    refine dt (Gc (n:=8) (n':=256) J J J J J)<|go 13 ⟨O,?_⟩
    refine dt (Zck J J Zaj uT5)<|dt (Zf9 J J J uT9 J O O3 O5)<|dt (Za7 J J uT5 uT3 (Cp _))<|go 5 ⟨Ea _ O O,?_⟩
    exact Xn hsc () results251 (Co (n:=x) O (by first | omega | (simp only [Nat.div_div_eq_div_mul,Nat.reduceMul,e32,e16,e8,e24,e40,e48,e56];omega))).symm trivial Za
   ·refine go 6 ?_
    refine dt (Zck J J Zaj uT5)<|dt (Zf9 J J J uT9 J O O3 O5)<|dt (Za7 J J uT5 uT3 (Cp _))<|go 5 ⟨Ea _ O O,?_⟩
    exact Xn hsc () results251 (Co (n:=x) O (by first | omega | (simp only [Nat.div_div_eq_div_mul,Nat.reduceMul,e32,e16,e8,e24,e40,e48,e56];omega))).symm trivial Za
theorem Zn0(x:Nat)(hx:x<U):Om prog 272 #[.int .u64 (x:Int)] [] (.int .i64 ((64-bl x:Nat):Int)):=by
 refine Zd func272 ntmps272 fun w0 sc hw hsc=>?_
 have hb:bl x≤64:=(Xw 64 x).2 hx
 refine go 8 ?_
 refine cl 0 [] (Zrb _ hx) fun _ _=>go 5 ⟨O,?_⟩
 exact Xn hsc () results272 (by congr 1;omega) trivial Za
theorem Zid(v:Value)(x:Nat)(hx:bl x≤1099511627776:=by omega):Om prog 232 #[v] [Fa v x] (.int .i64 (bl x:Int)):=by
 refine Zd func232 ntmps232 fun w0 sc hw hsc=>?_
 have hX:=Nb x
 refine go 13 ?_
 refine Zc J (fun h39=>?_) (fun h39=>?_)
 ·refine go 7 ?_
  have h0:x=0:=(Pe Xi x).1 O
  exact Xn hsc () results232 (by rw [h0];rfl) trivial Za
 ·have hp:0<x:=by rcases Nat.eq_zero_or_pos x with rfl | h;(simp [Iq]at h39);exact h
  obtain⟨z1,z2,z3,z4⟩:=Zua hp
  refine go 11 ⟨O,O,?_⟩
  refine dt (Yn (ii:=1) (i:=(dg U x).length-1) J J J J Zk Pb Lk)<|go 1 ⟨O2,?_⟩
  refine cl 1 [] (Zn0 _ (Xh Xl (Ok Xi _) _)) fun _ _=>go 5 ⟨O,?_⟩
  exact Xn hsc () results232 (by congr 1;omega) trivial Za
theorem Zys(v:Value)(xs:List Nat)(hx:xs.length*8≤140737488355328):Yi9 prog 309 #[v] [Yh 1 Nl v xs] (G:=Value) (fun r=>True) (fun r=>r) (fun r=>Oa 1 232 Nl r xs):=by
 refine Zwm func309 J ntmps309 J K1 ?_
 intro w0 sc hw hsc;have hw:=Hw.mk hw
 simp only [Pa,Xu]
 refine Nw (f_nil (i:=1) J Zk) fun hnil=>go 9 ?_
 refine dt (Zv4 J J J (i:=1) J Zk Pb)<|go 2 ?_
 refine Lb J (fun h357=>?_) (fun h357=>?_)
 ·refine go 7 ?_
  obtain rfl:xs=[]:=hnil (by simpa using h357)
  exact Yg (Pm 9 1 232 Nl)<|Zlf (.inl J) (.slice none 0 0) _ (fun a w hs=>Zb6 hs results309 J) J trivial J 9 J J J
 ·refine go 4 ?_
  refine tt (t_bs0 (i:=2) (enc:=Nl) J J J Pb pU J hw.h) fun v _=>go 1 ?_
  refine tt (Nz (i:=2) (j:=1) (by_:=8) J J J J J J O3 J Zk Pb ti232 J pU J J J O8 O3 J hw.h) fun v_2 _=>go 4 ?_
  exact Zlf (.inl J) _ _ (fun a w hs=>Zb6 hs results309 J) J trivial J 2 J (by rfl) J
set_option maxHeartbeats 1600000 in
theorem Zrc(h l y:Nat)(hl:l<U)(hy:y<U)(hh:h<y):Om prog 294 #[.int .u64 (h:Int),.int .u64 (l:Int),.int .u64 (y:Int)] [] (.tuple #[.int .u64 (((h*U+l)/y:Nat):Int),.int .u64 (((h*U+l)%y:Nat):Int)]):=by
 refine Zd func294 ntmps294 fun w0 sc hw hsc=>?_
 have hUe:U=18446744073709551616:=rfl
 have hp:0<y:=O
 have hbl:bl y≤64:=(Xw 64 y).2 hy
 obtain⟨s,hs⟩:∃s,s=64-bl y:=⟨_,rfl⟩
 obtain⟨Y,hYe⟩:∃Y,Y=y*2^s:=⟨_,rfl⟩
 obtain⟨hY1,hY2⟩:=Ybr hp hy hs
 rw [←hYe]at hY1 hY2
 have hYU:=hY2
 obtain⟨D,hD⟩:∃D,D=(h*U+l)*2^s:=⟨_,rfl⟩
 obtain⟨u,hue⟩:∃u,u=D/U:=⟨_,rfl⟩
 obtain⟨v,hve⟩:∃v,v=D%U:=⟨_,rfl⟩
 obtain⟨v1,hv1e⟩:∃x,x=v/4294967296:=⟨_,rfl⟩
 obtain⟨v0,hv0e⟩:∃x,x=v%4294967296:=⟨_,rfl⟩
 obtain⟨y1,hy1e⟩:∃x,x=Y/4294967296:=⟨_,rfl⟩
 obtain⟨y0,hy0e⟩:∃x,x=Y%4294967296:=⟨_,rfl⟩
 have hYs:Y=y1*4294967296+y0:=O
 have hhs:=shl_lt hh (show y*2^s<U by rw [←hYe];exact hY2)
 have huY:u<Y:=by rw [hue,hD,hYe];exact top_lt hl hh
 have hu:u<y1*4294967296+y0:=O
 have hvU:v<U:=by rw [hve];exact Nat.mod_lt _ Xl
 have hy1:2147483648≤y1:=O
 have hy1l:y1<4294967296:=O
 have hy0:y0<4294967296:=O
 have hv1:v1<4294967296:=O
 have hv0:v0<4294967296:=O
 obtain⟨Q1,hQ1⟩:∃x,x=(u*4294967296+v1)/Y:=⟨_,rfl⟩
 obtain⟨t,hte⟩:∃x,x=(u*4294967296+v1)%Y:=⟨_,rfl⟩
 have htY:t<Y:=by rw [hte];exact Nat.mod_lt _ O
 have ht:t<y1*4294967296+y0:=O
 obtain⟨Q0,hQ0⟩:∃x,x=(t*4294967296+v0)/Y:=⟨_,rfl⟩
 have hY0:0<Y:=O
 obtain⟨hd1,hd2⟩:=dv_two (D:=D) hY0 hue hve hv1e hv0e
 rw [←hQ1,←hte,←hQ0]at hd1
 rw [←hte]at hd2
 have hQ0l:Q0<4294967296:=by rw [hQ0,hYs];exact dv_Q hv0 ht
 have hQ1l:Q1<4294967296:=by rw [hQ1,hYs];exact dv_Q hv1 hu
 refine go 13 ?_
 refine Zc J (fun h519=>?_) (fun h519=>?_)
 ·exfalso;omega
 ·refine go 10 ?_
  refine Zc J (fun h522=>?_) (fun h522=>?_)
  ·exfalso;omega
  ·refine go 9 ?_
   refine Zc J (fun h527=>?_) (fun h527=>?_)
   ·refine go 1 ?_
    refine Qe (fun _=>False) [(0,0),(1,0),(2,0),(3,0),(4,0),(5,0),(6,0),(7,3)]<|go 2 ?_
    refine Qc J J (Qy (Zzc J J J))<|go 2 ?_
    refine Qc J J (Qy (u_rem J J J O))<|go 6 ?_
    exact Mi hsc () results294 (by have h0:h=0:=O;rw [h0];simp) trivial Za
   ·refine go 5 ?_
    refine cl 0 [] (Zn0 _ hy) fun _ _=>?_
    refine dt (Zs8 J J uT3 underlying230 (by simp only [U];omega))<|go 4 ?_
    refine Zf (My 8 (v':= .int .u64 (s:Int)) J (by rw [hs]))<|go 3 ?_
    refine dt (Zke J J J J)<|go 4 ?_
    refine Zf (My 2 (v':= .int .u64 (Y:Int)) J (by rw [hYe,Nat.mod_eq_of_lt (by rw [←hYe];exact hYU)]))<|go 2 ?_
    refine dt (Gc (n:=32) (n':=4294967296) J J J J J)<|go 6 ?_
    refine dt (Zog J J J)<|go 7 ?_
    refine dt (Zke J J J J)<|go 2 ?_
    refine dt (Zcb J J J (by first | exact Nat.mod_lt _ Xl | omega))<|dt (Zkd J J (n:=64-s) J (by simp only [U];omega))<|dt (Yfl J J J (Nat.mod_lt _ Xl) (Nat.lt_of_le_of_lt (Nat.div_le_self _ _) hl))<|go 4 ?_
    refine Zf (My 11 (v':= .int .u64 (u:Int)) J (by rw [hue,hD,Ybm O hhs hl]))<|go 3 ?_
    refine dt (Zke J J J J)<|go 4 ?_
    refine Zf (My 12 (v':= .int .u64 (v:Int)) J (by rw [hve,hD,Zx2 h l s]))<|go 2 ?_
    refine dt (Gc (n:=32) (n':=4294967296) J J J J J)<|go 4 ?_
    refine Zf (My 13 (v':= .int .u64 (v1:Int)) J (by rw [hv1e]))<|go 2 ?_
    refine dt (Zog J J J)<|go 4 ?_
    refine Zf (My 14 (v':= .int .u64 (v0:Int)) J (by rw [Zre,hv0e]))<|Zf (My 9 (v':= .int .u64 (y1:Int)) J (by rw [hy1e]))<|Zf (My 10 (v':= .int .u64 (y0:Int)) J (by rw [Zre,hy0e]))<|go 3 ?_
    refine dt (Zzc J J J)<|go 8 ?_
    refine dt (Ek J J J)<|dt (Zcb J J J (by first | exact Nat.mod_lt _ Xl | omega))<|go 3 ?_
    refine jn (G:=Unit) [2,8,9,10,11,13,14] [0] (fun _=>[(15,.int .u64 ((Q1:Nat):Int))]) (fun _=>[]) (fun _=>True) ?_ ?_
    ·refine go 1 ?_
     refine Zf (My 16 (v':= .int .u64 ((u%y1:Nat):Int)) J (by rw [rsub O O]))<|lp (G:=Nat×Nat) [2,8,9,10,11,13,14] [0] (fun q=>[(15,.int .u64 (q.1:Int)),(16,.int .u64 (q.2:Int))]) (fun q=>[]) (fun q=>(dvI u v1 y1 y0 q.1 q.2)∧(q.2<4294967296)) (fun q=>q.1) (u/y1,u%y1) ⟨dv0 hy1 hy1l hy0 hv1 hu,Nat.lt_trans (Nat.mod_lt _ O) hy1l⟩ K2 trivial ?_
     rintro⟨a,r⟩ ⟨hI,hr⟩
     dsimp only at hI hr
     dsimp only
     have hI1:=hI.1
     have hI2:=hI.2.1
     refine go 6 ?_
     refine Yt (d:=69) J (fun s547=>?_) (fun s547=>?_)
     ·refine go 16 ?_
      have hst:=Zg4 O hI hv1 hu O
      have hst1:=hst.1
      refine go 2 ?_
      refine dt (Zcb (n:=1) J J J)<|go 4 ?_
      refine Zf (My 15 (v':= .int .u64 ((a-1:Nat):Int)) J (Ah (Zqt hst1 O)))<|go 3 ?_
      refine dt (Dm J J J)<|go 4 ?_
      refine Zf (My 16 (v':= .int .u64 ((r+y1:Nat):Int)) J (Ah (Nat.mod_eq_of_lt O)))<|go 5 ?_
      refine Zc J (fun h550=>?_) (fun h550=>?_)
      ·refine go 4 ?_
       have hq:Q1=a-1:=by rw [hQ1,hYs];exact(Zeh O hy0 hst.2 O O).symm
       exact Pr () trivial ⟨by rw [hq];rfl,trivial⟩ trivial
      ·refine go 2 ?_
       exact Xf (a-1,r+y1) ⟨hst.2,O11⟩ O1 K2 trivial
     ·have hm1:=Zpv (show a<4294967296 by omega) hy0
      have e1:=Nat.mod_eq_of_lt (show a*y0<U from hm1)
      have e2:=Nat.mod_eq_of_lt (show 4294967296*r<U by omega)
      have e3:=Nat.mod_eq_of_lt (show 4294967296*r+v1<U by omega)
      refine go 2 ?_
      refine Ej (Ek J J J) J J<|go 1 ?_
      refine Ej (Ek J J J) J J<|go 1 ?_
      refine Ej (Dm J J J) J J<|go 4 ?_
      refine Zc J (fun h547=>?_) (fun h547=>?_)
      ·rw [e1,e2,e3]at h547
       refine go 4 ?_
       have hst:=Zg4 O hI hv1 hu O
       have hst1:=hst.1
       refine go 2 ?_
       refine dt (Zcb (n:=1) J J J)<|go 4 ?_
       refine Zf (My 15 (v':= .int .u64 ((a-1:Nat):Int)) J (Ah (Zqt hst1 O)))<|go 3 ?_
       refine dt (Dm J J J)<|go 4 ?_
       refine Zf (My 16 (v':= .int .u64 ((r+y1:Nat):Int)) J (Ah (Nat.mod_eq_of_lt O)))<|go 5 ?_
       refine Zc J (fun h550_2=>?_) (fun h550_2=>?_)
       ·refine go 4 ?_
        have hq:Q1=a-1:=by rw [hQ1,hYs];exact(Zeh O hy0 hst.2 O O).symm
        exact Pr () trivial ⟨by rw [hq];rfl,trivial⟩ trivial
       ·refine go 2 ?_
        exact Xf (a-1,r+y1) ⟨hst.2,O11⟩ O1 K2 trivial
      ·rw [e1,e2,e3]at h547
       refine go 4 ?_
       have hq:Q1=a:=by rw [hQ1,hYs];exact(Znj O hI O).symm
       exact Pr () trivial ⟨by rw [hq];rfl,trivial⟩ trivial
    ·rintro _ -
     refine go 3 ?_
     refine dt (Ek J J J)<|go 1 ?_
     refine dt (Dm J J J)<|go 2 ?_
     refine dt (Ek J J J)<|dt (Zcb J J J (by first | exact Nat.mod_lt _ Xl | omega))<|go 4 ?_
     refine Zf (My 17 (v':= .int .u64 (t:Int)) J (by rw [hte,hQ1,Zvu hY0 hYU]))<|go 3 ?_
     refine dt (Zzc J J J)<|go 8 ?_
     refine dt (Ek J J J)<|dt (Zcb J J J (by first | exact Nat.mod_lt _ Xl | omega))<|go 3 ?_
     refine jn (G:=Unit) [2,8,14,15,17] [0] (fun _=>[(18,.int .u64 ((Q0:Nat):Int))]) (fun _=>[]) (fun _=>True) ?_ ?_
     ·refine go 1 ?_
      refine Zf (My 16 (v':= .int .u64 ((t%y1:Nat):Int)) J (by rw [rsub O O]))<|lp (G:=Nat×Nat) [2,8,9,10,14,15,17] [0] (fun q=>[(18,.int .u64 (q.1:Int)),(16,.int .u64 (q.2:Int))]) (fun q=>[]) (fun q=>(dvI t v0 y1 y0 q.1 q.2)∧(q.2<4294967296)) (fun q=>q.1) (t/y1,t%y1) ⟨dv0 hy1 hy1l hy0 hv0 ht,Nat.lt_trans (Nat.mod_lt _ O) hy1l⟩ K2 trivial ?_
      rintro⟨a,r⟩ ⟨hI,hr⟩
      dsimp only at hI hr
      dsimp only
      have hI1:=hI.1
      have hI2:=hI.2.1
      refine go 6 ?_
      refine Yt (d:=104) J (fun s559=>?_) (fun s559=>?_)
      ·refine go 16 ?_
       have hst:=Zg4 O hI hv0 ht O
       have hst1:=hst.1
       refine go 2 ?_
       refine dt (Zcb (n:=1) J J J)<|go 4 ?_
       refine Zf (My 18 (v':= .int .u64 ((a-1:Nat):Int)) J (Ah (Zqt hst1 O)))<|go 3 ?_
       refine dt (Dm J J J)<|go 4 ?_
       refine Zf (My 16 (v':= .int .u64 ((r+y1:Nat):Int)) J (Ah (Nat.mod_eq_of_lt O)))<|go 5 ?_
       refine Zc J (fun h562=>?_) (fun h562=>?_)
       ·refine go 4 ?_
        have hq:Q0=a-1:=by rw [hQ0,hYs];exact(Zeh O hy0 hst.2 O O).symm
        exact Pr () trivial ⟨by rw [hq];rfl,trivial⟩ trivial
       ·refine go 2 ?_
        exact Xf (a-1,r+y1) ⟨hst.2,O11⟩ O1 K2 trivial
      ·have hm1:=Zpv (show a<4294967296 by omega) hy0
       have e1:=Nat.mod_eq_of_lt (show a*y0<U from hm1)
       have e2:=Nat.mod_eq_of_lt (show 4294967296*r<U by omega)
       have e3:=Nat.mod_eq_of_lt (show 4294967296*r+v0<U by omega)
       refine go 2 ?_
       refine Ej (Ek J J J) J J<|go 1 ?_
       refine Ej (Ek J J J) J J<|go 1 ?_
       refine Ej (Dm J J J) J J<|go 4 ?_
       refine Zc J (fun h559=>?_) (fun h559=>?_)
       ·rw [e1,e2,e3]at h559
        refine go 4 ?_
        have hst:=Zg4 O hI hv0 ht O
        have hst1:=hst.1
        refine go 2 ?_
        refine dt (Zcb (n:=1) J J J)<|go 4 ?_
        refine Zf (My 18 (v':= .int .u64 ((a-1:Nat):Int)) J (Ah (Zqt hst1 O)))<|go 3 ?_
        refine dt (Dm J J J)<|go 4 ?_
        refine Zf (My 16 (v':= .int .u64 ((r+y1:Nat):Int)) J (Ah (Nat.mod_eq_of_lt O)))<|go 5 ?_
        refine Zc J (fun h562_2=>?_) (fun h562_2=>?_)
        ·refine go 4 ?_
         have hq:Q0=a-1:=by rw [hQ0,hYs];exact(Zeh O hy0 hst.2 O O).symm
         exact Pr () trivial ⟨by rw [hq];rfl,trivial⟩ trivial
        ·refine go 2 ?_
         exact Xf (a-1,r+y1) ⟨hst.2,O11⟩ O1 K2 trivial
       ·rw [e1,e2,e3]at h559
        refine go 4 ?_
        have hq:Q0=a:=by rw [hQ0,hYs];exact(Znj O hI O).symm
        exact Pr () trivial ⟨by rw [hq];rfl,trivial⟩ trivial
     ·rintro _ -
      refine go 3 ?_
      refine dt (Ek J J J)<|go 1 ?_
      refine dt (Dm J J J)<|go 1 ?_
      refine dt (Ek J J J)<|go 1 ?_
      refine dt (Dm J J J)<|go 2 ?_
      refine dt (Ek J J J)<|dt (Zcb J J J (by first | exact Nat.mod_lt _ Xl | omega))<|go 1 ?_
      refine dt (Zkd J J J J)<|go 5 ?_
      have hA:(Q1*4294967296%U+Q0)%U=(h*U+l)/y:=by rw [←Zkl _ y s,←hD,←hYe,hd1];simp only [U];omega
      have hB:((t*4294967296%U+v0)%U+(U-(Q0*Y)%U))%U/2^s=(h*U+l)%y:=by rw [←Zkk _ y s,←hD,←hYe,hd2,hQ0,Zvu hY0 hYU]
      exact Mi hsc () results294 (by rw [hA,hB]) trivial Za
theorem Zxz(v:Value)(x d:Nat)(hx:bl x≤8589934592)(hd:0<d)(hdU:d<U):Cal prog 292 #[v,.int .u64 (d:Int)] [Fa v x] false (G:=Value) (fun r=>True) (fun r=> .tuple #[r,.int .u64 ((x%d:Nat):Int)]) (fun r=>[Fa r (x/d)]):=by
 refine Zd func292 ntmps292 fun w0 sc hw hsc=>?_
 have hX:=Nb x
 refine go 10 ?_
 refine tt (Hm (i:=2) (n:=(dg U x).length) (by_:=8) (enc:=Nl) 0 J J J J Pb ti232 J pU.cells pU.pos J J J hw.h) fun v _=>go 18 ⟨O,?_⟩
 refine lp (G:=Nat×List Nat×Nat) [0,1,6] [0,1] (fun q=>[(8,.int .i64 ((q.1:Int)-1)),(7,.int .u64 (q.2.2:Int))]) (fun q=>[(2,Oa 1 232 Nl v q.2.1)]) (fun q=>(q.1≤(dg U x).length)∧(q.2.1.length=(dg U x).length)∧(q.2.2<d)∧(∀d∈q.2.1,d<U)∧(Ye U (q.2.1.drop q.1)*d+q.2.2=Ye U ((dg U x).drop q.1))) (fun q=>q.1) ((dg U x).length,List.replicate (dg U x).length 0,0) ⟨Nat.le_refl _,O7,O1,Ob _ Xl,by simp [Ye]⟩ K2 K1 ?_
 rintro⟨k,o,r⟩ ⟨hk,hol,hr,hall,hv⟩
 dsimp only at hk hol hr hall hv
 dsimp only
 refine go 7 ?_
 refine Zc J (fun h158=>?_) (fun h158=>?_)
 ·refine go 10 ?_
  refine dt (Yn (ii:=1) (i:=k-1) J J J J Zk Pb Lk)<|go 2 ⟨O2,?_⟩
  refine cl 2 [] (Zrc _ _ _ (Xh Xl (Ok Xi _) _) hdU hr) fun _ _=>go 3 ?_
  refine dt (Yn (ii:=2) (i:=k-1) J J J J (Ys pU) Pb Lk)<|tt (Mw (i:=2) (enc:=Nl) _ J J J J J J pU J hw.h O3 O2) fun _ _=>go 9 ⟨O,?_⟩
  exact Xf (k-1,_,_) ⟨O1,O8,Nat.mod_lt _ hd,Mr hall _ _ (Zql (Xh Xl (Ok Xi x) _) hr),Zrs hd O O (by rw [show k-1+1=k by omega];exact hv)⟩ O1 ⟨by rw [show(((k-1:Nat):Int)-1)=(k:Int)-1-1 by omega];rfl,rfl,trivial⟩ K1
 ·refine go 8 ?_
  refine cl 2 [2] (Ph _ _) fun _ _=>?_
  refine Yp (Zaf 2 J J pU)<|go 6 ?_
  obtain rfl:k=0:=O
  rw [List.drop_zero,List.drop_zero,Nd Xi]at hv
  have hq:tz o=dg U (x/d):=by
   rw [←Ly Xi _ hall,←hv,Nat.mul_comm,Nat.mul_add_div hd,Nat.div_eq_of_lt hr,Nat.add_zero]
  have hm:r=x%d:=by rw [←hv,Nat.mul_comm,Nat.mul_add_mod,Nat.mod_eq_of_lt hr]
  exact Mi hsc _ results292 (by rw [hm]) trivial (gow 2 Za hq)
theorem Zmn(v:Value)(x s:Nat)(hx:bl x≤4294967296:=by omega)(hs:s≤4294967296:=by omega):Cal prog 293 #[v,.int .i64 (s:Int)] [Fa v x] false (G:=Value) (fun r=>True) (fun r=>r) (fun r=>[Fa r (x*2^s)]):=by
 refine Zd func293 ntmps293 fun w0 sc hw hsc=>?_
 obtain⟨w,hwe⟩:∃w,w=s/64:=⟨_,rfl⟩
 obtain⟨b,hbe⟩:∃b,b=s%64:=⟨_,rfl⟩
 have hX:=Nb x
 refine go 13 ?_
 refine Zc J (fun h122=>?_) (fun h122=>?_)
 ·refine go 7 ?_
  refine Yg (Pm 9 1 232 Nl) ?_
  have hx0:x=0:=(Pe Xi x).1 O
  exact Xn hsc (.slice none 0 0) results293 J trivial (gow 9 Za (by rw [hx0,Nat.zero_mul];rfl))
 ·refine go 5 ?_
  refine dt (Zcj J J J)<|go 1 ?_
  refine dt (Zi9 J J J)<|go 5 ?_
  refine Zf (My 5 (v':= .int .i64 (w:Int)) J (by congr 1;omega))<|Zf (My 6 (v':= .int .i64 (b:Int)) J (by congr 1;omega))<|go 6 ⟨O,O,?_⟩
  refine tt (Hm (i:=2) (n:=(dg U x).length+w+1) (by_:=8) (enc:=Nl) 0 J J J J Pb ti232 J pU.cells pU.pos J J J hw.h) fun v _=>go 12 ?_
  refine lp (G:=Nat×List Nat) [5,6,7,23,24] [0,1] (fun q=>[(25,.int .i64 (q.1:Int))]) (fun q=>[(2,Oa 1 232 Nl v q.2)]) (fun q=>(q.1≤(dg U x).length)∧(q.2.length=(dg U x).length+w+1)∧(q.2.getD (w+q.1) 0<2^b)∧(∀j,w+q.1<j→q.2.getD j 0=0)∧(∀d∈q.2,d<U)∧(Ye U (q.2.take ((dg U x).length+w+1))=Ye U ((dg U x).take q.1)*2^b*U^w)) (fun q=>(dg U x).length-q.1) (0,List.replicate ((dg U x).length+w+1) 0) ⟨O1,O7,by rw [Lx];exact Nat.two_pow_pos b,fun j _=>Lx _ j,Ob _ Xl,by rw [List.take_replicate,Iv];simp [Ye]⟩ K1 K1 ?_
  rintro⟨i,o⟩ ⟨hi,hol,hc,hz,hall,hv⟩
  dsimp only at hi hol hc hz hall hv
  dsimp only
  have hst:i<(dg U x).length→_:=fun hlt=>Zz9 (xs:=dg U x) (show b≤63 by omega) hol.symm (show w+i+1<_ by omega) hc (hz (w+i+1) O) (Xh Xl (Ok Xi x) i) hv
  refine go 6 ?_
  refine Zc J (fun h127=>?_) (fun h127=>?_)
  ·refine go 14 ⟨O2,O2,?_⟩
   have hX1:=Xh Xl (Ok Xi x) i
   refine Qe (fun _=>False) [(0,0),(1,0),(2,0),(3,0),(4,0),(5,0),(6,0),(7,0),(8,0),(9,0),(10,0),(11,3)]<|go 4 ⟨O,?_⟩
   refine Qc J J (Qy (Yn (ii:=2) (i:=w+i) J J J J (Ys pU) Pb Lk))<|go 3 ⟨O2,?_⟩
   refine Qc J J (Qy (Zke J J (n:=b) J J))<|Qc J J (Qy (Yfl J J J (Xh Xl hall _) (Nat.mod_lt _ Xl)))<|Qc J J (Qy (Yn (ii:=2) (i:=w+i) J J J J (Ys pU) Pb Lk))<|r3' J (Mw (i:=2) (enc:=Nl) _ J J J J J J pU J hw.h O3 O2) fun _ _=>go 8 ?_
   refine Zc J (fun h129=>?_) (fun h129=>?_)
   ·have hal2:=Mr (Mr hall (w+i) (o.getD (w+i) 0 ||| (dg U x).getD i 0*2^b%U) (Nat.or_lt_two_pow (n:=64) (Xh Xl hall _) (Nat.mod_lt _ Xl))) (w+i+1) ((dg U x).getD i 0/2^(64-b)) (Nat.lt_of_le_of_lt (Nat.div_le_self _ _) hX1)
    have hc2:((o.set (w+i) (o.getD (w+i) 0 ||| (dg U x).getD i 0*2^b%U)).set (w+i+1) ((dg U x).getD i 0/2^(64-b))).getD (w+i+1) 0<2^b:=by
     rw [Pv _ _ _ _ _ O8,if_pos rfl];exact Zc8 O hX1
    have hz2:∀j,w+i+1<j→((o.set (w+i) (o.getD (w+i) 0 ||| (dg U x).getD i 0*2^b%U)).set (w+i+1) ((dg U x).getD i 0/2^(64-b))).getD j 0=0:=fun j hj=>by
     rw [Pv _ _ _ _ _ O8,if_neg O,Pv _ _ _ _ _ O,if_neg O];exact hz j O
    have hv2:=hst O
    refine go 9 ⟨O,O,O,?_⟩
    refine dt (Zkd J J (n:=64-b) J O)<|dt (Yn (ii:=2) (i:=w+i+1) J J J J (Ys pU) Pb Lk O (by simp only [List.length_set];omega))<|tt (Mw (i:=2) (enc:=Nl) _ J J J J J J pU J hw.h O3 (by simp only [List.length_set];omega)) fun _ _=>go 7 ⟨O,?_⟩
    exact Xf (i+1,_) ⟨O1,O8,by dsimp only;rw [show w+(i+1)=w+i+1 by omega];exact hc2,fun j hj=>by have hj2:w+(i+1)<j:=hj;dsimp only;exact hz2 j O,hal2,hv2⟩ O1 K1 K1
   ·obtain rfl:b=0:=O
    have hal2:=Mr hall (w+i) (o.getD (w+i) 0 ||| (dg U x).getD i 0*2^0%U) (Nat.or_lt_two_pow (n:=64) (Xh Xl hall _) (Nat.mod_lt _ Xl))
    have hc2:(o.set (w+i) (o.getD (w+i) 0 ||| (dg U x).getD i 0*2^0%U)).getD (w+i+1) 0<2^0:=by
     rw [Pv _ _ _ _ _ O,if_neg O,hz _ O];exact Nat.two_pow_pos 0
    have hz2:∀j,w+i+1<j→(o.set (w+i) (o.getD (w+i) 0 ||| (dg U x).getD i 0*2^0%U)).getD j 0=0:=fun j hj=>by
     rw [Pv _ _ _ _ _ O,if_neg O];exact hz j O
    have hv2:=hst O
    rw [show(dg U x).getD i 0/2^(64-0)=0 from Nat.div_eq_of_lt hX1]at hv2
    have hsame:=Zj1 (o.set (w+i) (o.getD (w+i) 0 ||| (dg U x).getD i 0*2^0%U)) (w+i+1) (by rw [Pv _ _ _ _ _ O,if_neg O,hz _ O])
    rw [hsame]at hv2
    refine go 7 ⟨O,?_⟩
    exact Xf (i+1,_) ⟨O1,O8,by dsimp only;rw [show w+(i+1)=w+i+1 by omega];exact hc2,fun j hj=>by have hj2:w+(i+1)<j:=hj;dsimp only;exact hz2 j O,hal2,hv2⟩ O1 K1 K1
  ·refine go 8 ?_
   refine cl 2 [2] (Ph _ _) fun _ _=>?_
   refine Yp (Zaf 2 J J pU)<|go 4 ?_
   obtain rfl:i=(dg U x).length:=O
   have hx2:tz o=dg U (x*2^s):=by
    rw [←Ly Xi _ hall]
    congr 1
    rw [Na U o _ O,List.take_of_length_le (Nat.le_refl _),Nd Xi,Zbf,Nat.mul_assoc,←Nat.pow_add,show b+64*w=s by omega]at hv
    exact hv
   exact Xn hsc _ results293 J trivial (gow 2 Za hx2)
theorem Yg3(v:Value)(x s:Nat)(hx:bl x≤8589934592)(hs:s≤8589934592):Cal prog 295 #[v,.int .i64 (s:Int)] [Fa v x] false (G:=Value) (fun r=>True) (fun r=>r) (fun r=>[Fa r (x/2^s)]):=by
 refine Zd func295 ntmps295 fun w0 sc hw hsc=>?_
 obtain⟨w,hwe⟩:∃w,w=s/64:=⟨_,rfl⟩
 obtain⟨b,hbe⟩:∃b,b=s%64:=⟨_,rfl⟩
 have hX:=Nb x
 have hdl:((dg U x).drop w).length=(dg U x).length-w:=List.length_drop
 refine go 8 ?_
 refine dt (Zcj J J J)<|go 1 ?_
 refine dt (Zi9 J J J)<|go 6 ?_
 refine Zf (My 5 (v':= .int .i64 (w:Int)) J (by congr 1;omega))<|Zf (My 6 (v':= .int .i64 (b:Int)) J (by congr 1;omega))<|go 7 ?_
 refine Zc J (fun h139=>?_) (fun h139=>?_)
 ·refine go 7 ?_
  refine Yg (Pm 9 1 232 Nl) ?_
  have hx0:x/2^s=0:=by
   rw [Bg hwe hbe,Nat.div_eq_of_lt ((Xj Xi w x).1 O),Nat.zero_div]
  exact Xn hsc (.slice none 0 0) results295 J trivial (gow 9 Za (by rw [hx0];rfl))
 ·refine go 6 ?_
  refine dt (d_suf (ii:=1) (i:=w) J J J J Zk Pb Lk O O)<|Yp (s_suf 1 2 (w) J J O)<|tt (Zln (n:=3) (Zys _ _ (by simp only [List.length_drop];omega)) J J J K1 call309 (Yd 2 J J J Ya) J hw.h) fun v _=>go 3 ?_
  refine jn (G:=List Nat) [7] [0,1,2] (fun o=>[]) (fun o=>[(3,Oa 1 232 Nl v o)]) (fun o=>(o.length=(dg U x).length-w)∧(∀j,j<o.length→o.getD j 0=x/2^s/U^j%U)) ?_ ?_
  ·refine go 6 ?_
   refine Zc J (fun h143=>?_) (fun h143=>?_)
   ·refine go 8 ?_
    refine lp (G:=Nat×List Nat) [0,5,6,7,24] [0,1,2] (fun q=>[(25,.int .i64 (q.1:Int))]) (fun q=>[(3,Oa 1 232 Nl v q.2)]) (fun q=>(q.1≤(dg U x).length-w)∧(q.2.length=(dg U x).length-w)∧(∀j,j<q.1→q.2.getD j 0=x/2^s/U^j%U)∧(∀j,q.1≤j→q.2.getD j 0=x/U^w/U^j%U)∧(∀d∈q.2,d<U)) (fun q=>(dg U x).length-w-q.1) (0,(dg U x).drop w) ⟨Nat.zero_le _,O7,fun j hj=>absurd hj (Nat.not_lt_zero j),fun j _=>Zvx x w j,fun d hd=>Ok Xi x d (List.mem_of_mem_drop hd)⟩ K1 K1 ?_
    rintro⟨i,o⟩ ⟨hi,hol,hlo,hhi,hall⟩
    dsimp only at hi hol hlo hhi hall
    dsimp only
    refine go 6 ?_
    refine Zc J (fun h144=>?_) (fun h144=>?_)
    ·refine go 17 ⟨O2,O2,?_⟩
     refine dt (Zkd J J (n:=b) J J)<|go 1 ⟨O2,?_⟩
     refine tt (Mw (i:=3) (enc:=Nl) _ J J J J J J pU J hw.h O3 O2) fun _ _=>go 11 ⟨O,?_⟩
     refine Zc J (fun h146=>?_) (fun h146=>?_)
     ·simp only [List.length_set]at h146
      have hnew:∀j,((o.set i (o.getD i 0/2^b)).set i ((o.set i (o.getD i 0/2^b)).getD i 0 ||| ((dg U x).getD (w+i+1) 0*2^(64-b))%U)).getD j 0=if i=j then x/2^s/U^i%U else o.getD j 0:=fun j=>by
       rw [Pv _ _ _ _ _ O8,Pv _ _ _ _ _ O,Pv _ _ _ _ _ O]
       split
       ·rw [if_pos rfl,hhi i (Nat.le_refl _),Ir Xi,Bg hwe hbe,Zqm,show x/U^(w+i+1)=x/U^w/U^i/U by rw [Nat.div_div_eq_div_mul,Nat.div_div_eq_div_mul,←Nat.pow_succ,←Nat.pow_add];rfl,Zou _ _ O]
       ·rfl
      have hal2:=Mr (Mr hall i (o.getD i 0/2^b) (Nat.lt_of_le_of_lt (Nat.div_le_self _ _) (Xh Xl hall _))) i ((o.set i (o.getD i 0/2^b)).getD i 0 ||| ((dg U x).getD (w+i+1) 0*2^(64-b))%U) (Nat.or_lt_two_pow (n:=64) (Xh Xl (Mr hall _ _ (Nat.lt_of_le_of_lt (Nat.div_le_self _ _) (Xh Xl hall _))) _) (Nat.mod_lt _ Xl))
      refine Qe (fun _=>False) [(0,0),(1,0),(2,0),(3,0),(4,0),(5,0),(6,0),(7,0),(8,0),(9,0),(10,0),(11,0),(12,0),(13,0),(14,0),(15,0),(16,3)]<|go 9 ⟨O2,O2,O,O,?_⟩
      refine Qc J J (Qy (Yn (ii:=1) (i:=w+i+1) J J J J Zk Pb Lk O O2))<|go 3 ⟨O2,O,?_⟩
      refine Qc J J (Qy (Zke J J (n:=64-b) J O))<|Qc J J (Qy (Yfl J J J (Xh Xl (Mr hall _ _ (Nat.lt_of_le_of_lt (Nat.div_le_self _ _) (Xh Xl hall _))) _) (Nat.mod_lt _ Xl)))<|go 1 ⟨O2,?_⟩
      refine r3' J (Mw (i:=3) (enc:=Nl) _ J J J J J J pU J hw.h O3 O2) fun _ _=>go 7 ⟨O,?_⟩
      exact Xf (i+1,_) ⟨O1,O8,fun j hj=>by dsimp only;rw [hnew j];split;(· rename_i e;rw [←e]);exact hlo j (by have:j<i+1:=hj;omega),fun j hj=>by dsimp only;rw [hnew j,if_neg (by have:i+1≤j:=hj;omega)];exact hhi j (by have:i+1≤j:=hj;omega),hal2⟩ O1 K1 K1
     ·have hnew:∀j,(o.set i (o.getD i 0/2^b)).getD j 0=if i=j then x/2^s/U^i%U else o.getD j 0:=fun j=>by
       rw [Pv _ _ _ _ _ O]
       split
       ·rw [hhi i (Nat.le_refl _),Bg hwe hbe,Zqm,Zxh _ _ O]
        rw [Nat.div_div_eq_div_mul,←Nat.pow_succ]
        exact Nat.div_eq_of_lt (Zvc (by simp only [List.length_set]at h146;omega))
       ·rfl
      have hal2:=Mr hall i (o.getD i 0/2^b) (Nat.lt_of_le_of_lt (Nat.div_le_self _ _) (Xh Xl hall _))
      refine go 7 ⟨O,?_⟩
      exact Xf (i+1,_) ⟨O1,O8,fun j hj=>by dsimp only;rw [hnew j];split;(· rename_i e;rw [←e]);exact hlo j (by have:j<i+1:=hj;omega),fun j hj=>by dsimp only;rw [hnew j,if_neg (by have:i+1≤j:=hj;omega)];exact hhi j (by have:i+1≤j:=hj;omega),hal2⟩ O1 K1 K1
    ·refine go 4 ?_
     exact Pr _ ⟨O,by intro j hj;rw [hlo j O]⟩ trivial K1
   ·refine go 1 ?_
    exact Pr _ ⟨O7,by intro j hj;rw [Zvx,Bg hwe hbe,show b=0 by omega,Nat.pow_zero,Nat.div_one]⟩ trivial K1
  ·rintro o ⟨hol,hv⟩
   refine go 3 ?_
   refine cl 3 [3] (Ph _ _) fun _ _=>?_
   refine Yp (Zaf 3 J J pU)<|go 4 ?_
   have hx2:tz o=dg U (x/2^s):=Zro Xi hv (by rw [hol,Bg hwe hbe];exact Nat.lt_of_le_of_lt (Nat.div_le_self _ _) (Zvc O))
   exact Xn hsc _ results295 J trivial (gow 3 Za hx2)
theorem Zk4(v:Value)(x:Nat)(hx:bl x≤4294967296:=by omega):Om prog 233 #[v] [Fa v x] (.string (Xz x)):=by
 refine Zd func233 ntmps233 fun w0 sc hw hsc=>?_
 have hX:=Nb x
 have hL:=Zit x
 have hW:=lenU x
 have hrl:(List.replicate (dg 256 x).length (0:Nat)).length=(dg 256 x).length:=List.length_replicate
 refine go 8 ?_
 refine cl 1 [1] (Zid _ _) fun _ _=>go 1 ⟨O,?_⟩
 refine dt (Zcj J J J)<|tt (Hm (i:=2) (n:=(dg 256 x).length) (by_:=1) (enc:=Zgh) 0 J J J J Zfu ti5 J pB.cells pB.pos J J J hw.h) fun v _=>go 12 ?_
 refine lp (G:=Nat×List Nat) [0,3,12] [0,1] (fun q=>[(13,.int .i64 (q.1:Int))]) (fun q=>[(2,Oa 1 5 Zgh v q.2)]) (fun q=>(q.1≤(dg 256 x).length)∧(q.2.length=(dg 256 x).length)∧(∀j,j<q.1→q.2.getD j 0=x/256^((dg 256 x).length-1-j)%256)) (fun q=>(dg 256 x).length-q.1) (0,List.replicate (dg 256 x).length 0) ⟨O1,O7,fun j hj=>absurd hj (Nat.not_lt_zero j)⟩ K1 K1 ?_
 rintro⟨i,o⟩ ⟨hi,hol,hov⟩
 dsimp only at hi hol hov
 dsimp only
 refine go 6 ?_
 refine Zc J (fun h48=>?_) (fun h48=>?_)
 ·refine go 20 ⟨O,O,?_⟩
  refine Zf (My 5 (v':= .int .i64 (((dg 256 x).length-1-i:Nat):Int)) J (by congr 1;omega)) ?_
  have hbyte:=Znw x ((dg 256 x).length-1-i)
  rw [←Ir Xi]at hbyte
  refine go 5 ?_
  refine dt (Zcj J J J)<|dt (Yn (ii:=1) (i:=((dg 256 x).length-1-i)/8) J J J J Zk Pb Lk)<|go 2 ⟨O,?_⟩
  refine dt (Zi9 J J J)<|go 1 ⟨O,?_⟩
  refine dt (Zkd J J (n:=((dg 256 x).length-1-i)%8*8) J O)<|dt (Zck J J Zaj uT5)<|go 1 ⟨O2,?_⟩
  refine tt (Mw (i:=2) (enc:=Zgh) _ J J J J J J pB J hw.h O3 O2) fun _ _=>go 7 ⟨O,?_⟩
  exact Xf (i+1,_) ⟨O1,O8,fun j hj=>by dsimp only;rw [Pv _ _ _ _ _ O];split;(· rename_i e;rw [←e];exact hbyte);exact hov j O⟩ O1 K1 K1
 ·refine go 8 ?_
  refine dt (d_b2s J J (i:=2) J (Ys pB) Zfu uT9 uT5)<|go 4 ?_
  have hb:Xz x=⟨(o.map UInt8.ofNat).toArray⟩:=by
   have ho:o=(dg 256 x).reverse:=by
    refine Zc6 O8 (fun j hj=>?_)
    rw [hov j O,Zm1 _ _ _ O,Ir O]
   rw [ho];rfl
  exact Xn hsc () results233 (by rw [hb]) trivial Za
theorem Zbj(x:Nat)(hx:bl x≤4294967296:=by omega):Cal prog 219 #[.string (Xz x)] [] false (G:=Value) (fun r=>True) (fun r=>r) (fun r=>[Fa r x]):=by
 refine Zd func219 ntmps219 fun w0 sc hw hsc=>?_
 have hX:=Nb x
 have hL:=Zit x
 have hW:=lenU x
 have hbs:=Fp x
 refine go 10 ⟨O,?_⟩
 refine dt (Zcj J J J)<|tt (Hm (i:=1) (n:=(dg U x).length) (by_:=8) (enc:=Nl) 0 J J J J Pb ti232 J pU.cells pU.pos J J J hw.h) fun v _=>go 12 ?_
 refine lp (G:=Nat×List Nat) [0,3,12] [0] (fun q=>[(13,.int .i64 (q.1:Int))]) (fun q=>[(1,Oa 1 232 Nl v q.2)]) (fun q=>(q.1≤(dg 256 x).length)∧(q.2.length=(dg U x).length)∧(∀w,w<q.2.length→q.2.getD w 0=hi x ((dg 256 x).length-q.1) w)) (fun q=>(dg 256 x).length-q.1) (0,List.replicate (dg U x).length 0) ⟨O1,O7,fun w hw=>by dsimp only at *;rw [List.length_replicate]at hw;rw [Lx,hi_top O]⟩ K1 K1 ?_
 rintro⟨i,o⟩ ⟨hik,hol,hov⟩
 dsimp only at hik hol hov
 dsimp only
 refine go 6 ?_
 refine Zc J (fun h30=>?_) (fun h30=>?_)
 ·refine go 20 ⟨O,O,?_⟩
  refine Zf (My 5 (v':= .int .i64 (((dg 256 x).length-1-i:Nat):Int)) J (by congr 1;omega)) ?_
  have hget:=Zq9 x i O
  have hw0:=hov (((dg 256 x).length-1-i)/8) O
  have hlt1:o.getD (((dg 256 x).length-1-i)/8) 0<U:=by rw [hw0];exact Nat.mod_lt _ Xl
  have hset:∀w,w<o.length→(o.set (((dg 256 x).length-1-i)/8) (o.getD (((dg 256 x).length-1-i)/8) 0 ||| (((Xz x).data.toList.getD i 0).toNat*2^(((dg 256 x).length-1-i)%8*8))%U)).getD w 0=hi x ((dg 256 x).length-(i+1)) w:=fun w hw=>by
   rw [hget,hw0,show(dg 256 x).length-i=(dg 256 x).length-1-i+1 by omega,Yhh,Pv _ _ _ _ _ O,show(dg 256 x).length-(i+1)=(dg 256 x).length-1-i by omega]
   split
   ·rename_i e;rw [e]
   ·rename_i e;rw [hov w hw,show(dg 256 x).length-i=(dg 256 x).length-1-i+1 by omega];exact Ycm e
  refine Qe (fun _=>False) [(0,0),(1,0),(2,0),(3,0),(4,0),(5,0),(6,0),(7,0),(8,0),(9,0),(10,0),(11,0),(12,0),(13,0),(14,0),(15,3)]<|go 2 ?_
  refine Qc J J (Qy (Zcj J J J))<|Qc J J (Qy (Yn (ii:=1) (i:=((dg 256 x).length-1-i)/8) J J J J (Ys pU) Pb Lk))<|go 3 ⟨O2,?_⟩
  refine Qc J J (Qy (Ydt J J J uT9 J))<|Qc J J (Qy (Zs8 J J uT5 Zaj (by have:=(((Xz x).data.toList.getD i 0).toNat_lt);simp only [U];omega)))<|go 1 ?_
  refine Qc J J (Qy (Zi9 J J J))<|go 1 ⟨O,?_⟩
  refine Qc J J (Qy (Zke J J (n:=((dg 256 x).length-1-i)%8*8) J O))<|Qc J J (Qy (Yfl J J J (hlt1) (Nat.mod_lt _ Xl)))<|Qc J J (Qy (Yn (ii:=1) (i:=((dg 256 x).length-1-i)/8) J J J J (Ys pU) Pb Lk))<|r3' J (Mw (i:=1) (enc:=Nl) _ J J J J J J pU J hw.h O3 O2) fun _ _=>go 7 ⟨O,?_⟩
  exact Xf (i+1,_) ⟨O1,O8,fun w hw=>hset w (by simpa using hw)⟩ O1 K1 K1
 ·refine go 12 ?_
  have ho:o=dg U x:=Zc6 hol (fun j hj=>by rw [hov j hj,Ir Xi,Yco O])
  exact Xn hsc _ results219 J trivial (gow 1 Za ho)
set_option maxHeartbeats 2000000 in
theorem Zu5(v w:Value)(x y:Nat)(hx:bl x≤4000000000)(hy0:bl y≤4000000000)(hy:0<y):Cal prog 267 #[v,w] [Fa v x,Fa w y] true (G:=Value×Value) (fun r=>True) (fun r=> .tuple #[r.1,r.2]) (fun r=>[Fa r.1 (x/y),Fa r.2 (x%y)]):=by
 refine Zd func267 ntmps267 fun w0 sc hw hsc=>?_
 have hX:=Nb x
 have hY:=Nb y
 refine go 11 ?_
 refine cl 2 [1,2] (Zav _ _ _ _ O O) fun r hr=>go 3 ?_
 refine Zc J (fun h166=>?_) (fun h166=>?_)
 ·have hlt:x<y:=hr.1.1 O
  refine go 9 ?_
  exact Yg (Pm 9 1 232 Nl)<|Mi hsc (.slice none 0 0,v) results267 J trivial (gow 9 (Ot 1 Za (by rw [Nat.mod_eq_of_lt hlt])) (by rw [Nat.div_eq_of_lt hlt];rfl))
 ·have hge:y≤x:=by have:=hr.1;omega
  have hly:=Pn hge
  refine go 10 ?_
  refine Zc J (fun h169=>?_) (fun h169=>?_)
  ·have hyU:y<U:=by have:=(Xj Xi 1 y).1 O;simpa using this
   have hd0:(dg U y).getD 0 0=y:=by rw [Ir Xi];simp [Nat.mod_eq_of_lt hyU]
   refine go 6 ⟨O,O2,?_⟩
   refine cl 3 [1] (Zxz _ _ _ O (by rw [hd0];exact hy) (by rw [hd0];exact hyU)) fun v _=>go 11 ?_
   refine tt (Qh (i:=4) (ivs:=[(0,_)]) (enc:=Nl) [x%(dg U y).getD 0 0] J J K2 Pb ti232 J J J J J pU.cells J J hw.h) fun v_2 _=>cl 4 [4] (Ph _ _) fun _ _=>?_
   refine Yp (Zaf 4 J J pU)<|go 6 ?_
   exact Mi hsc (_,_) results267 J trivial (Ot 3 (gow 4 Za (by rw [Ze3 (Nat.lt_trans (Nat.mod_lt _ (by rw [hd0];exact hy)) (by rw [hd0];exact hyU)),hd0])) (by rw [hd0]<;>rfl))
  ·refine go 3 ?_
   obtain⟨k,hk⟩:∃k,k=(dg U y).length:=⟨_,rfl⟩
   have hkx:k≤(dg U x).length:=O
   obtain⟨b,hb⟩:∃b,b=64-bl ((dg U y).getD (k-1) 0):=⟨_,rfl⟩
   obtain⟨hkD0,_,hk1,hDk0,hb63,hD630⟩:=Yg0 hy hk hb
   obtain⟨D,hDe⟩:∃D,D=y*2^b:=⟨_,rfl⟩
   have hkD:(dg U D).length=k:=by rw [hDe];exact hkD0
   have hDk:D<U^k:=by rw [hDe];exact hDk0
   have hD63:U^(k-1)*9223372036854775808≤D:=by rw [hDe];exact hD630
   have hD0:0<D:=by rw [hDe];exact Nat.mul_pos hy (Nat.two_pow_pos b)
   have hDb:bl D≤4000000064:=by rw [hDe,Ztp _ _ hy];omega
   refine go 5 ⟨O,?_⟩
   refine dt (Yn (ii:=2) (i:=(dg U y).length-1) J J J J Zk Pb Lk)<|go 1 ⟨O2,?_⟩
   refine cl 4 [] (Zn0 _ (Xh Xl (Ok Xi y) _)) fun _ _=>?_
   refine Yp (My 44 (v':= .int .i64 (b:Int)) J (by rw [hb,hk]))<|go 3 ?_
   refine jn (G:=Value×Value) [0,8] [0,1,2] (fun q=>[(9,q.1),(10,q.2)]) (fun q=>[(81,Fa q.1 D),(82,Oa 1 232 Nl q.2 (List.replicate ((dg U x).length+1) 0))]) (fun q=>True) ?_ ?_
   ·refine Kg (fun _=>False) [8]<|Zh (n:=4) [(0,0),(1,0),(3,0),(4,0),(5,0)]<|go 6 ⟨O,?_⟩
    refine Qp (n:=3) 2 6 ?_ ?_
    ·refine Ol (Zg 81 [2] (Zmn _ _ _)) fun v_3 _=>?_
     refine Zh (n:=0) [(7,0),(6,1),(8,3)]<|go 1 ?_
     refine Ev J (Hm (i:=82) (n:=(dg U x).length+1) (by_:=8) (enc:=Nl) 0 J J J J Pb ti232 J pU.cells pU.pos J J J hw.h) fun v_4 _=>go 2 ?_
     exact Zs<|Pr (_,_) trivial K2 ⟨by rw [hDe];rfl,rfl,trivial⟩
    ·refine Cw J (Hm (i:=82) (n:=(dg U x).length+1) (by_:=8) (enc:=Nl) 0 J J J J Pb ti232 J pU.cells pU.pos J J J hw.h) (fun v_5 _=>?_)
     refine Zh (n:=0) [(2,1),(7,0),(8,3)]<|Yz (Zg 81 [2] (Zmn _ _ _)) fun v_6 _=>go 3 ?_
     exact Zs<|Pr (_,_) trivial K2 ⟨by rw [hDe];rfl,rfl,trivial⟩
   ·rintro⟨vd,vr⟩ -
    dsimp only
    refine go 1 ?_
    have hnl:(dg U (x*2^b)).length≤(dg U x).length+1:=(Xj Xi _ _).2 (by rw [Nat.pow_succ];exact Nat.mul_lt_mul_of_lt_of_le ((Xj Xi _ x).1 (Nat.le_refl _)) (by rw [Ye6];exact Nat.pow_le_pow_right O O) Xl)
    refine go 4 ?_
    refine cl 5 [1] (Zmn _ _ _) fun v_7 _=>?_
    refine tt (t_cpy (i:=82) (j:=5) 0 J J J J J J O3 J Zk (Ydh _ _ _) (by rw [List.length_replicate];exact hnl) (by rw [List.length_replicate];omega) (by rw [List.length_replicate];omega) Pb pU J hw.h) fun _ _=>go 3 ?_
    have hR0l:(spl (List.replicate ((dg U x).length+1) 0) 0 (dg U (x*2^b))).length=(dg U x).length+1:=by rw [Ke _ _ _ (by rw [List.length_replicate];omega),List.length_replicate]
    refine go 7 ?_
    have hql0:(List.replicate ((dg U x).length+1-k) (0:Nat)).length=(dg U x).length+1-k:=List.length_replicate
    refine Zf (My 11 (v':= .int .i64 (k:Int)) J (by rw [hkD]))<|go 5 ⟨O,?_⟩
    refine tt (Hm (i:=6) (n:=(dg U x).length+1-k) (by_:=8) (enc:=Nl) 0 J J J J Pb ti232 J pU.cells pU.pos J J J hw.h) fun v_8 _=>go 13 ⟨O,?_⟩
    refine lp (G:=Nat×List Nat×List Nat) [8,9,10,11,12] [0,81,1,2,5] (fun q=>[(13,.int .i64 ((q.1:Int)-1))]) (fun q=>[(82,Oa 1 232 Nl vr q.2.1),(6,Oa 1 232 Nl v_8 q.2.2)]) (fun q=>(q.1≤(dg U x).length+1-k)∧(q.2.1.length=(dg U x).length+1)∧(∀d∈q.2.1,d<U)∧(q.2.2.length=(dg U x).length+1-k)∧(∀d∈q.2.2,d<U)∧(Ye U q.2.1<D*U^q.1)∧(Ye U (q.2.2.drop q.1)*U^q.1*D+Ye U q.2.1=x*2^b)) (fun q=>q.1) ((dg U x).length+1-k,spl (List.replicate ((dg U x).length+1) 0) 0 (dg U (x*2^b)),List.replicate ((dg U x).length+1-k) 0) ⟨Nat.le_refl _,hR0l,Zn3 (Ob _ Xl) (Ok Xi _) 0,O7,Ob _ Xl,by rw [Zof,Nd Xi];exact Ydl ((Xj Xi _ x).1 (Nat.le_refl _)) hb63 hk1 O hD63,by rw [Zof,Nd Xi];simp [Ye]⟩ ⟨by rw [List.length_replicate];rfl,trivial⟩ K2 ?_
    rintro⟨jj,R,q⟩ ⟨hj,hRl,hRa,hql,hqa,hV,hN⟩
    dsimp only at hj hRl hRa hql hqa hV hN
    dsimp only
    refine go 7 ?_
    refine Zc J (fun h179=>?_) (fun h179=>?_)
    ·refine go 5 ?_
     have hW1:Ye U R<U^(jj-1+k+1):=by
      refine Nat.lt_of_lt_of_le hV ?_
      rw [show jj-1+k+1=k+jj by omega,Nat.pow_add]
      exact Nat.mul_le_mul_right _ (Nat.le_of_lt hDk)
     have hWz:tz ((R.drop (jj-1)).take (jj-1+k+1-(jj-1)))=dg U (Ye U R/U^(jj-1)):=Yfe hRa O (by rw [show jj-1+(jj-1+k+1-(jj-1))=jj-1+k+1 by omega];exact hW1)
     have hWD:Ye U R/U^(jj-1)<D*U:=by
      rw [Nat.div_lt_iff_lt_mul (Nat.pow_pos Xl),Nat.mul_assoc,←Nat.pow_succ',show(jj-1).succ=jj by omega];exact hV
     have hWb:bl (Ye U R/U^(jj-1))≤4294967296:=by
      have h1:=Pn (Nat.le_of_lt hWD)
      have h2:=Zjn D U
      have h3:bl U≤65:=(Xw 65 U).2 (by simp [U])
      omega
     have htop:=Yfq hRa (j:=jj-1) hk1 hW1 O
     have hDt:(dg U D).getD (k-1) 0*U^(k-1)≤D:=by
      rw [Ir Xi];exact Nat.le_trans (Nat.mul_le_mul_right _ (Nat.mod_le _ _)) (Nat.div_mul_le_self _ _)
     have hQU:Ye U R/U^(jj-1)/D≤18446744073709551615:=by
      have:=(Nat.div_lt_iff_lt_mul hD0).2 (show _<U*D by rw [Nat.mul_comm];exact hWD)
      simp only [U]at this ⊢;omega
     refine go 4 ?_
     refine jn (G:=Nat) [8,9,10,11,12,13] [0,82,6,81,1,2,5] (fun g=>[(14,.int .u64 (g:Int))]) (fun g=>[]) (fun g=>(Ye U R/U^(jj-1)/D≤g)∧(g<U)) ?_ ?_
     ·refine go 1 ?_
      refine Qe (fun _=>False) [(0,0),(1,0),(2,0),(3,0),(4,0),(5,0),(6,0),(7,0),(8,0),(9,0),(10,0),(11,0)]<|go 4 ⟨O,?_⟩
      refine Qc J J (Qy (Yn (ii:=82) (i:=jj-1+k) J J J J (Ys pU) Pb Lk))<|go 4 ⟨O2,O,?_⟩
      refine Qc J J (Qy (Yn (ii:=81) (i:=k-1) J J J J Zk Pb Lk))<|go 4 ⟨O2,?_⟩
      refine Zc J (fun h182=>?_) (fun h182=>?_)
      ·refine Qe (fun _=>False) [(0,0),(1,0),(2,0),(3,0),(4,0),(5,0),(6,0),(7,0),(8,0),(9,0),(10,0),(11,0),(12,0),(13,0),(14,0),(15,0),(16,0),(17,0),(18,1),(19,0),(20,0),(21,0),(22,0)]<|go 4 ⟨O,?_⟩
       refine Qc J J (Qy (Yn (ii:=82) (i:=jj-1+k) J J J J (Ys pU) Pb Lk))<|go 6 ⟨O2,O,O,?_⟩
       refine Qc J J (Qy (Yn (ii:=82) (i:=jj-1+k-1) J J J J (Ys pU) Pb Lk))<|go 4 ⟨O2,O,?_⟩
       refine Qc J J (Qy (Yn (ii:=81) (i:=k-1) J J J J Zk Pb Lk))<|go 1 ⟨O2,?_⟩
       refine Yz (Zg 6 [] (Zrc _ _ _ (Xh Xl hRa _) (Xh Xl (Ok Xi _) _) O)) fun _ _=>go 5 ?_
       exact Pr _ ⟨Ycp hDt O htop,Zql (Xh Xl hRa _) O⟩ K1 trivial
      ·refine go 1 ?_
       exact Pr 18446744073709551615 ⟨hQU,O3⟩ K1 trivial
     ·rintro g ⟨hg,hgU⟩
      refine go 8 ⟨O,O,?_⟩
      refine dt (d_mid (ii:=82) (i:=jj-1) (j:=jj-1+k+1) J J J J J (Ys pU) Pb Lk O O O O)<|go 7 ?_
      refine tt (Qh (i:=7) (ivs:=[(0,_)]) (enc:=Nl) [g] J J K2 Pb ti232 J J J J J pU.cells J J hw.h) fun v_9 _=>cl 7 [7] (Ph _ _) fun _ _=>?_
      refine Yp (Zaf 7 J J pU)<|Yp (Zf0 7 (Ze3 hgU) J J)<|cl 83 [81,7] (Zu4 _ _ _ _ O (Nat.le_trans ((Xw 64 g).2 hgU) O)) fun v_10 _=>go 5 ?_
      refine lp (G:=Nat×Value) [8,9,10,11,12,13,15] [0,82,6,81,1,2,5,7] (fun q=>[(14,.int .u64 (q.1:Int)),(16,q.2)]) (fun q=>[(83,Fa q.2 (D*q.1))]) (fun q=>(Ye U R/U^(jj-1)/D≤q.1)∧(q.1<U)) (fun q=>q.1) (g,_) ⟨O1,O1⟩ K2 K1 ?_
      rintro⟨g,vp⟩ ⟨hg,hgU⟩
      dsimp only at hg hgU
      dsimp only
      have hPb:bl (D*g)≤4294967296:=by have h1:=Zjn D g;have h2:=(Xw 64 g).2 hgU;omega
      refine go 4 ?_
      refine tt (Ov (n:=7) (Ph _ _) J J J K1 call183 (Zbo 82 J J pU (Zgu (jj-1) (jj-1+k+1)) (Zg7 _ _ _ _) Ya) J hw.h) fun _ _=>go 1 ?_
      refine tt (Ov (n:=7) (Zav _ _ _ _ hWb hPb) J J J K2 call223 (Zbo 82 J J pU (Yat hWz (by rw [hWz]) (Zgu (jj-1) (jj-1+k+1))) (by rw [Iw];exact(Zg7 _ _ _ _)) (Yd 83 J J J Ya)) J hw.h) fun r_2 hr_2=>go 3 ?_
      refine Zc J (fun h187=>?_) (fun h187=>?_)
      ·have hlt:Ye U R/U^(jj-1)<D*g:=hr_2.1.1 O
       have hg1:1≤g:=by rcases Nat.eq_zero_or_pos g with h | h;(rw [h,Nat.mul_zero]at hlt;exact absurd hlt (Nat.not_lt_zero _));exact h
       have hDg:D≤D*g:=Nat.le_mul_of_pos_right _ hg1
       have hQg:Ye U R/U^(jj-1)/D≤g-1:=by have:=(Nat.div_lt_iff_lt_mul hD0).2 (show _<g*D by rw [Nat.mul_comm];exact hlt);omega
       refine go 6 ?_
       refine dt (Zcb (n:=1) J J J)<|go 3 ?_
       refine Zf (My 14 (v':= .int .u64 ((g-1:Nat):Int)) J (Ah (Zqt hg1 hgU)))<|go 3 ?_
       refine cl 8 [83,81] (Zd9 _ _ _ _ hPb hDg) fun v_11 _=>go 3 ?_
       exact Yg (Pj 8 83 J J J)<|Xf (g-1,_) ⟨hQg,O11⟩ O1 K2 ⟨by rw [Nat.mul_sub_one];rfl,trivial⟩
      ·refine go 6 ?_
       have hQ:g=Ye U R/U^(jj-1)/D:=by
        have h1:=hr_2.1
        have h2:D*g≤Ye U R/U^(jj-1):=O
        exact Nat.le_antisymm ((Nat.le_div_iff_mul_le hD0).2 (by rw [Nat.mul_comm];exact h2)) hg
       refine go 2 ?_
       refine tt (Ov (n:=8) (Ph _ _) J J J K1 call183 (Zbo 82 J J pU (Zgu (jj-1) (jj-1+k+1)) (Zg7 _ _ _ _) Ya) J hw.h) fun _ _=>go 1 ?_
       refine tt (Ov (n:=9) (Zd9 _ _ _ _ hWb) J J J K2 call224 (Zbo 82 J J pU (Yat hWz (by rw [hWz]) (Zgu (jj-1) (jj-1+k+1))) (by rw [Iw];exact(Zg7 _ _ _ _)) (Yd 83 J J J Ya)) J hw.h) fun v_12 _=>go 4 ?_
       have hll:(dg U (Ye U R/U^(jj-1)-D*g)).length≤jj-1+k+1-(jj-1):=by
        have:Ye U R/U^(jj-1)-D*g<D:=by rw [hQ];have h3:=Nat.div_add_mod (Ye U R/U^(jj-1)) D;have h4:=Nat.mod_lt (Ye U R/U^(jj-1)) hD0;omega
        have:=(Xj Xi k _).2 (Nat.lt_trans this hDk)
        omega
       refine go 2 ?_
       refine tt (t_clr (zv:= .bool false) (i:=82) (z:=0) (jj-1) J J J J O3 (Zvv _ _ _ O) O O Pb pU (fun w=>zeroValue232 w) J J hw.h) fun _ _=>go 6 ?_
       refine tt (t_cpy (i:=82) (j:=9) (jj-1) J J J J J J O3 J Zk (Zvv _ _ _ (by rw [Ke _ _ _ (by rw [List.length_replicate];omega)];omega)) hll (by rw [Ke _ _ _ (by rw [List.length_replicate];omega)];omega) (by rw [Ke _ _ _ (by rw [List.length_replicate];omega)];omega) Pb pU J hw.h) fun _ _=>go 2 ?_
       have hL1:jj-1+(List.replicate (jj-1+k+1-(jj-1)) 0).length≤R.length:=by rw [List.length_replicate];omega
       have hl1:=Ke R (jj-1) _ hL1
       have hL2:jj-1+(dg U (Ye U R/U^(jj-1)-D*g)).length≤(spl R (jj-1) (List.replicate (jj-1+k+1-(jj-1)) 0)).length:=O
       have hval:=Yfk hRa (j:=jj-1) (n:=jj-1+k+1-(jj-1)) O (by rw [show jj-1+(jj-1+k+1-(jj-1))=jj-1+k+1 by omega];exact hW1) hll
       rw [Nd Xi]at hval
       have hst:=Ydk (j:=jj-1) (N:=x*2^b) (Vq:=Ye U (q.drop jj)) hD0 hQ (by rw [show jj-1+1=jj by omega];exact hN)
       have hV2:=hst.1
       have hN2:=hst.2
       rw [←hval]at hV2 hN2
       have hdq:Ye U ((q.set (jj-1) g).drop (jj-1))=g+U*Ye U (q.drop jj):=by rw [drop_set _ _ _ O,show jj-1+1=jj by omega];rfl
       rw [←hdq]at hN2
       refine go 4 ?_
       refine dt (Yn (ii:=6) (i:=jj-1) J J J J (Ys pU) Pb Lk)<|tt (Mw (i:=6) (enc:=Nl) _ J J J J J J pU J hw.h O3 O2) fun _ _=>go 8 ⟨O,?_⟩
       exact Xf (jj-1,_,_) ⟨O1,(Ke _ _ _ hL2).trans (hl1.trans hRl),Zn3 (Zn3 hRa (Ob _ Xl) _) (Ok Xi _) _,O8,Mr hqa _ _ hgU,hV2,hN2⟩ O1 ⟨by rw [show(((jj-1:Nat):Int)-1)=(jj:Int)-1-1 by omega];rfl,trivial⟩ K2
    ·refine go 6 ?_
     obtain rfl:jj=0:=O
     rw [Nat.pow_zero,Nat.mul_one]at hV
     have hVb:bl (Ye U R)≤8589934592:=by have:=Pn (Nat.le_of_lt hV);omega
     refine go 2 ?_
     refine cl 9 [6] (Ph _ _) fun _ _=>?_
     refine Yp (Zaf 6 J J pU)<|go 1 ?_
     refine cl 9 [82] (Ph _ _) fun _ _=>?_
     refine Yp (Zaf 82 J J pU)<|Yp (Zf0 82 (Ly Xi R hRa).symm J J)<|go 1 ?_
     refine cl 10 [82] (Yg3 _ _ _ hVb O) fun v_13 _=>go 5 ?_
     rw [List.drop_zero,Nat.pow_zero,Nat.mul_one]at hN
     have hqq:tz q=dg U (x/y):=by
      rw [←Ly Xi _ hqa,←Zkl x y b,←hDe,←hN,Nat.mul_comm,Nat.mul_add_div hD0,Nat.div_eq_of_lt hV,Nat.add_zero]
     have hrr:Ye U R/2^b=x%y:=by
      rw [←Zkk x y b,←hDe,←hN,Nat.mul_comm,Nat.mul_add_mod,Nat.mod_eq_of_lt hV]
     exact Mi hsc (_,_) results267 J trivial (gow 6 (Ot 10 Za (by rw [hrr])) hqq)
theorem Zmo(v w:Value)(x y:Nat)(hx:bl x≤4000000000:=by omega)(hy:bl y≤4000000000:=by omega):Cal prog 217 #[v,w] [Fa v x,Fa w y] true (G:=Value) (fun r=>True) (fun r=>r) (fun r=>[Fa r (Nat.gcd x y)]):=by
 refine Zd func217 ntmps217 fun w0 sc hw hsc=>?_
 have hX:=Nb x
 have hY:=Nb y
 refine go 7 ?_
 refine Zf (Pj 1 91 J J J)<|Zf (Pj 2 92 J J J)<|lp (G:=Value×Value×Nat×Nat) [] [0,1,2] (fun q=>[(0,q.1),(1,q.2.1)]) (fun q=>[(91,Fa q.1 q.2.2.1),(92,Fa q.2.1 q.2.2.2)]) (fun q=>(Nat.gcd q.2.2.1 q.2.2.2=Nat.gcd x y)∧(bl q.2.2.1≤4000000000)∧(bl q.2.2.2≤4000000000)) (fun q=>q.2.2.2) (v,w,x,y) ⟨J,hx,hy⟩ K2 K2 ?_
 rintro⟨va,vb,a,b⟩ ⟨hg,ha,hb⟩
 dsimp only at hg ha hb
 dsimp only
 refine go 8 ?_
 refine Zc J (fun h201=>?_) (fun h201=>?_)
 ·have hb0:0<b:=by rcases Nat.eq_zero_or_pos b with h | h;(subst h;simp [Iq]at h201);exact h
  refine go 7 ?_
  refine cl 3 [91,92] (Zu5 _ _ _ _ ha hb hb0) fun g _=>go 14 ?_
  have hlt:a%b<b:=Nat.mod_lt _ hb0
  exact Yg (Pj 92 91 J J J)<|Yg (Pj 4 92 J J J)<|Xf (_,_,b,a%b) ⟨by dsimp only;rw [←hg,Nat.gcd_comm b,←Nat.gcd_rec,Nat.gcd_comm],hb,Nat.le_trans (Pn (Nat.le_of_lt hlt)) hb⟩ hlt K2 K2
 ·have hb0:b=0:=(Pe Xi b).1 O
  refine go 12 ?_
  exact Xn hsc _ results217 J trivial (Ot 91 Za (by rw [←hg,hb0,Nat.gcd_zero_right]))
theorem Zmj(s:Bool)(v:Value)(x:Int)(hs:sg s x):Cal prog 235 #[.agg #[.bool s,v]] [Fa v x.natAbs] true (G:=Bool×Value) (fun r=>sg r.1 (-x)) (fun r=> .agg #[.bool r.1,r.2]) (fun r=>[Fa r.2 (-x).natAbs]):=by
 refine Zd func235 ntmps235 fun w0 sc hw hsc=>go 2 ?_
 refine Yk (Yj 2) fun b _=>Yk (Zz 3) fun b_2 _=>go 9 ?_
 refine dt (Qi (ivs:=[(0,_),(1,_)]) J K4 (fun a w hs=>Lp ((Yo J) a w hs) ((Pl (i:=1) J Zk) a w hs)))<|go 4 ?_
 exact Xn hsc (!s,v) results235 J (Yad hs) (Ot 1 Za (by rw [Int.natAbs_neg]))
theorem Zbs(s t:Bool)(v w:Value)(x y:Int)(hs:sg s x)(ht:sg t y)(hx:bl x.natAbs≤4294967296:=by omega)(hy:bl y.natAbs≤4294967296:=by omega):Cal prog 167 #[.agg #[.bool s,v],.agg #[.bool t,w]] [Fa v x.natAbs,Fa w y.natAbs] true (G:=Bool×Value) (fun r=>sg r.1 (x*y)) (fun r=> .agg #[.bool r.1,r.2]) (fun r=>[Fa r.2 (x*y).natAbs]):=by
 refine Zd func167 ntmps167 fun w0 sc hw hsc=>go 2 ?_
 refine Yk (Yj 3) fun b _=>Yk (Yj 4) fun b_2 _=>Yk (Zz 5) fun b_3 _=>go 3 ?_
 refine Qe (fun _=>False) [(0,0),(1,0),(2,0),(3,0),(4,0),(5,0),(6,0),(7,0),(8,0),(9,1),(10,0),(11,3)]<|go 9 ?_
 refine Yz (Zg 6 [1,2] (Zu4 _ _ _ _ hx hy)) fun v _=>?_
 refine Qc J J (Qy (Qi (ivs:=[(0,_),(1,_)]) J K4 (fun a w hs=>Lp ((Yo J) a w hs) ((Pl (i:=6) J Zk) a w hs))))<|go 4 ?_
 exact Xn hsc (_,_) results167 J (Yae hs ht) (Ot 6 Za (by rw [Int.natAbs_mul]))
theorem Zib(s:Bool)(v:Value)(x:Int)(hs:sg s x)(hx:bl x.natAbs≤4294967296:=by omega):Cal prog 236 #[.agg #[.bool s,v]] [Fa v x.natAbs] true (G:=Unit) (fun _=>True) (fun _=> .int .i64 x.sign) (fun _=>[]):=by
 refine Zd func236 ntmps236 fun w0 sc hw hsc=>?_
 have hX:=Nb x.natAbs
 refine go 2 ?_
 refine Yk (Yj 2) fun b _=>go 14 ?_
 refine Zc J (fun h245=>?_) (fun h245=>?_)
 ·refine go 8 ?_
  exact Xn hsc () results236 (Zxg h245) trivial Za
 ·refine go 7 ?_
  refine Lb J (fun h247=>?_) (fun h247=>?_)
  ·refine go 8 ?_
   exact Xn hsc () results236 (Zz8 hs h247 h245) trivial Za
  ·refine go 9 ?_
   exact Xn hsc () results236 (Zz7 hs h247 h245) trivial Za
theorem Zd8(s t:Bool)(v w:Value)(x y:Int)(hs:sg s x)(ht:sg t y)(hx:bl x.natAbs≤4294967296:=by omega)(hy:bl y.natAbs≤4294967296:=by omega):Cal prog 170 #[.agg #[.bool s,v],.agg #[.bool t,w]] [Fa v x.natAbs,Fa w y.natAbs] true (G:=Bool×Value) (fun r=>sg r.1 (x+y)) (fun r=> .agg #[.bool r.1,r.2]) (fun r=>[Fa r.2 (x+y).natAbs]):=by
 refine Zd func170 ntmps170 fun w0 sc hw hsc=>go 2 ?_
 refine Yk (Yj 3) fun b _=>Yk (Yj 4) fun b_2 _=>Yk (Zz 5) fun b_3 _=>go 14 ?_
 refine Lb J (fun h231=>?_) (fun h231=>?_)
 ·have hst:s=t:=by simpa using h231
  refine go 1 ?_
  refine Qe (fun _=>False) [(0,0),(1,0),(2,0),(3,0),(4,0),(5,0),(6,1),(7,0),(8,3)]<|go 6 ?_
  refine Yz (Zg 6 [1,2] (Zu6 _ _ _ _ hx hy)) fun v _=>?_
  refine Qc J J (Qy (Qi (ivs:=[(0,_),(1,_)]) J K4 (fun a w hs=>Lp ((Yo J) a w hs) ((Pl (i:=6) J Zk) a w hs))))<|go 6 ?_
  exact Xn hsc (_,_) results170 J (Zug hs (hst▸ht)) (Ot 6 Za (by rw [Zex hs (hst▸ht)]))
 ·have hst:s≠t:=by simpa using h231
  refine go 6 ?_
  refine cl 6 [1,2] (Zav _ _ _ _ hx hy) fun r hr=>go 4 ?_
  refine Zc J (fun h233=>?_) (fun h233=>?_)
  ·have hge:y.natAbs≤x.natAbs:=by have:=hr.1;omega
   refine go 1 ?_
   refine Qe (fun _=>False) [(0,0),(1,0),(2,0),(3,0),(4,0),(5,0),(6,1),(7,0),(8,3)]<|go 6 ?_
   refine Yz (Zg 7 [1,2] (Zd9 _ _ _ _ hx)) fun v_2 _=>?_
   refine Qc J J (Qy (Qi (ivs:=[(0,_),(1,_)]) J K4 (fun a w hs=>Lp ((Yo J) a w hs) ((Pl (i:=7) J Zk) a w hs))))<|go 6 ?_
   exact Xn hsc (_,_) results170 J (Zgr hs ht hst hge) (Ot 7 Za (by rw [Ac hs ht hst hge]))
  ·have hge:x.natAbs≤y.natAbs:=by have:=hr.1;omega
   refine go 4 ?_
   refine Qe (fun _=>False) [(0,0),(1,0),(2,0),(3,0),(4,0),(5,0),(6,1),(7,0),(8,3)]<|go 6 ?_
   refine Yz (Zg 8 [2,1] (Zd9 _ _ _ _ hy)) fun v_3 _=>?_
   refine Qc J J (Qy (Qi (ivs:=[(0,_),(1,_)]) J K4 (fun a w hs=>Lp ((Yo J) a w hs) ((Pl (i:=8) J Zk) a w hs))))<|go 4 ?_
   exact Xn hsc (_,_) results170 J (by rw [Int.add_comm];exact Zgr ht hs (Ne.symm hst) hge) (Ot 8 Za (by rw [Int.add_comm,Ac ht hs (Ne.symm hst) hge]))
theorem Xt(s:Bool)(x:Int)(hs:sg s x)(hx:bl x.natAbs≤4294967296:=by omega):Cal prog 166 #[.agg #[.bool s,.string (Xz x.natAbs)]] [] true (G:=Bool×Value) (fun r=>sg r.1 x) (fun r=> .agg #[.bool r.1,r.2]) (fun r=>[Fa r.2 x.natAbs]):=by
 refine Zd func166 ntmps166 fun w0 sc hw hsc=>go 2 ?_
 refine Yk (Yj 1) fun b _=>Yk (Zz 2) fun b_2 _=>go 3 ?_
 refine Qe (fun _=>False) [(0,0),(1,0),(2,0),(3,0),(4,1),(5,0),(6,3)]<|go 4 ?_
 refine Yz (Zg 3 [] (Zbj _ hx)) fun v _=>?_
 refine Qc J J (Qy (Qi (ivs:=[(0,_),(1,_)]) J K4 (fun a w hs=>Lp ((Yo J) a w hs) ((Pl (i:=3) J Zk) a w hs))))<|go 4 ?_
 exact Xn hsc (_,_) results166 J hs (Ot 3 Za J)
theorem Kz(s:Bool)(v:Value)(x:Int)(hs:sg s x)(hx:bl x.natAbs≤4294967296:=by omega):Om prog 184 #[.agg #[.bool s,v]] [Fa v x.natAbs] (Zah x):=by
 refine Zd func184 ntmps184 fun w0 sc hw hsc=>go 2 ?_
 refine Yk (Yj 2) fun b _=>Yk (Zz 3) fun b_2 _=>go 8 ?_
 refine cl 3 [1] (Zid _ _) fun _ _=>go 3 ?_
 refine Zc J (fun h219=>?_) (fun h219=>?_)
 ·refine go 2 ?_
  refine dt (Qi (ivs:=[]) J trivial (fun a w hs=>b80_))<|go 6 ?_
  exact Mi hsc () results184 (Zw3 h219) trivial Za
 ·refine go 3 ?_
  cases s
  ·refine Qe (fun _=>False) [(0,0),(1,0),(2,0),(3,2),(4,2),(5,2),(6,2),(7,0),(8,0),(9,0),(10,1),(11,0),(12,3),(13,3)]<|go 10 ?_
   refine Yz (Zg 3 [1] (Zk4 _ _)) fun _ _=>?_
   refine Qc J J (Qy (Qi (ivs:=[(0,_),(1,_)]) J K4 (fun a w hs=>Ztr ((Yo J) a w hs) ((Yo J) a w hs))))<|go 5 ?_
   exact Mi hsc () results184 (by first | exact Zn9 hs h219 | exact Zn8 hs h219) trivial Za
  ·refine Qe (fun _=>False) [(0,0),(1,0),(2,0),(3,0),(4,0),(5,0),(6,0),(7,0),(8,0),(9,0),(10,1),(11,0),(12,3),(13,3)]<|go 10 ?_
   refine Yz (Zg 3 [1] (Zk4 _ _)) fun _ _=>?_
   refine Qc J J (Qy (Qi (ivs:=[(0,_),(1,_)]) J K4 (fun a w hs=>Ztr ((Yo J) a w hs) ((Yo J) a w hs))))<|go 5 ?_
   exact Mi hsc () results184 (by first | exact Zn9 hs h219 | exact Zn8 hs h219) trivial Za
theorem Of(s t:Bool)(v w:Value)(x y:Int)(hs:sg s x)(ht:sg t y)(hy0:y≠0)(hx:bl x.natAbs≤3000000000:=by omega)(hy:bl y.natAbs≤3000000000:=by omega):Cal prog 218 #[.agg #[.bool s,v],.agg #[.bool t,w]] [Fa v x.natAbs,Fa w y.natAbs] true (G:=Bool×Value×Value) (fun r=>sg r.1 (x/y)) (fun r=> .tuple #[.agg #[.bool r.1,r.2.1],.agg #[.bool false,r.2.2]]) (fun r=>[Fa r.2.1 (x/y).natAbs,Fa r.2.2 (x%y).natAbs]):=by
 refine Zd func218 ntmps218 fun w0 sc hw hsc=>?_
 have hX:=Nb x.natAbs
 have hY:=Nb y.natAbs
 have hyp:0<y.natAbs:=O
 have hrl:x.natAbs%y.natAbs<y.natAbs:=Nat.mod_lt _ hyp
 have hrb:=Pn (Nat.le_of_lt hrl)
 have hqb:=Pn (Nat.div_le_self x.natAbs y.natAbs)
 refine go 2 ?_
 refine Yk (Yj 3) fun b _=>Yk (Yj 4) fun b_2 _=>Yk (Zz 5) fun b_3 _=>Yk (Zz 6) fun b_4 _=>go 8 ?_
 refine cl 7 [1,2] (Zu5 _ _ _ _ O O hyp) fun g _=>go 13 ?_
 refine Bo (d:=18) J (fun s256=>?_) (fun s256=>?_)
 ·refine go 6 ?_
  refine Zc J (fun h256=>?_) (fun h256=>?_)
  ·subst s256
   have hR0:0<x.natAbs%y.natAbs:=by rcases Nat.eq_zero_or_pos (x.natAbs%y.natAbs)with h | h;(rw [h]at h256;simp [Iq]at h256);exact h
   have hD:=divA hs ht hy0 hR0
   refine Qe (fun _=>False) [(0,0),(3,0),(4,0),(5,0),(1,1),(2,1),(6,1),(7,0),(8,3)]<|go 4 ?_
   refine Ev J (Qh (i:=9) (ivs:=[(0,_)]) (enc:=Nl) (dg U 1) J J K2 Pb ti232 J J J J J pU.cells J J hw.h) fun v _=>Yz (Zg 10 [7,9] (Zu6 _ _ _ _ O (show bl 1≤4294967296 by decide))) fun v_2 _=>Yz (Zg 11 [2,8] (Zd9 _ _ _ _ O)) fun v_3 _=>go 12 ?_
   refine dt (Qi (ivs:=[(0,_),(1,_)]) J K4 (fun a w hs=>Lp ((Yo J) a w hs) ((Pl (i:=10) J Zk) a w hs)))<|go 1 ?_
   refine dt (Qi (ivs:=[(0,_),(1,_)]) J K4 (fun a w hs=>Lp ((Yo J) a w hs) ((Pl (i:=11) J Zk) a w hs)))<|go 5 ?_
   exact Mi hsc (_,_,_) results218 J hD.1 (Ot 10 (Ot 11 Za (by rw [hD.2.2]<;>rfl)) (by rw [hD.2.1]<;>rfl))
  ·have hD:=divB hs ht hy0 (.inr ((Pe Xi _).1 O))
   refine go 10 ?_
   refine dt (Qi (ivs:=[(0,_),(1,_)]) J K4 (fun a w hs=>Lp ((Yo J) a w hs) ((Pl (i:=7) J Zk) a w hs)))<|go 1 ?_
   refine dt (Qi (ivs:=[(0,_),(1,_)]) J K4 (fun a w hs=>Lp ((Yo J) a w hs) ((Pl (i:=8) J Zk) a w hs)))<|go 5 ?_
   exact Mi hsc (_,_,_) results218 J hD.1 (Ot 7 (Ot 8 Za (by rw [hD.2.2]<;>rfl)) (by rw [hD.2.1]<;>rfl))
 ·have hD:=divB hs ht hy0 (.inl s256)
  refine go 17 ?_
  refine dt (Qi (ivs:=[(0,_),(1,_)]) J K4 (fun a w hs=>Lp ((Yo J) a w hs) ((Pl (i:=7) J Zk) a w hs)))<|go 1 ?_
  refine dt (Qi (ivs:=[(0,_),(1,_)]) J K4 (fun a w hs=>Lp ((Yo J) a w hs) ((Pl (i:=8) J Zk) a w hs)))<|go 5 ?_
  exact Mi hsc (_,_,_) results218 J hD.1 (Ot 7 (Ot 8 Za (by rw [hD.2.2]<;>rfl)) (by rw [hD.2.1]<;>rfl))
end Go.Sky

