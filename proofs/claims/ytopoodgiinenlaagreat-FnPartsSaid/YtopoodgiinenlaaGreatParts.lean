/- The law FnParts holds: whatever the input, it returns true, and the input reads as it did. Conditions: none beside those of the statement. -/
import Derived.Test.YtopoodgiinenlaaGreatRows
import Derived.Test.YtopoodgiinenlaaGreatChecked
import Derived.Test.YtopoodgiinenlaaGreatPartsCt4
import Derived.WalkKit
import Derived.ProofKit
import Derived.OpenShut
import Derived.ShutString
import Derived.ChangeOld
import Derived.Below
import Derived.SizedLaws
import Derived.KernelRfl
namespace Go.Proofs.YtopoodgiinenlaaGreat.fnParts
open Go.ChangeShapes Go.WideShapes Go.ChangeAt Go.RowKit
open Tev (FnOk aB tbl hnd)
set_option linter.unusedVariables false
set_option maxRecDepth 100000
set_option maxHeartbeats 20000000
def L:Nat→FuncId
 |1=>84
 |2=>67
 |14=>106
 |15=>47
 |25=>140
 |26=>83
 |29=>163
 |30=>66
 |31=>126
 |32=>41
 |36=>92
 |37=>74
 |42=>125
 |71=>37
 |72=>71
 |81=>159
 |89=>171
 |90=>136
 |91=>135
 |92=>121
 |93=>117
 |94=>50
 |97=>59
 |102=>164
 |113=>185
 |123=>93
 |128=>43
 |132=>32
 |135=>17
 |149=>4
 |155=>21
 |156=>162
 |157=>61
 |158=>161
 |159=>186
 |160=>123
 |161=>122
 |162=>27
 |163=>76
 |164=>192
 |177=>145
 |180=>180
 |181=>146
 |182=>181
 |191=>130
 |193=>165
 |194=>131
 |195=>166
 |196=>167
 |197=>188
 |198=>105
 |199=>187
 |200=>168
 |212=>33
 |213=>85
 |214=>86
 |215=>24
 |216=>64
 |217=>65
 |218=>124
 |232=>96
 |233=>98
 |234=>149
 |235=>142
 |236=>144
 |237=>183
 |238=>138
 |239=>143
 |240=>179
 |241=>137
 |242=>172
 |243=>173
 |244=>82
 |245=>80
 |246=>134
 |247=>170
 |248=>129
 |249=>114
 |250=>189
 |251=>52
 |252=>113
 |253=>153
 |254=>116
 |255=>150
 |256=>111
 |257=>152
 |258=>184
 |262=>148
 |263=>182
 |264=>191
 |265=>193
 |266=>194
 |267=>195
 |268=>196
 |271=>133
 |272=>169
 |285=>94
 |286=>79
 |288=>40
 |290=>70
 |291=>90
 |295=>91
 |296=>72
 |301=>141
 |302=>174
 |303=>175
 |304=>176
 |305=>177
 |306=>178
 |307=>95
 |308=>62
 |309=>190
 |310=>48
 |311=>46
 |312=>107
 |313=>108
 |314=>109
 |315=>110
 |316=>49
 |317=>104
 |318=>112
 |319=>115
 |320=>151
 |329=>18
 |330=>44
 |331=>45
 |332=>100
 |333=>101
 |334=>102
 |335=>103
 |346=>87
 |348=>158
 |350=>139
 |360=>20
 |361=>51
 |362=>53
 |363=>54
 |364=>118
 |365=>156
 |367=>97
 |368=>147
 |369=>88
 |370=>81
 |371=>132
 |372=>68
 |414=>14
 |415=>13
 |416=>11
 |417=>31
 |418=>34
 |419=>35
 |420=>89
 |421=>60
 |422=>6
 |423=>25
 |424=>26
 |425=>69
 |426=>73
 |432=>58
 |442=>16
 |444=>42
 |453=>12
 |454=>36
 |456=>8
 |457=>29
 |462=>128
 |469=>57
 |498=>77
 |535=>10
 |538=>15
 |541=>119
 |542=>120
 |543=>78
 |544=>160
 |545=>75
 |546=>127
 |547=>154
 |548=>155
 |549=>157
 |550=>56
 |551=>63
 |552=>23
 |553=>28
 |555=>30
 |556=>38
 |557=>39
 |558=>99
 |559=>19
 |573=>5
 |574=>22
 |575=>55
 |580=>7
 |581=>9
 |593=>3
 |_=>0
theorem own:ownKnob Tryz.prog.godebug=none:=by kernel_rfl
theorem types:Tev.TypesOk Tryz.prog:=⟨by kernel_rfl,by kernel_rfl,by kernel_rfl⟩
abbrev OkF (i:Nat) (c:Tev.Fn):Prop:=FnOk Tryz.prog L i c∧c.hand=hnd i
theorem ok1:OkF 1 Tev.aEQ:=⟨aB _ _ rfl Tryz.func84 (by kernel_rfl),rfl⟩
theorem ok2:OkF 2 Tev.yM:=⟨aB _ _ rfl Tryz.func67 (by kernel_rfl),rfl⟩
theorem ok14:OkF 14 Tev.yX:=⟨aB _ _ rfl Tryz.func106 (by kernel_rfl),rfl⟩
theorem ok15:OkF 15 Tev.oM:=⟨aB _ _ rfl Tryz.func47 (by kernel_rfl),rfl⟩
theorem ok25:OkF 25 Tev.aCo:=⟨aB _ _ rfl Tryz.func140 (by kernel_rfl),rfl⟩
theorem ok26:OkF 26 Tev.aCp:=⟨aB _ _ rfl Tryz.func83 (by kernel_rfl),rfl⟩
theorem ok29:OkF 29 Tev.dJ:=⟨aB _ _ rfl Tryz.func163 (by kernel_rfl),rfl⟩
theorem ok30:OkF 30 Tev.dY:=⟨aB _ _ rfl Tryz.func66 (by kernel_rfl),rfl⟩
theorem ok31:OkF 31 Tev.aCc:=⟨aB _ _ rfl Tryz.func126 (by kernel_rfl),rfl⟩
theorem ok32:OkF 32 Tev.aBO:=⟨aB _ _ rfl Tryz.func41 (by kernel_rfl),rfl⟩
theorem ok36:OkF 36 Tev.rJ:=⟨aB _ _ rfl Tryz.func92 (by kernel_rfl),rfl⟩
theorem ok37:OkF 37 Tev.rB:=⟨aB _ _ rfl Tryz.func74 (by kernel_rfl),rfl⟩
theorem ok42:OkF 42 Tev.yS:=⟨aB _ _ rfl Tryz.func125 (by kernel_rfl),rfl⟩
theorem ok71:OkF 71 Tev.aAa:=⟨aB _ _ rfl Tryz.func37 (by kernel_rfl),rfl⟩
theorem ok72:OkF 72 Tev.zD:=⟨aB _ _ rfl Tryz.func71 (by kernel_rfl),rfl⟩
theorem ok81:OkF 81 Tev.oU:=⟨aB _ _ rfl Tryz.func159 (by kernel_rfl),rfl⟩
theorem ok89:OkF 89 Tev.vA:=⟨aB _ _ rfl Tryz.func171 (by kernel_rfl),rfl⟩
theorem ok90:OkF 90 Tev.rQ:=⟨aB _ _ rfl Tryz.func136 (by kernel_rfl),rfl⟩
theorem ok91:OkF 91 Tev.vB:=⟨aB _ _ rfl Tryz.func135 (by kernel_rfl),rfl⟩
theorem ok92:OkF 92 Tev.vC:=⟨aB _ _ rfl Tryz.func121 (by kernel_rfl),rfl⟩
theorem ok93:OkF 93 Tev.tJ:=⟨aB _ _ rfl Tryz.func117 (by kernel_rfl),rfl⟩
theorem ok94:OkF 94 Tev.qU:=⟨aB _ _ rfl Tryz.func50 (by kernel_rfl),rfl⟩
theorem ok97:OkF 97 Tev.zW:=⟨aB _ _ rfl Tryz.func59 (by kernel_rfl),rfl⟩
theorem ok102:OkF 102 Tev.tY:=⟨aB _ _ rfl Tryz.func164 (by kernel_rfl),rfl⟩
theorem ok113:OkF 113 Tev.aER:=⟨aB _ _ rfl Tryz.func185 (by kernel_rfl),rfl⟩
theorem ok123:OkF 123 Tev.rL:=⟨aB _ _ rfl Tryz.func93 (by kernel_rfl),rfl⟩
theorem ok128:OkF 128 Tev.tK:=⟨aB _ _ rfl Tryz.func43 (by kernel_rfl),rfl⟩
theorem ok132:OkF 132 Tev.aCE:=⟨aB _ _ rfl Tryz.func32 (by kernel_rfl),rfl⟩
theorem ok135:OkF 135 Tev.aBP:=⟨aB _ _ rfl Tryz.func17 (by kernel_rfl),rfl⟩
theorem ok149:OkF 149 Tev.aGR:=⟨aB _ _ rfl Tryz.func4 (by kernel_rfl),rfl⟩
theorem ok155:OkF 155 Tev.aCS:=⟨aB _ _ rfl Tryz.func21 (by kernel_rfl),rfl⟩
theorem ok156:OkF 156 Tev.zQ:=⟨aB _ _ rfl Tryz.func162 (by kernel_rfl),rfl⟩
theorem ok157:OkF 157 Tev.uG:=⟨aB _ _ rfl Tryz.func61 (by kernel_rfl),rfl⟩
theorem ok158:OkF 158 Tev.aCt:=⟨aB _ _ rfl Tryz.func161 (by kernel_rfl),rfl⟩
theorem ok159:OkF 159 Tev.uN:=⟨aB _ _ rfl Tryz.func186 (by kernel_rfl),rfl⟩
theorem ok160:OkF 160 Tev.aCg:=⟨aB _ _ rfl Tryz.func123 (by kernel_rfl),rfl⟩
theorem ok161:OkF 161 Tev.zH:=⟨aB _ _ rfl Tryz.func122 (by kernel_rfl),rfl⟩
theorem ok162:OkF 162 Tev.zI:=⟨aB _ _ rfl Tryz.func27 (by kernel_rfl),rfl⟩
theorem ok163:OkF 163 Tev.aCk:=⟨aB _ _ rfl Tryz.func76 (by kernel_rfl),rfl⟩
theorem ok164:OkF 164 Tev.zP:=⟨aB _ _ rfl Tryz.func192 (by kernel_rfl),rfl⟩
theorem ok177:OkF 177 Tev.zY:=⟨aB _ _ rfl Tryz.func145 (by kernel_rfl),rfl⟩
theorem ok180:OkF 180 Tev.rR:=⟨aB _ _ rfl Tryz.func180 (by kernel_rfl),rfl⟩
theorem ok181:OkF 181 Tev.zX:=⟨aB _ _ rfl Tryz.func146 (by kernel_rfl),rfl⟩
theorem ok182:OkF 182 Tev.aCT:=⟨aB _ _ rfl Tryz.func181 (by kernel_rfl),rfl⟩
theorem ok191:OkF 191 Tev.zB:=⟨aB _ _ rfl Tryz.func130 (by kernel_rfl),rfl⟩
theorem ok193:OkF 193 Tev.qY:=⟨aB _ _ rfl Tryz.func165 (by kernel_rfl),rfl⟩
theorem ok194:OkF 194 Tev.oP:=⟨aB _ _ rfl Tryz.func131 (by kernel_rfl),rfl⟩
theorem ok195:OkF 195 Tev.cZ:=⟨aB _ _ rfl Tryz.func166 (by kernel_rfl),rfl⟩
theorem ok196:OkF 196 Tev.qZ:=⟨aB _ _ rfl Tryz.func167 (by kernel_rfl),rfl⟩
theorem ok197:OkF 197 Tev.dI:=⟨aB _ _ rfl Tryz.func188 (by kernel_rfl),rfl⟩
theorem ok198:OkF 198 Tev.aB4:=⟨aB _ _ rfl Tryz.func105 (by kernel_rfl),rfl⟩
theorem ok199:OkF 199 Tev.zA:=⟨aB _ _ rfl Tryz.func187 (by kernel_rfl),rfl⟩
theorem ok200:OkF 200 Tev.aCa:=⟨aB _ _ rfl Tryz.func168 (by kernel_rfl),rfl⟩
theorem ok212:OkF 212 Tev.vH:=⟨aB _ _ rfl Tryz.func33 (by kernel_rfl),rfl⟩
theorem ok213:OkF 213 Tev.zS:=⟨aB _ _ rfl Tryz.func85 (by kernel_rfl),rfl⟩
theorem ok214:OkF 214 Tev.zZ:=⟨aB _ _ rfl Tryz.func86 (by kernel_rfl),rfl⟩
theorem ok215:OkF 215 Tev.rA:=⟨aB _ _ rfl Tryz.func24 (by kernel_rfl),rfl⟩
theorem ok216:OkF 216 Tev.tV:=⟨aB _ _ rfl Tryz.func64 (by kernel_rfl),rfl⟩
theorem ok217:OkF 217 Tev.oQ:=⟨aB _ _ rfl Tryz.func65 (by kernel_rfl),rfl⟩
theorem ok218:OkF 218 Tev.dX:=⟨aB _ _ rfl Tryz.func124 (by kernel_rfl),rfl⟩
theorem ok232:OkF 232 Tev.vF:=⟨aB _ _ rfl Tryz.func96 (by kernel_rfl),rfl⟩
theorem ok233:OkF 233 Tev.aCG:=⟨aB _ _ rfl Tryz.func98 (by kernel_rfl),rfl⟩
theorem ok234:OkF 234 Tev.zN:=⟨aB _ _ rfl Tryz.func149 (by kernel_rfl),rfl⟩
theorem ok235:OkF 235 Tev.nI:=⟨aB _ _ rfl Tryz.func142 (by kernel_rfl),rfl⟩
theorem ok236:OkF 236 Tev.zK:=⟨aB _ _ rfl Tryz.func144 (by kernel_rfl),rfl⟩
theorem ok237:OkF 237 Tev.uJ:=⟨aB _ _ rfl Tryz.func183 (by kernel_rfl),rfl⟩
theorem ok238:OkF 238 Tev.aCm:=⟨aB _ _ rfl Tryz.func138 (by kernel_rfl),rfl⟩
theorem ok239:OkF 239 Tev.zJ:=⟨aB _ _ rfl Tryz.func143 (by kernel_rfl),rfl⟩
theorem ok240:OkF 240 Tev.uI:=⟨aB _ _ rfl Tryz.func179 (by kernel_rfl),rfl⟩
theorem ok241:OkF 241 Tev.zL:=⟨aB _ _ rfl Tryz.func137 (by kernel_rfl),rfl⟩
theorem ok242:OkF 242 Tev.aCl:=⟨aB _ _ rfl Tryz.func172 (by kernel_rfl),rfl⟩
theorem ok243:OkF 243 Tev.zM:=⟨aB _ _ rfl Tryz.func173 (by kernel_rfl),rfl⟩
theorem ok244:OkF 244 Tev.oR:=⟨aB _ _ rfl Tryz.func82 (by kernel_rfl),rfl⟩
theorem ok245:OkF 245 Tev.tT:=⟨aB _ _ rfl Tryz.func80 (by kernel_rfl),rfl⟩
theorem ok246:OkF 246 Tev.aCb:=⟨aB _ _ rfl Tryz.func134 (by kernel_rfl),rfl⟩
theorem ok247:OkF 247 Tev.zC:=⟨aB _ _ rfl Tryz.func170 (by kernel_rfl),rfl⟩
theorem ok248:OkF 248 Tev.dW:=⟨aB _ _ rfl Tryz.func129 (by kernel_rfl),rfl⟩
theorem ok249:OkF 249 Tev.yO:=⟨aB _ _ rfl Tryz.func114 (by kernel_rfl),rfl⟩
theorem ok250:OkF 250 Tev.tW:=⟨aB _ _ rfl Tryz.func189 (by kernel_rfl),rfl⟩
theorem ok251:OkF 251 Tev.aBX:=⟨aB _ _ rfl Tryz.func52 (by kernel_rfl),rfl⟩
theorem ok252:OkF 252 Tev.yN:=⟨aB _ _ rfl Tryz.func113 (by kernel_rfl),rfl⟩
theorem ok253:OkF 253 Tev.tI:=⟨aB _ _ rfl Tryz.func153 (by kernel_rfl),rfl⟩
theorem ok254:OkF 254 Tev.yP:=⟨aB _ _ rfl Tryz.func116 (by kernel_rfl),rfl⟩
theorem ok255:OkF 255 Tev.aB6:=⟨aB _ _ rfl Tryz.func150 (by kernel_rfl),rfl⟩
theorem ok256:OkF 256 Tev.yQ:=⟨aB _ _ rfl Tryz.func111 (by kernel_rfl),rfl⟩
theorem ok257:OkF 257 Tev.aEO:=⟨aB _ _ rfl Tryz.func152 (by kernel_rfl),rfl⟩
theorem ok258:OkF 258 Tev.aEN:=⟨aB _ _ rfl Tryz.func184 (by kernel_rfl),rfl⟩
theorem ok262:OkF 262 Tev.uR:=⟨aB _ _ rfl Tryz.func148 (by kernel_rfl),rfl⟩
theorem ok263:OkF 263 Tev.uQ:=⟨aB _ _ rfl Tryz.func182 (by kernel_rfl),rfl⟩
theorem ok264:OkF 264 Tev.uP:=⟨aB _ _ rfl Tryz.func191 (by kernel_rfl),rfl⟩
theorem ok265:OkF 265 Tev.aEU:=⟨aB _ _ rfl Tryz.func193 (by kernel_rfl),rfl⟩
theorem ok266:OkF 266 Tev.aES:=⟨aB _ _ rfl Tryz.func194 (by kernel_rfl),rfl⟩
theorem ok267:OkF 267 Tev.nH:=⟨aB _ _ rfl Tryz.func195 (by kernel_rfl),rfl⟩
theorem ok268:OkF 268 Tev.aET:=⟨aB _ _ rfl Tryz.func196 (by kernel_rfl),rfl⟩
theorem ok271:OkF 271 Tev.tS:=⟨aB _ _ rfl Tryz.func133 (by kernel_rfl),rfl⟩
theorem ok272:OkF 272 Tev.tR:=⟨aB _ _ rfl Tryz.func169 (by kernel_rfl),rfl⟩
theorem ok285:OkF 285 Tev.vG:=⟨aB _ _ rfl Tryz.func94 (by kernel_rfl),rfl⟩
theorem ok286:OkF 286 Tev.tU:=⟨aB _ _ rfl Tryz.func79 (by kernel_rfl),rfl⟩
theorem ok288:OkF 288 Tev.rG:=⟨aB _ _ rfl Tryz.func40 (by kernel_rfl),rfl⟩
theorem ok290:OkF 290 Tev.zE:=⟨aB _ _ rfl Tryz.func70 (by kernel_rfl),rfl⟩
theorem ok291:OkF 291 Tev.aAf:=⟨aB _ _ rfl Tryz.func90 (by kernel_rfl),rfl⟩
theorem ok295:OkF 295 Tev.rT:=⟨aB _ _ rfl Tryz.func91 (by kernel_rfl),rfl⟩
theorem ok296:OkF 296 Tev.rC:=⟨aB _ _ rfl Tryz.func72 (by kernel_rfl),rfl⟩
theorem ok301:OkF 301 Tev.aAd:=⟨aB _ _ rfl Tryz.func141 (by kernel_rfl),rfl⟩
theorem ok302:OkF 302 Tev.aCU:=⟨aB _ _ rfl Tryz.func174 (by kernel_rfl),rfl⟩
theorem ok303:OkF 303 Tev.aAb:=⟨aB _ _ rfl Tryz.func175 (by kernel_rfl),rfl⟩
theorem ok304:OkF 304 Tev.aAc:=⟨aB _ _ rfl Tryz.func176 (by kernel_rfl),rfl⟩
theorem ok305:OkF 305 Tev.vL:=⟨aB _ _ rfl Tryz.func177 (by kernel_rfl),rfl⟩
theorem ok306:OkF 306 Tev.vK:=⟨aB _ _ rfl Tryz.func178 (by kernel_rfl),rfl⟩
theorem ok307:OkF 307 Tev.aCx:=⟨aB _ _ rfl Tryz.func95 (by kernel_rfl),rfl⟩
theorem ok308:OkF 308 Tev.uO:=⟨aB _ _ rfl Tryz.func62 (by kernel_rfl),rfl⟩
theorem ok309:OkF 309 Tev.rS:=⟨aB _ _ rfl Tryz.func190 (by kernel_rfl),rfl⟩
theorem ok310:OkF 310 Tev.yW:=⟨aB _ _ rfl Tryz.func48 (by kernel_rfl),rfl⟩
theorem ok311:OkF 311 Tev.aB5:=⟨aB _ _ rfl Tryz.func46 (by kernel_rfl),rfl⟩
theorem ok312:OkF 312 Tev.yT:=⟨aB _ _ rfl Tryz.func107 (by kernel_rfl),rfl⟩
theorem ok313:OkF 313 Tev.yU:=⟨aB _ _ rfl Tryz.func108 (by kernel_rfl),rfl⟩
theorem ok314:OkF 314 Tev.yV:=⟨aB _ _ rfl Tryz.func109 (by kernel_rfl),rfl⟩
theorem ok315:OkF 315 Tev.tO:=⟨aB _ _ rfl Tryz.func110 (by kernel_rfl),rfl⟩
theorem ok316:OkF 316 Tev.aBW:=⟨aB _ _ rfl Tryz.func49 (by kernel_rfl),rfl⟩
theorem ok317:OkF 317 Tev.nG:=⟨aB _ _ rfl Tryz.func104 (by kernel_rfl),rfl⟩
theorem ok318:OkF 318 Tev.oK:=⟨aB _ _ rfl Tryz.func112 (by kernel_rfl),rfl⟩
theorem ok319:OkF 319 Tev.tL:=⟨aB _ _ rfl Tryz.func115 (by kernel_rfl),rfl⟩
theorem ok320:OkF 320 Tev.oL:=⟨aB _ _ rfl Tryz.func151 (by kernel_rfl),rfl⟩
theorem ok329:OkF 329 Tev.yZ:=⟨aB _ _ rfl Tryz.func18 (by kernel_rfl),rfl⟩
theorem ok330:OkF 330 Tev.yR:=⟨aB _ _ rfl Tryz.func44 (by kernel_rfl),rfl⟩
theorem ok331:OkF 331 Tev.tQ:=⟨aB _ _ rfl Tryz.func45 (by kernel_rfl),rfl⟩
theorem ok332:OkF 332 Tev.tN:=⟨aB _ _ rfl Tryz.func100 (by kernel_rfl),rfl⟩
theorem ok333:OkF 333 Tev.yY:=⟨aB _ _ rfl Tryz.func101 (by kernel_rfl),rfl⟩
theorem ok334:OkF 334 Tev.qW:=⟨aB _ _ rfl Tryz.func102 (by kernel_rfl),rfl⟩
theorem ok335:OkF 335 Tev.tP:=⟨aB _ _ rfl Tryz.func103 (by kernel_rfl),rfl⟩
theorem ok346:OkF 346 Tev.vM:=⟨aB _ _ rfl Tryz.func87 (by kernel_rfl),rfl⟩
theorem ok348:OkF 348 Tev.zR:=⟨aB _ _ rfl Tryz.func158 (by kernel_rfl),rfl⟩
theorem ok350:OkF 350 Tev.aAe:=⟨aB _ _ rfl Tryz.func139 (by kernel_rfl),rfl⟩
theorem ok360:OkF 360 Tev.tM:=⟨aB _ _ rfl Tryz.func20 (by kernel_rfl),rfl⟩
theorem ok361:OkF 361 Tev.mM:=⟨aB _ _ rfl Tryz.func51 (by kernel_rfl),rfl⟩
theorem ok362:OkF 362 Tev.eH:=⟨aB _ _ rfl Tryz.func53 (by kernel_rfl),rfl⟩
theorem ok363:OkF 363 Tev.oJ:=⟨aB _ _ rfl Tryz.func54 (by kernel_rfl),rfl⟩
theorem ok364:OkF 364 Tev.eX:=⟨aB _ _ rfl Tryz.func118 (by kernel_rfl),rfl⟩
theorem ok365:OkF 365 Tev.rM:=⟨aB _ _ rfl Tryz.func156 (by kernel_rfl),rfl⟩
theorem ok367:OkF 367 Tev.oT:=⟨aB _ _ rfl Tryz.func97 (by kernel_rfl),rfl⟩
theorem ok368:OkF 368 Tev.rK:=⟨aB _ _ rfl Tryz.func147 (by kernel_rfl),rfl⟩
theorem ok369:OkF 369 Tev.aCF:=⟨aB _ _ rfl Tryz.func88 (by kernel_rfl),rfl⟩
theorem ok370:OkF 370 Tev.oO:=⟨aB _ _ rfl Tryz.func81 (by kernel_rfl),rfl⟩
theorem ok371:OkF 371 Tev.qX:=⟨aB _ _ rfl Tryz.func132 (by kernel_rfl),rfl⟩
theorem ok372:OkF 372 Tev.oN:=⟨aB _ _ rfl Tryz.func68 (by kernel_rfl),rfl⟩
theorem ok414:OkF 414 Tev.aAg:=⟨aB _ _ rfl Tryz.func14 (by kernel_rfl),rfl⟩
theorem ok415:OkF 415 Tev.zG:=⟨aB _ _ rfl Tryz.func13 (by kernel_rfl),rfl⟩
theorem ok416:OkF 416 Tev.rV:=⟨aB _ _ rfl Tryz.func11 (by kernel_rfl),rfl⟩
theorem ok417:OkF 417 Tev.vI:=⟨aB _ _ rfl Tryz.func31 (by kernel_rfl),rfl⟩
theorem ok418:OkF 418 Tev.rU:=⟨aB _ _ rfl Tryz.func34 (by kernel_rfl),rfl⟩
theorem ok419:OkF 419 Tev.vQ:=⟨aB _ _ rfl Tryz.func35 (by kernel_rfl),rfl⟩
theorem ok420:OkF 420 Tev.vO:=⟨aB _ _ rfl Tryz.func89 (by kernel_rfl),rfl⟩
theorem ok421:OkF 421 Tev.uE:=⟨aB _ _ rfl Tryz.func60 (by kernel_rfl),rfl⟩
theorem ok422:OkF 422 Tev.rE:=⟨aB _ _ rfl Tryz.func6 (by kernel_rfl),rfl⟩
theorem ok423:OkF 423 Tev.rD:=⟨aB _ _ rfl Tryz.func25 (by kernel_rfl),rfl⟩
theorem ok424:OkF 424 Tev.uB:=⟨aB _ _ rfl Tryz.func26 (by kernel_rfl),rfl⟩
theorem ok425:OkF 425 Tev.uA:=⟨aB _ _ rfl Tryz.func69 (by kernel_rfl),rfl⟩
theorem ok426:OkF 426 Tev.tZ:=⟨aB _ _ rfl Tryz.func73 (by kernel_rfl),rfl⟩
theorem ok432:OkF 432 Tev.vD:=⟨aB _ _ rfl Tryz.func58 (by kernel_rfl),rfl⟩
theorem ok442:OkF 442 Tev.qV:=⟨aB _ _ rfl Tryz.func16 (by kernel_rfl),rfl⟩
theorem ok444:OkF 444 Tev.iR:=⟨aB _ _ rfl Tryz.func42 (by kernel_rfl),rfl⟩
theorem ok453:OkF 453 Tev.rW:=⟨aB _ _ rfl Tryz.func12 (by kernel_rfl),rfl⟩
theorem ok454:OkF 454 Tev.vJ:=⟨aB _ _ rfl Tryz.func36 (by kernel_rfl),rfl⟩
theorem ok456:OkF 456 Tev.rF:=⟨aB _ _ rfl Tryz.func8 (by kernel_rfl),rfl⟩
theorem ok457:OkF 457 Tev.tX:=⟨aB _ _ rfl Tryz.func29 (by kernel_rfl),rfl⟩
theorem ok462:OkF 462 Tev.aCn:=⟨aB _ _ rfl Tryz.func128 (by kernel_rfl),rfl⟩
theorem ok469:OkF 469 Tev.uM:=⟨aB _ _ rfl Tryz.func57 (by kernel_rfl),rfl⟩
theorem ok498:OkF 498 Tev.uF:=⟨aB _ _ rfl Tryz.func77 (by kernel_rfl),rfl⟩
theorem ok535:OkF 535 Tev.uD:=⟨aB _ _ rfl Tryz.func10 (by kernel_rfl),rfl⟩
theorem ok538:OkF 538 Tev.rI:=⟨aB _ _ rfl Tryz.func15 (by kernel_rfl),rfl⟩
theorem ok541:OkF 541 Tev.uX:=⟨aB _ _ rfl Tryz.func119 (by kernel_rfl),rfl⟩
theorem ok542:OkF 542 Tev.zV:=⟨aB _ _ rfl Tryz.func120 (by kernel_rfl),rfl⟩
theorem ok543:OkF 543 Tev.uH:=⟨aB _ _ rfl Tryz.func78 (by kernel_rfl),rfl⟩
theorem ok544:OkF 544 Tev.aCO:=⟨aB _ _ rfl Tryz.func160 (by kernel_rfl),rfl⟩
theorem ok545:OkF 545 Tev.zO:=⟨aB _ _ rfl Tryz.func75 (by kernel_rfl),rfl⟩
theorem ok546:OkF 546 Tev.uK:=⟨aB _ _ rfl Tryz.func127 (by kernel_rfl),rfl⟩
theorem ok547:OkF 547 Tev.uV:=⟨aB _ _ rfl Tryz.func154 (by kernel_rfl),rfl⟩
theorem ok548:OkF 548 Tev.zU:=⟨aB _ _ rfl Tryz.func155 (by kernel_rfl),rfl⟩
theorem ok549:OkF 549 Tev.uW:=⟨aB _ _ rfl Tryz.func157 (by kernel_rfl),rfl⟩
theorem ok550:OkF 550 Tev.aCN:=⟨aB _ _ rfl Tryz.func56 (by kernel_rfl),rfl⟩
theorem ok551:OkF 551 Tev.zT:=⟨aB _ _ rfl Tryz.func63 (by kernel_rfl),rfl⟩
theorem ok552:OkF 552 Tev.vE:=⟨aB _ _ rfl Tryz.func23 (by kernel_rfl),rfl⟩
theorem ok553:OkF 553 Tev.uL:=⟨aB _ _ rfl Tryz.func28 (by kernel_rfl),rfl⟩
theorem ok555:OkF 555 Tev.mN:=⟨aB _ _ rfl Tryz.func30 (by kernel_rfl),rfl⟩
theorem ok556:OkF 556 Tev.uC:=⟨aB _ _ rfl Tryz.func38 (by kernel_rfl),rfl⟩
theorem ok557:OkF 557 Tev.oS:=⟨aB _ _ rfl Tryz.func39 (by kernel_rfl),rfl⟩
theorem ok558:OkF 558 Tev.rH:=⟨aB _ _ rfl Tryz.func99 (by kernel_rfl),rfl⟩
theorem ok559:OkF 559 Tev.aEP:=⟨aB _ _ rfl Tryz.func19 (by kernel_rfl),rfl⟩
theorem ok573:OkF 573 Tev.lK:=⟨aB _ _ rfl Tryz.func5 (by kernel_rfl),rfl⟩
theorem ok574:OkF 574 Tev.uZ:=⟨aB _ _ rfl Tryz.func22 (by kernel_rfl),rfl⟩
theorem ok575:OkF 575 Tev.uY:=⟨aB _ _ rfl Tryz.func55 (by kernel_rfl),rfl⟩
theorem ok580:OkF 580 Tev.lJ:=⟨aB _ _ rfl Tryz.func7 (by kernel_rfl),rfl⟩
theorem ok581:OkF 581 Tev.nJ:=⟨aB _ _ rfl Tryz.func9 (by kernel_rfl),rfl⟩
theorem ok593:OkF 593 Tev.vR:=⟨aB _ _ rfl Tryz.func3 (by kernel_rfl),rfl⟩
theorem okg0:∀ f fn,Tev.tbl0 f=some fn→FnOk Tryz.prog L f fn∧fn.hand=hnd f:=by
 intro f fn h
 unfold Tev.tbl0 at h
 split at h<;>try cases h
 ·exact ok1
 ·exact ok2
 ·exact ok14
 ·exact ok15
 ·exact ok25
 ·exact ok26
 ·exact ok29
 ·exact ok30
 ·exact ok31
 ·exact ok32
 ·exact ok36
 ·exact ok37
 ·exact ok42
 ·exact ok71
 ·exact ok72
 ·exact ok81
 ·exact ok89
 ·exact ok90
 ·exact ok91
 ·exact ok92
 ·exact ok93
 ·exact ok94
 ·exact ok97
 ·exact ok102
 ·exact ok113
 ·exact ok123
 ·exact ok128
 ·exact ok132
 ·exact ok135
 ·exact ok149
 ·exact ok155
 ·exact ok156
 ·exact ok157
 ·exact ok158
 ·exact ok159
 ·exact ok160
 ·exact ok161
 ·exact ok162
 ·exact ok163
 ·exact ok164
 ·exact ok177
 ·exact ok180
 ·exact ok181
 ·exact ok182
 ·exact ok191
 ·exact ok193
 ·exact ok194
 ·exact ok195
 ·exact ok196
 ·exact ok197
 ·exact ok198
 ·exact ok199
 ·exact ok200
 ·exact ok212
 ·exact ok213
 ·exact ok214
 ·exact ok215
 ·exact ok216
 ·exact ok217
 ·exact ok218
 ·exact ok232
 ·exact ok233
 ·exact ok234
 ·exact ok235
 ·exact ok236
 ·exact ok237
 ·exact ok238
 ·exact ok239
 ·exact ok240
 ·exact ok241
theorem okg1:∀ f fn,Tev.tbl1 f=some fn→FnOk Tryz.prog L f fn∧fn.hand=hnd f:=by
 intro f fn h
 unfold Tev.tbl1 at h
 split at h<;>try cases h
 ·exact ok242
 ·exact ok243
 ·exact ok244
 ·exact ok245
 ·exact ok246
 ·exact ok247
 ·exact ok248
 ·exact ok249
 ·exact ok250
 ·exact ok251
 ·exact ok252
 ·exact ok253
 ·exact ok254
 ·exact ok255
 ·exact ok256
 ·exact ok257
 ·exact ok258
 ·exact ok262
 ·exact ok263
 ·exact ok264
 ·exact ok265
 ·exact ok266
 ·exact ok267
 ·exact ok268
 ·exact ok271
 ·exact ok272
 ·exact ok285
 ·exact ok286
 ·exact ok288
 ·exact ok290
 ·exact ok291
 ·exact ok295
 ·exact ok296
 ·exact ok301
 ·exact ok302
 ·exact ok303
 ·exact ok304
 ·exact ok305
 ·exact ok306
 ·exact ok307
 ·exact ok308
 ·exact ok309
 ·exact ok310
 ·exact ok311
 ·exact ok312
 ·exact ok313
 ·exact ok314
 ·exact ok315
 ·exact ok316
 ·exact ok317
 ·exact ok318
 ·exact ok319
 ·exact ok320
 ·exact ok329
 ·exact ok330
 ·exact ok331
 ·exact ok332
 ·exact ok333
 ·exact ok334
 ·exact ok335
 ·exact ok346
 ·exact ok348
 ·exact ok350
 ·exact ok360
 ·exact ok361
 ·exact ok362
 ·exact ok363
 ·exact ok364
 ·exact ok365
 ·exact ok367
theorem okg2:∀ f fn,Tev.tbl2 f=some fn→FnOk Tryz.prog L f fn∧fn.hand=hnd f:=by
 intro f fn h
 unfold Tev.tbl2 at h
 split at h<;>try cases h
 ·exact ok368
 ·exact ok369
 ·exact ok370
 ·exact ok371
 ·exact ok372
 ·exact ok414
 ·exact ok415
 ·exact ok416
 ·exact ok417
 ·exact ok418
 ·exact ok419
 ·exact ok420
 ·exact ok421
 ·exact ok422
 ·exact ok423
 ·exact ok424
 ·exact ok425
 ·exact ok426
 ·exact ok432
 ·exact ok442
 ·exact ok444
 ·exact ok453
 ·exact ok454
 ·exact ok456
 ·exact ok457
 ·exact ok462
 ·exact ok469
 ·exact ok498
 ·exact ok535
 ·exact ok538
 ·exact ok541
 ·exact ok542
 ·exact ok543
 ·exact ok544
 ·exact ok545
 ·exact ok546
 ·exact ok547
 ·exact ok548
 ·exact ok549
 ·exact ok550
 ·exact ok551
 ·exact ok552
 ·exact ok553
 ·exact ok555
 ·exact ok556
 ·exact ok557
 ·exact ok558
 ·exact ok559
 ·exact ok573
 ·exact ok574
 ·exact ok575
 ·exact ok580
 ·exact ok581
 ·exact ok593
theorem ok:∀ f fn,tbl f=some fn→FnOk Tryz.prog L f fn∧fn.hand=hnd f:=by
 intro f fn h
 unfold tbl at h
 cases q0:Nat.blt f 242
 case true=>rw[q0,Tev.cif_true]at h;exact okg0 f fn h
 rw[q0,Tev.cif_false]at h
 cases q1:Nat.blt f 368
 case true=>rw[q1,Tev.cif_true]at h;exact okg1 f fn h
 rw[q1,Tev.cif_false]at h
 exact okg2 f fn h
noncomputable def E:Tev.aS:=Tev.EV tbl hnd (fun _ _=>none)
theorem holds:∀ f,Tev.aH0 Tryz.prog L E f (hnd f):=Tev.aVq ok fun f _ w ow0 args vs r h=>by cases h
theorem sys:Tev.Sys E:=⟨fun f c args r hf h=>(Tev.aVr (F:=tbl) (hand:=hnd) (ext:=(fun _ _=>none)) (f:=f) (fn:=c) (args:=args) (h:=hf)).trans h⟩
theorem shapes:Tryz.f3.params.toList.all (fun t=>(Tev.aAG Tryz.prog 12 t).isSome&&decide (t<Tryz.prog.types.size))=true:=by kernel_rfl
theorem sh22:Tev.aAG Tryz.prog 12 22=some [.sl [.int .u8] 1]:=by kernel_rfl
theorem ag22:Tev.aU9 Tryz.prog 22=false:=by kernel_rfl
theorem runs (As:List Tev.A) (h:Tev.All2 (Tev.aLw Tryz.prog) Tryz.f3.params.toList As):∃ u,E 593 As=some ([.v false [.t (.bool true)]],u):=by
 rw[Tryz.params3]at h
 obtain⟨_,_,rfl,h0,t0⟩:=Tev.aPV h
 obtain⟨_,rfl,g0⟩:=Tev.aSL h0 sh22 ag22
 obtain⟨x0,rfl,l0⟩:=Tev.aPW g0
 obtain rfl:=Tev.aT3 t0
 exact⟨_,Tev.aSJ sys x0 l0⟩
theorem lifted (os:Os) (started:os.Started) (H:Type) (enc:TypeId × Value→H) :
 ReturnsInHanded {} Tryz.checked os 3 .any (Rows.fnPartsSpec.pre6 enc Tryz.prog Tryz.f3 Rows.fnPartsRow.domain false) (Rows.fnPartsSpec.post enc Tryz.prog Tryz.f3 false true false false):=by
 refine returnsInHanded_of_change_sized (C:=Tryz.checked) own started (by kernel_rfl) Tryz.func3
  (ChangeSpec.witness6 (enc:=enc) (C:=Tryz.checked) false ⟨#[],#[.slice none 0 0],[]⟩ 8 (by kernel_rfl) (by kernel_rfl) (by kernel_rfl) (by kernel_rfl)) ?_
 intro W base args ds gs before hval hW _ hsz _
 refine Tev.aRn (P:=Tryz.prog) (L:=L) (E:=E) (f0:=593) rfl (holds 593) types (by kernel_rfl) (t:=4) (by kernel_rfl) Tryz.underlying4 (fun t ht=>?_) (fun ds hd=>?_) runs hval hW hsz
 ·have:=List.all_eq_true.mp shapes t ht
  simpa using this
 ·rw[Tryz.params3]at hd
  rcases ds with _|⟨d0,_|⟨d1,r⟩⟩<;>first|exact⟨rfl,rfl,rfl⟩|cases hd
theorem over:Rows.fnPartsRow.holds Tryz.pinned (OpenSpec.ofChange Rows.fnPartsSpec) :=
 OpenClaim.holds_of_wide 3 Tryz.f3 rfl rfl rfl rfl rfl rfl rfl ⟨rfl,rfl,rfl,rfl,rfl⟩ rfl rfl rfl rfl rfl (by kernel_rfl) Tryz.func3 (by kernel_rfl)
  (of_decide_eq_true (by kernel_rfl)) (by unfold Func.isWrapper;first|(rw[if_pos (by decide +kernel)];kernel_rfl)|(rw[if_neg (by decide +kernel)];exact⟨rfl,rfl⟩))
  (fun os started H enc _=>lifted os started H enc)
theorem proved:Rows.FnPartsSaid:=over
#print axioms proved
end Go.Proofs.YtopoodgiinenlaaGreat.fnParts
namespace Go.Proofs.YtopoodgiinenlaaGreat
theorem fnParts_holds:Rows.FnPartsSaid:=fnParts.proved
end Go.Proofs.YtopoodgiinenlaaGreat
