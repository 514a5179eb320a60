/- The law FnSends holds: whatever the input, it returns true, and the input reads as it did. Conditions: none beside those of the statement. -/
import Derived.Test.YtdkfmakllhlbpaaGreatRows
import Derived.Test.YtdkfmakllhlbpaaGreatChecked
import Derived.Test.YtdkfmakllhlbpaaGreatSendsX117
import Derived.WalkKit
import Derived.ProofKit
import Derived.OpenShut
import Derived.ShutString
import Derived.ChangeOld
import Derived.Below
import Derived.SizedLaws
import Derived.KernelRfl
namespace Go.Proofs.YtdkfmakllhlbpaaGreat.fnSends
open Go.ChangeShapes Go.WideShapes Go.ChangeAt Go.RowKit
open Tev (FnOk aB tbl hnd)
set_option linter.unusedVariables false
set_option maxRecDepth 100000
set_option maxHeartbeats 20000000
def L:Nat→FuncId
 |1=>94
 |2=>103
 |14=>96
 |15=>54
 |16=>59
 |17=>60
 |23=>20
 |25=>89
 |26=>90
 |29=>79
 |30=>73
 |31=>63
 |32=>64
 |36=>49
 |37=>35
 |42=>75
 |71=>44
 |72=>25
 |81=>121
 |89=>171
 |90=>138
 |91=>137
 |93=>163
 |94=>124
 |102=>102
 |113=>50
 |114=>39
 |115=>78
 |116=>80
 |117=>81
 |119=>18
 |123=>52
 |128=>69
 |132=>51
 |134=>31
 |135=>27
 |149=>4
 |155=>28
 |156=>84
 |157=>37
 |158=>83
 |159=>134
 |160=>132
 |161=>77
 |162=>36
 |163=>133
 |164=>168
 |198=>110
 |212=>41
 |213=>85
 |214=>86
 |215=>30
 |216=>71
 |217=>72
 |218=>123
 |233=>160
 |234=>178
 |235=>175
 |236=>141
 |237=>158
 |238=>139
 |239=>169
 |240=>172
 |241=>92
 |242=>142
 |243=>101
 |248=>95
 |249=>150
 |251=>125
 |252=>154
 |253=>176
 |254=>128
 |255=>152
 |256=>115
 |257=>156
 |258=>177
 |262=>162
 |263=>179
 |264=>181
 |265=>182
 |266=>183
 |267=>184
 |268=>185
 |285=>149
 |286=>53
 |287=>55
 |288=>58
 |290=>24
 |291=>43
 |295=>47
 |296=>33
 |301=>93
 |302=>100
 |303=>143
 |304=>144
 |305=>145
 |306=>146
 |307=>136
 |308=>170
 |309=>173
 |310=>68
 |311=>67
 |312=>111
 |313=>112
 |314=>113
 |315=>114
 |316=>108
 |317=>109
 |318=>153
 |319=>151
 |320=>155
 |321=>23
 |322=>22
 |323=>62
 |324=>98
 |325=>99
 |326=>147
 |327=>148
 |328=>174
 |329=>26
 |330=>65
 |331=>66
 |332=>104
 |333=>105
 |334=>106
 |335=>107
 |346=>91
 |348=>120
 |350=>140
 |360=>74
 |361=>76
 |362=>126
 |363=>127
 |364=>164
 |365=>118
 |367=>122
 |368=>161
 |369=>159
 |419=>17
 |420=>46
 |421=>48
 |424=>10
 |425=>32
 |426=>34
 |430=>15
 |431=>6
 |432=>45
 |452=>16
 |455=>8
 |462=>167
 |498=>38
 |535=>14
 |538=>19
 |541=>70
 |542=>40
 |543=>135
 |544=>82
 |545=>131
 |546=>166
 |547=>116
 |548=>117
 |549=>119
 |550=>157
 |551=>88
 |553=>87
 |555=>21
 |556=>56
 |557=>57
 |558=>97
 |559=>61
 |572=>42
 |575=>29
 |582=>5
 |583=>7
 |584=>9
 |585=>11
 |586=>12
 |587=>13
 |594=>3
 |_=>0
theorem own:ownKnob Tryz.prog.godebug=none:=by kernel_rfl
theorem types:Tev.TypesOk Tryz.prog:=⟨by kernel_rfl,by kernel_rfl,by kernel_rfl⟩
abbrev OkF (i:Nat) (c:Tev.Fn):Prop:=FnOk Tryz.prog L i c∧c.hand=hnd i
theorem ok1:OkF 1 Tev.aEZ:=⟨aB _ _ rfl Tryz.func94 (by kernel_rfl),rfl⟩
theorem ok2:OkF 2 Tev.yX:=⟨aB _ _ rfl Tryz.func103 (by kernel_rfl),rfl⟩
theorem ok14:OkF 14 Tev.zL:=⟨aB _ _ rfl Tryz.func96 (by kernel_rfl),rfl⟩
theorem ok15:OkF 15 Tev.pF:=⟨aB _ _ rfl Tryz.func54 (by kernel_rfl),rfl⟩
theorem ok16:OkF 16 Tev.bL:=⟨aB _ _ rfl Tryz.func59 (by kernel_rfl),rfl⟩
theorem ok17:OkF 17 Tev.nU:=⟨aB _ _ rfl Tryz.func60 (by kernel_rfl),rfl⟩
theorem ok23:OkF 23 Tev.mN:=⟨aB _ _ rfl Tryz.func20 (by kernel_rfl),rfl⟩
theorem ok25:OkF 25 Tev.aCu:=⟨aB _ _ rfl Tryz.func89 (by kernel_rfl),rfl⟩
theorem ok26:OkF 26 Tev.aCv:=⟨aB _ _ rfl Tryz.func90 (by kernel_rfl),rfl⟩
theorem ok29:OkF 29 Tev.dL:=⟨aB _ _ rfl Tryz.func79 (by kernel_rfl),rfl⟩
theorem ok30:OkF 30 Tev.eC:=⟨aB _ _ rfl Tryz.func73 (by kernel_rfl),rfl⟩
theorem ok31:OkF 31 Tev.aB4:=⟨aB _ _ rfl Tryz.func63 (by kernel_rfl),rfl⟩
theorem ok32:OkF 32 Tev.aB5:=⟨aB _ _ rfl Tryz.func64 (by kernel_rfl),rfl⟩
theorem ok36:OkF 36 Tev.rV:=⟨aB _ _ rfl Tryz.func49 (by kernel_rfl),rfl⟩
theorem ok37:OkF 37 Tev.rI:=⟨aB _ _ rfl Tryz.func35 (by kernel_rfl),rfl⟩
theorem ok42:OkF 42 Tev.zC:=⟨aB _ _ rfl Tryz.func75 (by kernel_rfl),rfl⟩
theorem ok71:OkF 71 Tev.zV:=⟨aB _ _ rfl Tryz.func44 (by kernel_rfl),rfl⟩
theorem ok72:OkF 72 Tev.zI:=⟨aB _ _ rfl Tryz.func25 (by kernel_rfl),rfl⟩
theorem ok81:OkF 81 Tev.pK:=⟨aB _ _ rfl Tryz.func121 (by kernel_rfl),rfl⟩
theorem ok89:OkF 89 Tev.uT:=⟨aB _ _ rfl Tryz.func171 (by kernel_rfl),rfl⟩
theorem ok90:OkF 90 Tev.rW:=⟨aB _ _ rfl Tryz.func138 (by kernel_rfl),rfl⟩
theorem ok91:OkF 91 Tev.uU:=⟨aB _ _ rfl Tryz.func137 (by kernel_rfl),rfl⟩
theorem ok93:OkF 93 Tev.tY:=⟨aB _ _ rfl Tryz.func163 (by kernel_rfl),rfl⟩
theorem ok94:OkF 94 Tev.rJ:=⟨aB _ _ rfl Tryz.func124 (by kernel_rfl),rfl⟩
theorem ok102:OkF 102 Tev.tP:=⟨aB _ _ rfl Tryz.func102 (by kernel_rfl),rfl⟩
theorem ok113:OkF 113 Tev.aE0:=⟨aB _ _ rfl Tryz.func50 (by kernel_rfl),rfl⟩
theorem ok114:OkF 114 Tev.aEV:=⟨aB _ _ rfl Tryz.func39 (by kernel_rfl),rfl⟩
theorem ok115:OkF 115 Tev.aEU:=⟨aB _ _ rfl Tryz.func78 (by kernel_rfl),rfl⟩
theorem ok116:OkF 116 Tev.yW:=⟨aB _ _ rfl Tryz.func80 (by kernel_rfl),rfl⟩
theorem ok119:OkF 119 Tev.rM:=⟨aB _ _ rfl Tryz.func18 (by kernel_rfl),rfl⟩
theorem ok123:OkF 123 Tev.rY:=⟨aB _ _ rfl Tryz.func52 (by kernel_rfl),rfl⟩
theorem ok128:OkF 128 Tev.tU:=⟨aB _ _ rfl Tryz.func69 (by kernel_rfl),rfl⟩
theorem ok132:OkF 132 Tev.aCD:=⟨aB _ _ rfl Tryz.func51 (by kernel_rfl),rfl⟩
theorem ok134:OkF 134 Tev.tX:=⟨aB _ _ rfl Tryz.func31 (by kernel_rfl),rfl⟩
theorem ok135:OkF 135 Tev.aCf:=⟨aB _ _ rfl Tryz.func27 (by kernel_rfl),rfl⟩
theorem ok149:OkF 149 Tev.aGY:=⟨aB _ _ rfl Tryz.func4 (by kernel_rfl),rfl⟩
theorem ok155:OkF 155 Tev.aDa:=⟨aB _ _ rfl Tryz.func28 (by kernel_rfl),rfl⟩
theorem ok156:OkF 156 Tev.aAd:=⟨aB _ _ rfl Tryz.func84 (by kernel_rfl),rfl⟩
theorem ok157:OkF 157 Tev.uZ:=⟨aB _ _ rfl Tryz.func37 (by kernel_rfl),rfl⟩
theorem ok158:OkF 158 Tev.aCP:=⟨aB _ _ rfl Tryz.func83 (by kernel_rfl),rfl⟩
theorem ok159:OkF 159 Tev.vA:=⟨aB _ _ rfl Tryz.func134 (by kernel_rfl),rfl⟩
theorem ok160:OkF 160 Tev.aCK:=⟨aB _ _ rfl Tryz.func132 (by kernel_rfl),rfl⟩
theorem ok161:OkF 161 Tev.aAb:=⟨aB _ _ rfl Tryz.func77 (by kernel_rfl),rfl⟩
theorem ok162:OkF 162 Tev.aAc:=⟨aB _ _ rfl Tryz.func36 (by kernel_rfl),rfl⟩
theorem ok163:OkF 163 Tev.aCL:=⟨aB _ _ rfl Tryz.func133 (by kernel_rfl),rfl⟩
theorem ok164:OkF 164 Tev.aAa:=⟨aB _ _ rfl Tryz.func168 (by kernel_rfl),rfl⟩
theorem ok198:OkF 198 Tev.aCd:=⟨aB _ _ rfl Tryz.func110 (by kernel_rfl),rfl⟩
theorem ok212:OkF 212 Tev.uX:=⟨aB _ _ rfl Tryz.func41 (by kernel_rfl),rfl⟩
theorem ok213:OkF 213 Tev.zY:=⟨aB _ _ rfl Tryz.func85 (by kernel_rfl),rfl⟩
theorem ok214:OkF 214 Tev.zZ:=⟨aB _ _ rfl Tryz.func86 (by kernel_rfl),rfl⟩
theorem ok215:OkF 215 Tev.rK:=⟨aB _ _ rfl Tryz.func30 (by kernel_rfl),rfl⟩
theorem ok216:OkF 216 Tev.uB:=⟨aB _ _ rfl Tryz.func71 (by kernel_rfl),rfl⟩
theorem ok217:OkF 217 Tev.pD:=⟨aB _ _ rfl Tryz.func72 (by kernel_rfl),rfl⟩
theorem ok218:OkF 218 Tev.eD:=⟨aB _ _ rfl Tryz.func123 (by kernel_rfl),rfl⟩
theorem ok233:OkF 233 Tev.aCX:=⟨aB _ _ rfl Tryz.func160 (by kernel_rfl),rfl⟩
theorem ok234:OkF 234 Tev.aAf:=⟨aB _ _ rfl Tryz.func178 (by kernel_rfl),rfl⟩
theorem ok235:OkF 235 Tev.nV:=⟨aB _ _ rfl Tryz.func175 (by kernel_rfl),rfl⟩
theorem ok236:OkF 236 Tev.zP:=⟨aB _ _ rfl Tryz.func141 (by kernel_rfl),rfl⟩
theorem ok237:OkF 237 Tev.vE:=⟨aB _ _ rfl Tryz.func158 (by kernel_rfl),rfl⟩
theorem ok238:OkF 238 Tev.aCA:=⟨aB _ _ rfl Tryz.func139 (by kernel_rfl),rfl⟩
theorem ok239:OkF 239 Tev.zO:=⟨aB _ _ rfl Tryz.func169 (by kernel_rfl),rfl⟩
theorem ok240:OkF 240 Tev.uJ:=⟨aB _ _ rfl Tryz.func172 (by kernel_rfl),rfl⟩
theorem ok241:OkF 241 Tev.zQ:=⟨aB _ _ rfl Tryz.func92 (by kernel_rfl),rfl⟩
theorem ok242:OkF 242 Tev.aCz:=⟨aB _ _ rfl Tryz.func142 (by kernel_rfl),rfl⟩
theorem ok243:OkF 243 Tev.zR:=⟨aB _ _ rfl Tryz.func101 (by kernel_rfl),rfl⟩
theorem ok248:OkF 248 Tev.eE:=⟨aB _ _ rfl Tryz.func95 (by kernel_rfl),rfl⟩
theorem ok249:OkF 249 Tev.yZ:=⟨aB _ _ rfl Tryz.func150 (by kernel_rfl),rfl⟩
theorem ok251:OkF 251 Tev.aCj:=⟨aB _ _ rfl Tryz.func125 (by kernel_rfl),rfl⟩
theorem ok252:OkF 252 Tev.yY:=⟨aB _ _ rfl Tryz.func154 (by kernel_rfl),rfl⟩
theorem ok253:OkF 253 Tev.tQ:=⟨aB _ _ rfl Tryz.func176 (by kernel_rfl),rfl⟩
theorem ok254:OkF 254 Tev.zA:=⟨aB _ _ rfl Tryz.func128 (by kernel_rfl),rfl⟩
theorem ok255:OkF 255 Tev.aCt:=⟨aB _ _ rfl Tryz.func152 (by kernel_rfl),rfl⟩
theorem ok256:OkF 256 Tev.zB:=⟨aB _ _ rfl Tryz.func115 (by kernel_rfl),rfl⟩
theorem ok257:OkF 257 Tev.aEX:=⟨aB _ _ rfl Tryz.func156 (by kernel_rfl),rfl⟩
theorem ok258:OkF 258 Tev.aEW:=⟨aB _ _ rfl Tryz.func177 (by kernel_rfl),rfl⟩
theorem ok262:OkF 262 Tev.vD:=⟨aB _ _ rfl Tryz.func162 (by kernel_rfl),rfl⟩
theorem ok263:OkF 263 Tev.vC:=⟨aB _ _ rfl Tryz.func179 (by kernel_rfl),rfl⟩
theorem ok264:OkF 264 Tev.vB:=⟨aB _ _ rfl Tryz.func181 (by kernel_rfl),rfl⟩
theorem ok265:OkF 265 Tev.aE3:=⟨aB _ _ rfl Tryz.func182 (by kernel_rfl),rfl⟩
theorem ok266:OkF 266 Tev.aE1:=⟨aB _ _ rfl Tryz.func183 (by kernel_rfl),rfl⟩
theorem ok267:OkF 267 Tev.nX:=⟨aB _ _ rfl Tryz.func184 (by kernel_rfl),rfl⟩
theorem ok268:OkF 268 Tev.aE2:=⟨aB _ _ rfl Tryz.func185 (by kernel_rfl),rfl⟩
theorem ok285:OkF 285 Tev.uO:=⟨aB _ _ rfl Tryz.func149 (by kernel_rfl),rfl⟩
theorem ok286:OkF 286 Tev.uG:=⟨aB _ _ rfl Tryz.func53 (by kernel_rfl),rfl⟩
theorem ok287:OkF 287 Tev.eF:=⟨aB _ _ rfl Tryz.func55 (by kernel_rfl),rfl⟩
theorem ok288:OkF 288 Tev.rQ:=⟨aB _ _ rfl Tryz.func58 (by kernel_rfl),rfl⟩
theorem ok290:OkF 290 Tev.zJ:=⟨aB _ _ rfl Tryz.func24 (by kernel_rfl),rfl⟩
theorem ok291:OkF 291 Tev.zX:=⟨aB _ _ rfl Tryz.func43 (by kernel_rfl),rfl⟩
theorem ok295:OkF 295 Tev.rU:=⟨aB _ _ rfl Tryz.func47 (by kernel_rfl),rfl⟩
theorem ok296:OkF 296 Tev.rH:=⟨aB _ _ rfl Tryz.func33 (by kernel_rfl),rfl⟩
theorem ok301:OkF 301 Tev.zU:=⟨aB _ _ rfl Tryz.func93 (by kernel_rfl),rfl⟩
theorem ok302:OkF 302 Tev.aCC:=⟨aB _ _ rfl Tryz.func100 (by kernel_rfl),rfl⟩
theorem ok303:OkF 303 Tev.zS:=⟨aB _ _ rfl Tryz.func143 (by kernel_rfl),rfl⟩
theorem ok304:OkF 304 Tev.zT:=⟨aB _ _ rfl Tryz.func144 (by kernel_rfl),rfl⟩
theorem ok305:OkF 305 Tev.uQ:=⟨aB _ _ rfl Tryz.func145 (by kernel_rfl),rfl⟩
theorem ok306:OkF 306 Tev.uP:=⟨aB _ _ rfl Tryz.func146 (by kernel_rfl),rfl⟩
theorem ok307:OkF 307 Tev.aCB:=⟨aB _ _ rfl Tryz.func136 (by kernel_rfl),rfl⟩
theorem ok308:OkF 308 Tev.uK:=⟨aB _ _ rfl Tryz.func170 (by kernel_rfl),rfl⟩
theorem ok309:OkF 309 Tev.rT:=⟨aB _ _ rfl Tryz.func173 (by kernel_rfl),rfl⟩
theorem ok310:OkF 310 Tev.zH:=⟨aB _ _ rfl Tryz.func68 (by kernel_rfl),rfl⟩
theorem ok311:OkF 311 Tev.aCe:=⟨aB _ _ rfl Tryz.func67 (by kernel_rfl),rfl⟩
theorem ok312:OkF 312 Tev.zD:=⟨aB _ _ rfl Tryz.func111 (by kernel_rfl),rfl⟩
theorem ok313:OkF 313 Tev.zE:=⟨aB _ _ rfl Tryz.func112 (by kernel_rfl),rfl⟩
theorem ok314:OkF 314 Tev.zG:=⟨aB _ _ rfl Tryz.func113 (by kernel_rfl),rfl⟩
theorem ok315:OkF 315 Tev.tV:=⟨aB _ _ rfl Tryz.func114 (by kernel_rfl),rfl⟩
theorem ok316:OkF 316 Tev.aCc:=⟨aB _ _ rfl Tryz.func108 (by kernel_rfl),rfl⟩
theorem ok317:OkF 317 Tev.nS:=⟨aB _ _ rfl Tryz.func109 (by kernel_rfl),rfl⟩
theorem ok318:OkF 318 Tev.pA:=⟨aB _ _ rfl Tryz.func153 (by kernel_rfl),rfl⟩
theorem ok319:OkF 319 Tev.tT:=⟨aB _ _ rfl Tryz.func151 (by kernel_rfl),rfl⟩
theorem ok320:OkF 320 Tev.pB:=⟨aB _ _ rfl Tryz.func155 (by kernel_rfl),rfl⟩
theorem ok321:OkF 321 Tev.mQ:=⟨aB _ _ rfl Tryz.func23 (by kernel_rfl),rfl⟩
theorem ok322:OkF 322 Tev.mM:=⟨aB _ _ rfl Tryz.func22 (by kernel_rfl),rfl⟩
theorem ok323:OkF 323 Tev.aAm:=⟨aB _ _ rfl Tryz.func62 (by kernel_rfl),rfl⟩
theorem ok324:OkF 324 Tev.aAk:=⟨aB _ _ rfl Tryz.func98 (by kernel_rfl),rfl⟩
theorem ok325:OkF 325 Tev.vU:=⟨aB _ _ rfl Tryz.func99 (by kernel_rfl),rfl⟩
theorem ok326:OkF 326 Tev.aAl:=⟨aB _ _ rfl Tryz.func147 (by kernel_rfl),rfl⟩
theorem ok327:OkF 327 Tev.vT:=⟨aB _ _ rfl Tryz.func148 (by kernel_rfl),rfl⟩
theorem ok328:OkF 328 Tev.sB:=⟨aB _ _ rfl Tryz.func174 (by kernel_rfl),rfl⟩
theorem ok329:OkF 329 Tev.zN:=⟨aB _ _ rfl Tryz.func26 (by kernel_rfl),rfl⟩
theorem ok330:OkF 330 Tev.zK:=⟨aB _ _ rfl Tryz.func65 (by kernel_rfl),rfl⟩
theorem ok331:OkF 331 Tev.uF:=⟨aB _ _ rfl Tryz.func66 (by kernel_rfl),rfl⟩
theorem ok332:OkF 332 Tev.uD:=⟨aB _ _ rfl Tryz.func104 (by kernel_rfl),rfl⟩
theorem ok333:OkF 333 Tev.zM:=⟨aB _ _ rfl Tryz.func105 (by kernel_rfl),rfl⟩
theorem ok334:OkF 334 Tev.rL:=⟨aB _ _ rfl Tryz.func106 (by kernel_rfl),rfl⟩
theorem ok335:OkF 335 Tev.uE:=⟨aB _ _ rfl Tryz.func107 (by kernel_rfl),rfl⟩
theorem ok346:OkF 346 Tev.uV:=⟨aB _ _ rfl Tryz.func91 (by kernel_rfl),rfl⟩
theorem ok348:OkF 348 Tev.aAe:=⟨aB _ _ rfl Tryz.func120 (by kernel_rfl),rfl⟩
theorem ok350:OkF 350 Tev.zW:=⟨aB _ _ rfl Tryz.func140 (by kernel_rfl),rfl⟩
theorem ok360:OkF 360 Tev.tZ:=⟨aB _ _ rfl Tryz.func74 (by kernel_rfl),rfl⟩
theorem ok361:OkF 361 Tev.mL:=⟨aB _ _ rfl Tryz.func76 (by kernel_rfl),rfl⟩
theorem ok362:OkF 362 Tev.eP:=⟨aB _ _ rfl Tryz.func126 (by kernel_rfl),rfl⟩
theorem ok363:OkF 363 Tev.pC:=⟨aB _ _ rfl Tryz.func127 (by kernel_rfl),rfl⟩
theorem ok364:OkF 364 Tev.fJ:=⟨aB _ _ rfl Tryz.func164 (by kernel_rfl),rfl⟩
theorem ok365:OkF 365 Tev.rZ:=⟨aB _ _ rfl Tryz.func118 (by kernel_rfl),rfl⟩
theorem ok367:OkF 367 Tev.pJ:=⟨aB _ _ rfl Tryz.func122 (by kernel_rfl),rfl⟩
theorem ok368:OkF 368 Tev.rX:=⟨aB _ _ rfl Tryz.func161 (by kernel_rfl),rfl⟩
theorem ok369:OkF 369 Tev.aCW:=⟨aB _ _ rfl Tryz.func159 (by kernel_rfl),rfl⟩
theorem ok419:OkF 419 Tev.vS:=⟨aB _ _ rfl Tryz.func17 (by kernel_rfl),rfl⟩
theorem ok420:OkF 420 Tev.uW:=⟨aB _ _ rfl Tryz.func46 (by kernel_rfl),rfl⟩
theorem ok421:OkF 421 Tev.uR:=⟨aB _ _ rfl Tryz.func48 (by kernel_rfl),rfl⟩
theorem ok424:OkF 424 Tev.uC:=⟨aB _ _ rfl Tryz.func10 (by kernel_rfl),rfl⟩
theorem ok425:OkF 425 Tev.uA:=⟨aB _ _ rfl Tryz.func32 (by kernel_rfl),rfl⟩
theorem ok426:OkF 426 Tev.tW:=⟨aB _ _ rfl Tryz.func34 (by kernel_rfl),rfl⟩
theorem ok430:OkF 430 Tev.pH:=⟨aB _ _ rfl Tryz.func15 (by kernel_rfl),rfl⟩
theorem ok431:OkF 431 Tev.pE:=⟨aB _ _ rfl Tryz.func6 (by kernel_rfl),rfl⟩
theorem ok432:OkF 432 Tev.uS:=⟨aB _ _ rfl Tryz.func45 (by kernel_rfl),rfl⟩
theorem ok452:OkF 452 Tev.nW:=⟨aB _ _ rfl Tryz.func16 (by kernel_rfl),rfl⟩
theorem ok455:OkF 455 Tev.nT:=⟨aB _ _ rfl Tryz.func8 (by kernel_rfl),rfl⟩
theorem ok462:OkF 462 Tev.aC4:=⟨aB _ _ rfl Tryz.func167 (by kernel_rfl),rfl⟩
theorem ok498:OkF 498 Tev.uY:=⟨aB _ _ rfl Tryz.func38 (by kernel_rfl),rfl⟩
theorem ok535:OkF 535 Tev.uI:=⟨aB _ _ rfl Tryz.func14 (by kernel_rfl),rfl⟩
theorem ok538:OkF 538 Tev.rS:=⟨aB _ _ rfl Tryz.func19 (by kernel_rfl),rfl⟩
theorem ok541:OkF 541 Tev.vJ:=⟨aB _ _ rfl Tryz.func70 (by kernel_rfl),rfl⟩
theorem ok542:OkF 542 Tev.aAj:=⟨aB _ _ rfl Tryz.func40 (by kernel_rfl),rfl⟩
theorem ok543:OkF 543 Tev.vH:=⟨aB _ _ rfl Tryz.func135 (by kernel_rfl),rfl⟩
theorem ok544:OkF 544 Tev.aC9:=⟨aB _ _ rfl Tryz.func82 (by kernel_rfl),rfl⟩
theorem ok545:OkF 545 Tev.aAg:=⟨aB _ _ rfl Tryz.func131 (by kernel_rfl),rfl⟩
theorem ok546:OkF 546 Tev.vI:=⟨aB _ _ rfl Tryz.func166 (by kernel_rfl),rfl⟩
theorem ok547:OkF 547 Tev.vF:=⟨aB _ _ rfl Tryz.func116 (by kernel_rfl),rfl⟩
theorem ok548:OkF 548 Tev.aAi:=⟨aB _ _ rfl Tryz.func117 (by kernel_rfl),rfl⟩
theorem ok549:OkF 549 Tev.vG:=⟨aB _ _ rfl Tryz.func119 (by kernel_rfl),rfl⟩
theorem ok550:OkF 550 Tev.aC8:=⟨aB _ _ rfl Tryz.func157 (by kernel_rfl),rfl⟩
theorem ok551:OkF 551 Tev.aAh:=⟨aB _ _ rfl Tryz.func88 (by kernel_rfl),rfl⟩
theorem ok553:OkF 553 Tev.vL:=⟨aB _ _ rfl Tryz.func87 (by kernel_rfl),rfl⟩
theorem ok555:OkF 555 Tev.mO:=⟨aB _ _ rfl Tryz.func21 (by kernel_rfl),rfl⟩
theorem ok556:OkF 556 Tev.uH:=⟨aB _ _ rfl Tryz.func56 (by kernel_rfl),rfl⟩
theorem ok557:OkF 557 Tev.pG:=⟨aB _ _ rfl Tryz.func57 (by kernel_rfl),rfl⟩
theorem ok558:OkF 558 Tev.rR:=⟨aB _ _ rfl Tryz.func97 (by kernel_rfl),rfl⟩
theorem ok559:OkF 559 Tev.aEY:=⟨aB _ _ rfl Tryz.func61 (by kernel_rfl),rfl⟩
theorem ok572:OkF 572 Tev.nY:=⟨aB _ _ rfl Tryz.func42 (by kernel_rfl),rfl⟩
theorem ok575:OkF 575 Tev.vK:=⟨aB _ _ rfl Tryz.func29 (by kernel_rfl),rfl⟩
theorem ok582:OkF 582 Tev.lB:=⟨aB _ _ rfl Tryz.func5 (by kernel_rfl),rfl⟩
theorem ok583:OkF 583 Tev.jX:=⟨aB _ _ rfl Tryz.func7 (by kernel_rfl),rfl⟩
theorem ok584:OkF 584 Tev.mP:=⟨aB _ _ rfl Tryz.func9 (by kernel_rfl),rfl⟩
theorem ok585:OkF 585 Tev.lO:=⟨aB _ _ rfl Tryz.func11 (by kernel_rfl),rfl⟩
theorem ok586:OkF 586 Tev.jE:=⟨aB _ _ rfl Tryz.func12 (by kernel_rfl),rfl⟩
theorem ok587:OkF 587 Tev.jD:=⟨aB _ _ rfl Tryz.func13 (by kernel_rfl),rfl⟩
theorem ok594:OkF 594 Tev.vV:=⟨aB _ _ rfl Tryz.func3 (by kernel_rfl),rfl⟩
theorem okg0:∀ f fn,Tev.tbl0 f=some fn→FnOk Tryz.prog L f fn∧fn.hand=hnd f:=by
 intro f fn h
 unfold Tev.tbl0 at h
 split at h<;>try cases h
 ·exact ok1
 ·exact ok2
 ·exact ok14
 ·exact ok15
 ·exact ok16
 ·exact ok17
 ·exact ok23
 ·exact ok25
 ·exact ok26
 ·exact ok29
 ·exact ok30
 ·exact ok31
 ·exact ok32
 ·exact ok36
 ·exact ok37
 ·exact ok42
 ·exact ok71
 ·exact ok72
 ·exact ok81
 ·exact ok89
 ·exact ok90
 ·exact ok91
 ·exact ok93
 ·exact ok94
 ·exact ok102
 ·exact ok113
 ·exact ok114
 ·exact ok115
 ·exact ok116
 ·exact ok119
 ·exact ok123
 ·exact ok128
 ·exact ok132
 ·exact ok134
 ·exact ok135
 ·exact ok149
 ·exact ok155
 ·exact ok156
 ·exact ok157
 ·exact ok158
 ·exact ok159
 ·exact ok160
 ·exact ok161
 ·exact ok162
 ·exact ok163
 ·exact ok164
 ·exact ok198
 ·exact ok212
 ·exact ok213
 ·exact ok214
 ·exact ok215
 ·exact ok216
 ·exact ok217
 ·exact ok218
 ·exact ok233
 ·exact ok234
 ·exact ok235
 ·exact ok236
 ·exact ok237
 ·exact ok238
 ·exact ok239
 ·exact ok240
 ·exact ok241
 ·exact ok242
 ·exact ok243
 ·exact ok248
 ·exact ok249
 ·exact ok251
 ·exact ok252
 ·exact ok253
theorem okg1:∀ f fn,Tev.tbl1 f=some fn→FnOk Tryz.prog L f fn∧fn.hand=hnd f:=by
 intro f fn h
 unfold Tev.tbl1 at h
 split at h<;>try cases h
 ·exact ok254
 ·exact ok255
 ·exact ok256
 ·exact ok257
 ·exact ok258
 ·exact ok262
 ·exact ok263
 ·exact ok264
 ·exact ok265
 ·exact ok266
 ·exact ok267
 ·exact ok268
 ·exact ok285
 ·exact ok286
 ·exact ok287
 ·exact ok288
 ·exact ok290
 ·exact ok291
 ·exact ok295
 ·exact ok296
 ·exact ok301
 ·exact ok302
 ·exact ok303
 ·exact ok304
 ·exact ok305
 ·exact ok306
 ·exact ok307
 ·exact ok308
 ·exact ok309
 ·exact ok310
 ·exact ok311
 ·exact ok312
 ·exact ok313
 ·exact ok314
 ·exact ok315
 ·exact ok316
 ·exact ok317
 ·exact ok318
 ·exact ok319
 ·exact ok320
 ·exact ok321
 ·exact ok322
 ·exact ok323
 ·exact ok324
 ·exact ok325
 ·exact ok326
 ·exact ok327
 ·exact ok328
 ·exact ok329
 ·exact ok330
 ·exact ok331
 ·exact ok332
 ·exact ok333
 ·exact ok334
 ·exact ok335
 ·exact ok346
 ·exact ok348
 ·exact ok350
 ·exact ok360
 ·exact ok361
 ·exact ok362
 ·exact ok363
 ·exact ok364
 ·exact ok365
 ·exact ok367
 ·exact ok368
 ·exact ok369
 ·exact ok419
 ·exact ok420
 ·exact ok421
theorem okg2:∀ f fn,Tev.tbl2 f=some fn→FnOk Tryz.prog L f fn∧fn.hand=hnd f:=by
 intro f fn h
 unfold Tev.tbl2 at h
 split at h<;>try cases h
 ·exact ok424
 ·exact ok425
 ·exact ok426
 ·exact ok430
 ·exact ok431
 ·exact ok432
 ·exact ok452
 ·exact ok455
 ·exact ok462
 ·exact ok498
 ·exact ok535
 ·exact ok538
 ·exact ok541
 ·exact ok542
 ·exact ok543
 ·exact ok544
 ·exact ok545
 ·exact ok546
 ·exact ok547
 ·exact ok548
 ·exact ok549
 ·exact ok550
 ·exact ok551
 ·exact ok553
 ·exact ok555
 ·exact ok556
 ·exact ok557
 ·exact ok558
 ·exact ok559
 ·exact ok572
 ·exact ok575
 ·exact ok582
 ·exact ok583
 ·exact ok584
 ·exact ok585
 ·exact ok586
 ·exact ok587
 ·exact ok594
theorem ok:∀ f fn,tbl f=some fn→FnOk Tryz.prog L f fn∧fn.hand=hnd f:=by
 intro f fn h
 unfold tbl at h
 cases q0:Nat.blt f 254
 case true=>rw[q0,Tev.cif_true]at h;exact okg0 f fn h
 rw[q0,Tev.cif_false]at h
 cases q1:Nat.blt f 424
 case true=>rw[q1,Tev.cif_true]at h;exact okg1 f fn h
 rw[q1,Tev.cif_false]at h
 exact okg2 f fn h
noncomputable def E:Tev.aR:=Tev.EV tbl hnd Tev.aM3
theorem xok117:Tev.aFh Tryz.prog L Tev.aM3 117 (hnd 117):=Tev.aTn ⟨_,_,Tryz.func81,rfl,by kernel_rfl⟩ ins_all (fun _=>rfl)
theorem xok:∀ f,tbl f=none→Tev.aFh Tryz.prog L Tev.aM3 f (hnd f):=by
 intro f _
 by_cases h117:f=117
 ·subst h117;exact xok117
 intro w ow0 args vs r hr
 have hr:Tev.aM3 f args=some r:=hr
 unfold Tev.aM3 at hr
 simp only[if_neg h117]at hr
 cases hr
theorem holds:∀ f,Tev.aFh Tryz.prog L E f (hnd f):=Tev.aVv ok xok
theorem sys:Tev.Sys E:=⟨fun f c args r hf h=>(Tev.aVw (F:=tbl) (hand:=hnd) (ext:=Tev.aM3) (f:=f) (fn:=c) (args:=args) (h:=hf)).trans h,fun args r h=>(Tev.aUM (F:=tbl) (hand:=hnd) (ext:=Tev.aM3) (f:=117) (args:=args) (h:=rfl)).trans h⟩
theorem shapes:Tryz.f3.params.toList.all (fun t=>(Tev.aAM Tryz.prog 12 t).isSome&&decide (t<Tryz.prog.types.size))=true:=by kernel_rfl
theorem sh22:Tev.aAM Tryz.prog 12 22=some [.sl [.int .u8] 1]:=by kernel_rfl
theorem ag22:Tev.aVd Tryz.prog 22=false:=by kernel_rfl
theorem runs (As:List Tev.A) (h:Tev.All2 (Tev.aLm Tryz.prog) Tryz.f3.params.toList As):∃ u,E 594 As=some ([.v false [.t (.bool true)]],u):=by
 rw[Tryz.params3]at h
 obtain⟨_,_,rfl,h0,t0⟩:=Tev.aPW h
 obtain⟨_,rfl,g0⟩:=Tev.aSG h0 sh22 ag22
 obtain⟨x0,rfl,l0⟩:=Tev.aPX g0
 obtain rfl:=Tev.aT0 t0
 exact⟨_,Tev.aSE sys x0 l0⟩
theorem lifted (os:Os) (started:os.Started) (H:Type) (enc:TypeId × Value→H) :
 ReturnsInHanded {} Tryz.checked os 3 .any (Rows.fnSendsSpec.pre6 enc Tryz.prog Tryz.f3 Rows.fnSendsRow.domain false) (Rows.fnSendsSpec.post enc Tryz.prog Tryz.f3 false true false false):=by
 refine returnsInHanded_of_change_sized (C:=Tryz.checked) own started (by kernel_rfl) Tryz.func3
  (ChangeSpec.witness6 (enc:=enc) (C:=Tryz.checked) false ⟨#[],#[.slice none 0 0],[]⟩ 8 (by kernel_rfl) (by kernel_rfl) (by kernel_rfl) (by kernel_rfl)) ?_
 intro W base args ds gs before hval hW _ hsz _
 refine Tev.aRn (P:=Tryz.prog) (L:=L) (E:=E) (f0:=594) rfl (holds 594) types (by kernel_rfl) (t:=4) (by kernel_rfl) Tryz.underlying4 (fun t ht=>?_) (fun ds hd=>?_) runs hval hW hsz
 ·have:=List.all_eq_true.mp shapes t ht
  simpa using this
 ·rw[Tryz.params3]at hd
  rcases ds with _|⟨d0,_|⟨d1,r⟩⟩<;>first|exact⟨rfl,rfl,rfl⟩|cases hd
theorem over:Rows.fnSendsRow.holds Tryz.pinned (OpenSpec.ofChange Rows.fnSendsSpec) :=
 OpenClaim.holds_of_wide 3 Tryz.f3 rfl rfl rfl rfl rfl rfl rfl ⟨rfl,rfl,rfl,rfl,rfl⟩ rfl rfl rfl rfl rfl (by kernel_rfl) Tryz.func3 (by kernel_rfl)
  (of_decide_eq_true (by kernel_rfl)) (by unfold Func.isWrapper;first|(rw[if_pos (by decide +kernel)];kernel_rfl)|(rw[if_neg (by decide +kernel)];exact⟨rfl,rfl⟩))
  (fun os started H enc _=>lifted os started H enc)
theorem proved:Rows.FnSendsSaid:=over
#print axioms proved
end Go.Proofs.YtdkfmakllhlbpaaGreat.fnSends
namespace Go.Proofs.YtdkfmakllhlbpaaGreat
theorem fnSends_holds:Rows.FnSendsSaid:=fnSends.proved
end Go.Proofs.YtdkfmakllhlbpaaGreat
