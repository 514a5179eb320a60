/- The law FnTakes holds: whatever the input, it returns true, and the input reads as it did. Conditions: none beside those of the statement. -/
import Derived.Test.YtdehfecgpdphoaaGreatRows
import Derived.Test.YtdehfecgpdphoaaGreatChecked
import Derived.Test.YtdehfecgpdphoaaGreatTakesX117
import Derived.WalkKit
import Derived.ProofKit
import Derived.OpenShut
import Derived.ShutString
import Derived.ChangeOld
import Derived.Below
import Derived.SizedLaws
import Derived.KernelRfl
namespace Go.Proofs.YtdehfecgpdphoaaGreat.fnTakes
open Go.ChangeShapes Go.WideShapes Go.ChangeAt Go.RowKit
open Tev (FnOk aB tbl hnd)
set_option linter.unusedVariables false
set_option maxRecDepth 100000
set_option maxHeartbeats 20000000
def L:Nat→FuncId
 |1=>30
 |2=>58
 |11=>79
 |14=>89
 |15=>39
 |25=>137
 |26=>136
 |29=>118
 |30=>57
 |31=>117
 |32=>87
 |36=>141
 |37=>126
 |42=>115
 |70=>14
 |71=>139
 |72=>122
 |81=>101
 |89=>215
 |90=>198
 |91=>197
 |92=>165
 |93=>217
 |94=>201
 |97=>108
 |102=>172
 |113=>72
 |114=>59
 |115=>116
 |116=>119
 |117=>120
 |118=>35
 |119=>34
 |123=>191
 |128=>88
 |132=>144
 |134=>123
 |135=>130
 |146=>22
 |149=>4
 |155=>44
 |156=>105
 |157=>25
 |158=>104
 |159=>164
 |160=>106
 |161=>64
 |162=>46
 |163=>112
 |164=>196
 |177=>188
 |180=>212
 |181=>189
 |182=>213
 |191=>177
 |193=>204
 |194=>178
 |195=>205
 |196=>206
 |197=>220
 |198=>86
 |199=>219
 |200=>207
 |212=>28
 |213=>66
 |214=>67
 |215=>21
 |216=>55
 |217=>56
 |218=>114
 |232=>142
 |233=>143
 |234=>190
 |235=>148
 |236=>183
 |237=>159
 |238=>185
 |239=>186
 |240=>210
 |241=>163
 |242=>195
 |243=>71
 |244=>129
 |245=>127
 |246=>182
 |247=>209
 |248=>147
 |249=>149
 |250=>221
 |251=>151
 |252=>154
 |253=>192
 |254=>155
 |255=>152
 |256=>94
 |257=>157
 |258=>193
 |262=>162
 |263=>194
 |264=>214
 |265=>222
 |266=>223
 |267=>224
 |268=>225
 |271=>180
 |272=>208
 |285=>78
 |286=>76
 |287=>77
 |288=>43
 |290=>121
 |291=>138
 |295=>53
 |296=>61
 |301=>113
 |302=>70
 |303=>168
 |304=>169
 |305=>170
 |306=>171
 |307=>135
 |308=>110
 |309=>199
 |310=>40
 |311=>38
 |312=>90
 |313=>91
 |314=>92
 |315=>93
 |316=>84
 |317=>85
 |318=>153
 |319=>150
 |320=>156
 |323=>29
 |324=>68
 |325=>69
 |326=>133
 |327=>134
 |328=>184
 |329=>17
 |330=>36
 |331=>37
 |332=>80
 |333=>81
 |334=>82
 |335=>83
 |346=>187
 |348=>100
 |350=>211
 |360=>175
 |361=>176
 |362=>202
 |363=>203
 |364=>218
 |365=>98
 |367=>102
 |368=>161
 |369=>160
 |370=>128
 |371=>179
 |372=>181
 |416=>75
 |417=>31
 |418=>145
 |419=>146
 |420=>140
 |421=>109
 |422=>63
 |423=>131
 |424=>132
 |425=>124
 |426=>125
 |430=>73
 |431=>60
 |432=>107
 |450=>11
 |451=>6
 |452=>32
 |453=>33
 |454=>74
 |455=>23
 |456=>24
 |457=>62
 |458=>13
 |459=>12
 |462=>167
 |469=>48
 |498=>51
 |531=>5
 |532=>7
 |533=>8
 |534=>9
 |535=>10
 |536=>15
 |537=>16
 |538=>18
 |539=>19
 |540=>20
 |541=>45
 |542=>47
 |543=>49
 |544=>103
 |545=>111
 |546=>166
 |547=>96
 |548=>97
 |549=>99
 |550=>158
 |551=>54
 |552=>50
 |553=>52
 |554=>26
 |555=>27
 |556=>41
 |557=>42
 |558=>95
 |559=>65
 |588=>3
 |_=>0
theorem own:ownKnob Tryz.prog.godebug=none:=by kernel_rfl
theorem types:Tev.TypesOk Tryz.prog:=⟨by kernel_rfl,by kernel_rfl,by kernel_rfl⟩
abbrev OkF (i:Nat) (c:Tev.Fn):Prop:=FnOk Tryz.prog L i c∧c.hand=hnd i
theorem ok1:OkF 1 Tev.aGJ:=⟨aB _ _ rfl Tryz.func30 (by kernel_rfl),rfl⟩
theorem ok2:OkF 2 Tev.aAM:=⟨aB _ _ rfl Tryz.func58 (by kernel_rfl),rfl⟩
theorem ok11:OkF 11 Tev.qK:=⟨aB _ _ rfl Tryz.func79 (by kernel_rfl),rfl⟩
theorem ok14:OkF 14 Tev.aAX:=⟨aB _ _ rfl Tryz.func89 (by kernel_rfl),rfl⟩
theorem ok15:OkF 15 Tev.pY:=⟨aB _ _ rfl Tryz.func39 (by kernel_rfl),rfl⟩
theorem ok25:OkF 25 Tev.aDQ:=⟨aB _ _ rfl Tryz.func137 (by kernel_rfl),rfl⟩
theorem ok26:OkF 26 Tev.aDR:=⟨aB _ _ rfl Tryz.func136 (by kernel_rfl),rfl⟩
theorem ok29:OkF 29 Tev.dQ:=⟨aB _ _ rfl Tryz.func118 (by kernel_rfl),rfl⟩
theorem ok30:OkF 30 Tev.eL:=⟨aB _ _ rfl Tryz.func57 (by kernel_rfl),rfl⟩
theorem ok31:OkF 31 Tev.aDx:=⟨aB _ _ rfl Tryz.func117 (by kernel_rfl),rfl⟩
theorem ok32:OkF 32 Tev.aDs:=⟨aB _ _ rfl Tryz.func87 (by kernel_rfl),rfl⟩
theorem ok36:OkF 36 Tev.tG:=⟨aB _ _ rfl Tryz.func141 (by kernel_rfl),rfl⟩
theorem ok37:OkF 37 Tev.sR:=⟨aB _ _ rfl Tryz.func126 (by kernel_rfl),rfl⟩
theorem ok42:OkF 42 Tev.aAS:=⟨aB _ _ rfl Tryz.func115 (by kernel_rfl),rfl⟩
theorem ok70:OkF 70 Tev.vJ:=⟨aB _ _ rfl Tryz.func14 (by kernel_rfl),rfl⟩
theorem ok71:OkF 71 Tev.aBp:=⟨aB _ _ rfl Tryz.func139 (by kernel_rfl),rfl⟩
theorem ok72:OkF 72 Tev.aA1:=⟨aB _ _ rfl Tryz.func122 (by kernel_rfl),rfl⟩
theorem ok81:OkF 81 Tev.qI:=⟨aB _ _ rfl Tryz.func101 (by kernel_rfl),rfl⟩
theorem ok89:OkF 89 Tev.xN:=⟨aB _ _ rfl Tryz.func215 (by kernel_rfl),rfl⟩
theorem ok90:OkF 90 Tev.tM:=⟨aB _ _ rfl Tryz.func198 (by kernel_rfl),rfl⟩
theorem ok91:OkF 91 Tev.xO:=⟨aB _ _ rfl Tryz.func197 (by kernel_rfl),rfl⟩
theorem ok92:OkF 92 Tev.xP:=⟨aB _ _ rfl Tryz.func165 (by kernel_rfl),rfl⟩
theorem ok93:OkF 93 Tev.vY:=⟨aB _ _ rfl Tryz.func217 (by kernel_rfl),rfl⟩
theorem ok94:OkF 94 Tev.sS:=⟨aB _ _ rfl Tryz.func201 (by kernel_rfl),rfl⟩
theorem ok97:OkF 97 Tev.aBo:=⟨aB _ _ rfl Tryz.func108 (by kernel_rfl),rfl⟩
theorem ok102:OkF 102 Tev.vV:=⟨aB _ _ rfl Tryz.func172 (by kernel_rfl),rfl⟩
theorem ok113:OkF 113 Tev.aGK:=⟨aB _ _ rfl Tryz.func72 (by kernel_rfl),rfl⟩
theorem ok114:OkF 114 Tev.aGG:=⟨aB _ _ rfl Tryz.func59 (by kernel_rfl),rfl⟩
theorem ok115:OkF 115 Tev.aGF:=⟨aB _ _ rfl Tryz.func116 (by kernel_rfl),rfl⟩
theorem ok116:OkF 116 Tev.aA0:=⟨aB _ _ rfl Tryz.func119 (by kernel_rfl),rfl⟩
theorem ok118:OkF 118 Tev.tO:=⟨aB _ _ rfl Tryz.func35 (by kernel_rfl),rfl⟩
theorem ok119:OkF 119 Tev.sP:=⟨aB _ _ rfl Tryz.func34 (by kernel_rfl),rfl⟩
theorem ok123:OkF 123 Tev.tI:=⟨aB _ _ rfl Tryz.func191 (by kernel_rfl),rfl⟩
theorem ok128:OkF 128 Tev.vO:=⟨aB _ _ rfl Tryz.func88 (by kernel_rfl),rfl⟩
theorem ok132:OkF 132 Tev.aEa:=⟨aB _ _ rfl Tryz.func144 (by kernel_rfl),rfl⟩
theorem ok134:OkF 134 Tev.vX:=⟨aB _ _ rfl Tryz.func123 (by kernel_rfl),rfl⟩
theorem ok135:OkF 135 Tev.aDy:=⟨aB _ _ rfl Tryz.func130 (by kernel_rfl),rfl⟩
theorem ok146:OkF 146 Tev.nN:=⟨aB _ _ rfl Tryz.func22 (by kernel_rfl),rfl⟩
theorem ok149:OkF 149 Tev.aIP:=⟨aB _ _ rfl Tryz.func4 (by kernel_rfl),rfl⟩
theorem ok155:OkF 155 Tev.aEp:=⟨aB _ _ rfl Tryz.func44 (by kernel_rfl),rfl⟩
theorem ok156:OkF 156 Tev.aA9:=⟨aB _ _ rfl Tryz.func105 (by kernel_rfl),rfl⟩
theorem ok157:OkF 157 Tev.wM:=⟨aB _ _ rfl Tryz.func25 (by kernel_rfl),rfl⟩
theorem ok158:OkF 158 Tev.aDX:=⟨aB _ _ rfl Tryz.func104 (by kernel_rfl),rfl⟩
theorem ok159:OkF 159 Tev.wN:=⟨aB _ _ rfl Tryz.func164 (by kernel_rfl),rfl⟩
theorem ok160:OkF 160 Tev.aDS:=⟨aB _ _ rfl Tryz.func106 (by kernel_rfl),rfl⟩
theorem ok161:OkF 161 Tev.aA7:=⟨aB _ _ rfl Tryz.func64 (by kernel_rfl),rfl⟩
theorem ok162:OkF 162 Tev.aA8:=⟨aB _ _ rfl Tryz.func46 (by kernel_rfl),rfl⟩
theorem ok163:OkF 163 Tev.aDT:=⟨aB _ _ rfl Tryz.func112 (by kernel_rfl),rfl⟩
theorem ok164:OkF 164 Tev.aA6:=⟨aB _ _ rfl Tryz.func196 (by kernel_rfl),rfl⟩
theorem ok177:OkF 177 Tev.aBx:=⟨aB _ _ rfl Tryz.func188 (by kernel_rfl),rfl⟩
theorem ok180:OkF 180 Tev.tQ:=⟨aB _ _ rfl Tryz.func212 (by kernel_rfl),rfl⟩
theorem ok181:OkF 181 Tev.aBw:=⟨aB _ _ rfl Tryz.func189 (by kernel_rfl),rfl⟩
theorem ok182:OkF 182 Tev.aEA:=⟨aB _ _ rfl Tryz.func213 (by kernel_rfl),rfl⟩
theorem ok191:OkF 191 Tev.aA4:=⟨aB _ _ rfl Tryz.func177 (by kernel_rfl),rfl⟩
theorem ok193:OkF 193 Tev.sW:=⟨aB _ _ rfl Tryz.func204 (by kernel_rfl),rfl⟩
theorem ok194:OkF 194 Tev.qE:=⟨aB _ _ rfl Tryz.func178 (by kernel_rfl),rfl⟩
theorem ok195:OkF 195 Tev.dC:=⟨aB _ _ rfl Tryz.func205 (by kernel_rfl),rfl⟩
theorem ok196:OkF 196 Tev.sX:=⟨aB _ _ rfl Tryz.func206 (by kernel_rfl),rfl⟩
theorem ok197:OkF 197 Tev.dR:=⟨aB _ _ rfl Tryz.func220 (by kernel_rfl),rfl⟩
theorem ok198:OkF 198 Tev.aDt:=⟨aB _ _ rfl Tryz.func86 (by kernel_rfl),rfl⟩
theorem ok199:OkF 199 Tev.aA3:=⟨aB _ _ rfl Tryz.func219 (by kernel_rfl),rfl⟩
theorem ok200:OkF 200 Tev.aDI:=⟨aB _ _ rfl Tryz.func207 (by kernel_rfl),rfl⟩
theorem ok212:OkF 212 Tev.xU:=⟨aB _ _ rfl Tryz.func28 (by kernel_rfl),rfl⟩
theorem ok213:OkF 213 Tev.aBg:=⟨aB _ _ rfl Tryz.func66 (by kernel_rfl),rfl⟩
theorem ok214:OkF 214 Tev.aBs:=⟨aB _ _ rfl Tryz.func67 (by kernel_rfl),rfl⟩
theorem ok215:OkF 215 Tev.sU:=⟨aB _ _ rfl Tryz.func21 (by kernel_rfl),rfl⟩
theorem ok216:OkF 216 Tev.wB:=⟨aB _ _ rfl Tryz.func55 (by kernel_rfl),rfl⟩
theorem ok217:OkF 217 Tev.qA:=⟨aB _ _ rfl Tryz.func56 (by kernel_rfl),rfl⟩
theorem ok218:OkF 218 Tev.eM:=⟨aB _ _ rfl Tryz.func114 (by kernel_rfl),rfl⟩
theorem ok232:OkF 232 Tev.xX:=⟨aB _ _ rfl Tryz.func142 (by kernel_rfl),rfl⟩
theorem ok233:OkF 233 Tev.aEc:=⟨aB _ _ rfl Tryz.func143 (by kernel_rfl),rfl⟩
theorem ok234:OkF 234 Tev.aBf:=⟨aB _ _ rfl Tryz.func190 (by kernel_rfl),rfl⟩
theorem ok235:OkF 235 Tev.oR:=⟨aB _ _ rfl Tryz.func148 (by kernel_rfl),rfl⟩
theorem ok236:OkF 236 Tev.aBb:=⟨aB _ _ rfl Tryz.func183 (by kernel_rfl),rfl⟩
theorem ok237:OkF 237 Tev.wV:=⟨aB _ _ rfl Tryz.func159 (by kernel_rfl),rfl⟩
theorem ok238:OkF 238 Tev.aD2:=⟨aB _ _ rfl Tryz.func185 (by kernel_rfl),rfl⟩
theorem ok239:OkF 239 Tev.aBa:=⟨aB _ _ rfl Tryz.func186 (by kernel_rfl),rfl⟩
theorem ok240:OkF 240 Tev.wO:=⟨aB _ _ rfl Tryz.func210 (by kernel_rfl),rfl⟩
theorem ok241:OkF 241 Tev.aBc:=⟨aB _ _ rfl Tryz.func163 (by kernel_rfl),rfl⟩
theorem ok242:OkF 242 Tev.aD1:=⟨aB _ _ rfl Tryz.func195 (by kernel_rfl),rfl⟩
theorem ok243:OkF 243 Tev.aBd:=⟨aB _ _ rfl Tryz.func71 (by kernel_rfl),rfl⟩
theorem ok244:OkF 244 Tev.qF:=⟨aB _ _ rfl Tryz.func129 (by kernel_rfl),rfl⟩
theorem ok245:OkF 245 Tev.wE:=⟨aB _ _ rfl Tryz.func127 (by kernel_rfl),rfl⟩
theorem ok246:OkF 246 Tev.aDJ:=⟨aB _ _ rfl Tryz.func182 (by kernel_rfl),rfl⟩
theorem ok247:OkF 247 Tev.aA5:=⟨aB _ _ rfl Tryz.func209 (by kernel_rfl),rfl⟩
theorem ok248:OkF 248 Tev.eJ:=⟨aB _ _ rfl Tryz.func147 (by kernel_rfl),rfl⟩
theorem ok249:OkF 249 Tev.aAP:=⟨aB _ _ rfl Tryz.func149 (by kernel_rfl),rfl⟩
theorem ok250:OkF 250 Tev.wF:=⟨aB _ _ rfl Tryz.func221 (by kernel_rfl),rfl⟩
theorem ok251:OkF 251 Tev.aDv:=⟨aB _ _ rfl Tryz.func151 (by kernel_rfl),rfl⟩
theorem ok252:OkF 252 Tev.aAO:=⟨aB _ _ rfl Tryz.func154 (by kernel_rfl),rfl⟩
theorem ok253:OkF 253 Tev.vL:=⟨aB _ _ rfl Tryz.func192 (by kernel_rfl),rfl⟩
theorem ok254:OkF 254 Tev.aAQ:=⟨aB _ _ rfl Tryz.func155 (by kernel_rfl),rfl⟩
theorem ok255:OkF 255 Tev.aDw:=⟨aB _ _ rfl Tryz.func152 (by kernel_rfl),rfl⟩
theorem ok256:OkF 256 Tev.aAR:=⟨aB _ _ rfl Tryz.func94 (by kernel_rfl),rfl⟩
theorem ok257:OkF 257 Tev.aGE:=⟨aB _ _ rfl Tryz.func157 (by kernel_rfl),rfl⟩
theorem ok258:OkF 258 Tev.aGD:=⟨aB _ _ rfl Tryz.func193 (by kernel_rfl),rfl⟩
theorem ok262:OkF 262 Tev.wU:=⟨aB _ _ rfl Tryz.func162 (by kernel_rfl),rfl⟩
theorem ok263:OkF 263 Tev.wT:=⟨aB _ _ rfl Tryz.func194 (by kernel_rfl),rfl⟩
theorem ok264:OkF 264 Tev.wS:=⟨aB _ _ rfl Tryz.func214 (by kernel_rfl),rfl⟩
theorem ok265:OkF 265 Tev.aGN:=⟨aB _ _ rfl Tryz.func222 (by kernel_rfl),rfl⟩
theorem ok266:OkF 266 Tev.aGL:=⟨aB _ _ rfl Tryz.func223 (by kernel_rfl),rfl⟩
theorem ok267:OkF 267 Tev.oQ:=⟨aB _ _ rfl Tryz.func224 (by kernel_rfl),rfl⟩
theorem ok268:OkF 268 Tev.aGM:=⟨aB _ _ rfl Tryz.func225 (by kernel_rfl),rfl⟩
theorem ok271:OkF 271 Tev.wD:=⟨aB _ _ rfl Tryz.func180 (by kernel_rfl),rfl⟩
theorem ok272:OkF 272 Tev.wC:=⟨aB _ _ rfl Tryz.func208 (by kernel_rfl),rfl⟩
theorem ok285:OkF 285 Tev.xH:=⟨aB _ _ rfl Tryz.func78 (by kernel_rfl),rfl⟩
theorem ok286:OkF 286 Tev.vU:=⟨aB _ _ rfl Tryz.func76 (by kernel_rfl),rfl⟩
theorem ok287:OkF 287 Tev.eK:=⟨aB _ _ rfl Tryz.func77 (by kernel_rfl),rfl⟩
theorem ok288:OkF 288 Tev.tD:=⟨aB _ _ rfl Tryz.func43 (by kernel_rfl),rfl⟩
theorem ok290:OkF 290 Tev.aA2:=⟨aB _ _ rfl Tryz.func121 (by kernel_rfl),rfl⟩
theorem ok291:OkF 291 Tev.aBr:=⟨aB _ _ rfl Tryz.func138 (by kernel_rfl),rfl⟩
theorem ok295:OkF 295 Tev.tL:=⟨aB _ _ rfl Tryz.func53 (by kernel_rfl),rfl⟩
theorem ok296:OkF 296 Tev.sQ:=⟨aB _ _ rfl Tryz.func61 (by kernel_rfl),rfl⟩
theorem ok301:OkF 301 Tev.aBn:=⟨aB _ _ rfl Tryz.func113 (by kernel_rfl),rfl⟩
theorem ok302:OkF 302 Tev.aEq:=⟨aB _ _ rfl Tryz.func70 (by kernel_rfl),rfl⟩
theorem ok303:OkF 303 Tev.aBl:=⟨aB _ _ rfl Tryz.func168 (by kernel_rfl),rfl⟩
theorem ok304:OkF 304 Tev.aBm:=⟨aB _ _ rfl Tryz.func169 (by kernel_rfl),rfl⟩
theorem ok305:OkF 305 Tev.xJ:=⟨aB _ _ rfl Tryz.func170 (by kernel_rfl),rfl⟩
theorem ok306:OkF 306 Tev.xI:=⟨aB _ _ rfl Tryz.func171 (by kernel_rfl),rfl⟩
theorem ok307:OkF 307 Tev.aD3:=⟨aB _ _ rfl Tryz.func135 (by kernel_rfl),rfl⟩
theorem ok308:OkF 308 Tev.wQ:=⟨aB _ _ rfl Tryz.func110 (by kernel_rfl),rfl⟩
theorem ok309:OkF 309 Tev.tK:=⟨aB _ _ rfl Tryz.func199 (by kernel_rfl),rfl⟩
theorem ok310:OkF 310 Tev.aAW:=⟨aB _ _ rfl Tryz.func40 (by kernel_rfl),rfl⟩
theorem ok311:OkF 311 Tev.aDu:=⟨aB _ _ rfl Tryz.func38 (by kernel_rfl),rfl⟩
theorem ok312:OkF 312 Tev.aAT:=⟨aB _ _ rfl Tryz.func90 (by kernel_rfl),rfl⟩
theorem ok313:OkF 313 Tev.aAU:=⟨aB _ _ rfl Tryz.func91 (by kernel_rfl),rfl⟩
theorem ok314:OkF 314 Tev.aAV:=⟨aB _ _ rfl Tryz.func92 (by kernel_rfl),rfl⟩
theorem ok315:OkF 315 Tev.vR:=⟨aB _ _ rfl Tryz.func93 (by kernel_rfl),rfl⟩
theorem ok316:OkF 316 Tev.aDr:=⟨aB _ _ rfl Tryz.func84 (by kernel_rfl),rfl⟩
theorem ok317:OkF 317 Tev.oO:=⟨aB _ _ rfl Tryz.func85 (by kernel_rfl),rfl⟩
theorem ok318:OkF 318 Tev.pW:=⟨aB _ _ rfl Tryz.func153 (by kernel_rfl),rfl⟩
theorem ok319:OkF 319 Tev.vM:=⟨aB _ _ rfl Tryz.func150 (by kernel_rfl),rfl⟩
theorem ok320:OkF 320 Tev.pX:=⟨aB _ _ rfl Tryz.func156 (by kernel_rfl),rfl⟩
theorem ok323:OkF 323 Tev.aBv:=⟨aB _ _ rfl Tryz.func29 (by kernel_rfl),rfl⟩
theorem ok324:OkF 324 Tev.aBt:=⟨aB _ _ rfl Tryz.func68 (by kernel_rfl),rfl⟩
theorem ok325:OkF 325 Tev.xW:=⟨aB _ _ rfl Tryz.func69 (by kernel_rfl),rfl⟩
theorem ok326:OkF 326 Tev.aBu:=⟨aB _ _ rfl Tryz.func133 (by kernel_rfl),rfl⟩
theorem ok327:OkF 327 Tev.xV:=⟨aB _ _ rfl Tryz.func134 (by kernel_rfl),rfl⟩
theorem ok328:OkF 328 Tev.tP:=⟨aB _ _ rfl Tryz.func184 (by kernel_rfl),rfl⟩
theorem ok329:OkF 329 Tev.aAZ:=⟨aB _ _ rfl Tryz.func17 (by kernel_rfl),rfl⟩
theorem ok330:OkF 330 Tev.aAN:=⟨aB _ _ rfl Tryz.func36 (by kernel_rfl),rfl⟩
theorem ok331:OkF 331 Tev.vT:=⟨aB _ _ rfl Tryz.func37 (by kernel_rfl),rfl⟩
theorem ok332:OkF 332 Tev.vK:=⟨aB _ _ rfl Tryz.func80 (by kernel_rfl),rfl⟩
theorem ok333:OkF 333 Tev.aAY:=⟨aB _ _ rfl Tryz.func81 (by kernel_rfl),rfl⟩
theorem ok334:OkF 334 Tev.sO:=⟨aB _ _ rfl Tryz.func82 (by kernel_rfl),rfl⟩
theorem ok335:OkF 335 Tev.vS:=⟨aB _ _ rfl Tryz.func83 (by kernel_rfl),rfl⟩
theorem ok346:OkF 346 Tev.xS:=⟨aB _ _ rfl Tryz.func187 (by kernel_rfl),rfl⟩
theorem ok348:OkF 348 Tev.aBe:=⟨aB _ _ rfl Tryz.func100 (by kernel_rfl),rfl⟩
theorem ok350:OkF 350 Tev.aBq:=⟨aB _ _ rfl Tryz.func211 (by kernel_rfl),rfl⟩
theorem ok360:OkF 360 Tev.vZ:=⟨aB _ _ rfl Tryz.func175 (by kernel_rfl),rfl⟩
theorem ok361:OkF 361 Tev.nO:=⟨aB _ _ rfl Tryz.func176 (by kernel_rfl),rfl⟩
theorem ok362:OkF 362 Tev.eY:=⟨aB _ _ rfl Tryz.func202 (by kernel_rfl),rfl⟩
theorem ok363:OkF 363 Tev.pZ:=⟨aB _ _ rfl Tryz.func203 (by kernel_rfl),rfl⟩
theorem ok364:OkF 364 Tev.fZ:=⟨aB _ _ rfl Tryz.func218 (by kernel_rfl),rfl⟩
theorem ok365:OkF 365 Tev.tJ:=⟨aB _ _ rfl Tryz.func98 (by kernel_rfl),rfl⟩
theorem ok367:OkF 367 Tev.qH:=⟨aB _ _ rfl Tryz.func102 (by kernel_rfl),rfl⟩
theorem ok368:OkF 368 Tev.tH:=⟨aB _ _ rfl Tryz.func161 (by kernel_rfl),rfl⟩
theorem ok369:OkF 369 Tev.aEb:=⟨aB _ _ rfl Tryz.func160 (by kernel_rfl),rfl⟩
theorem ok370:OkF 370 Tev.qD:=⟨aB _ _ rfl Tryz.func128 (by kernel_rfl),rfl⟩
theorem ok371:OkF 371 Tev.sV:=⟨aB _ _ rfl Tryz.func179 (by kernel_rfl),rfl⟩
theorem ok372:OkF 372 Tev.qC:=⟨aB _ _ rfl Tryz.func181 (by kernel_rfl),rfl⟩
theorem ok416:OkF 416 Tev.tU:=⟨aB _ _ rfl Tryz.func75 (by kernel_rfl),rfl⟩
theorem ok417:OkF 417 Tev.xY:=⟨aB _ _ rfl Tryz.func31 (by kernel_rfl),rfl⟩
theorem ok418:OkF 418 Tev.tT:=⟨aB _ _ rfl Tryz.func145 (by kernel_rfl),rfl⟩
theorem ok419:OkF 419 Tev.yA:=⟨aB _ _ rfl Tryz.func146 (by kernel_rfl),rfl⟩
theorem ok420:OkF 420 Tev.xT:=⟨aB _ _ rfl Tryz.func140 (by kernel_rfl),rfl⟩
theorem ok421:OkF 421 Tev.xL:=⟨aB _ _ rfl Tryz.func109 (by kernel_rfl),rfl⟩
theorem ok422:OkF 422 Tev.sZ:=⟨aB _ _ rfl Tryz.func63 (by kernel_rfl),rfl⟩
theorem ok423:OkF 423 Tev.sY:=⟨aB _ _ rfl Tryz.func131 (by kernel_rfl),rfl⟩
theorem ok424:OkF 424 Tev.wH:=⟨aB _ _ rfl Tryz.func132 (by kernel_rfl),rfl⟩
theorem ok425:OkF 425 Tev.wA:=⟨aB _ _ rfl Tryz.func124 (by kernel_rfl),rfl⟩
theorem ok426:OkF 426 Tev.vW:=⟨aB _ _ rfl Tryz.func125 (by kernel_rfl),rfl⟩
theorem ok430:OkF 430 Tev.qL:=⟨aB _ _ rfl Tryz.func73 (by kernel_rfl),rfl⟩
theorem ok431:OkF 431 Tev.qB:=⟨aB _ _ rfl Tryz.func60 (by kernel_rfl),rfl⟩
theorem ok432:OkF 432 Tev.xQ:=⟨aB _ _ rfl Tryz.func107 (by kernel_rfl),rfl⟩
theorem ok450:OkF 450 Tev.aGO:=⟨aB _ _ rfl Tryz.func11 (by kernel_rfl),rfl⟩
theorem ok451:OkF 451 Tev.aGH:=⟨aB _ _ rfl Tryz.func6 (by kernel_rfl),rfl⟩
theorem ok452:OkF 452 Tev.oS:=⟨aB _ _ rfl Tryz.func32 (by kernel_rfl),rfl⟩
theorem ok453:OkF 453 Tev.tV:=⟨aB _ _ rfl Tryz.func33 (by kernel_rfl),rfl⟩
theorem ok454:OkF 454 Tev.xZ:=⟨aB _ _ rfl Tryz.func74 (by kernel_rfl),rfl⟩
theorem ok455:OkF 455 Tev.oP:=⟨aB _ _ rfl Tryz.func23 (by kernel_rfl),rfl⟩
theorem ok456:OkF 456 Tev.tC:=⟨aB _ _ rfl Tryz.func24 (by kernel_rfl),rfl⟩
theorem ok457:OkF 457 Tev.wG:=⟨aB _ _ rfl Tryz.func62 (by kernel_rfl),rfl⟩
theorem ok458:OkF 458 Tev.yC:=⟨aB _ _ rfl Tryz.func13 (by kernel_rfl),rfl⟩
theorem ok459:OkF 459 Tev.wJ:=⟨aB _ _ rfl Tryz.func12 (by kernel_rfl),rfl⟩
theorem ok462:OkF 462 Tev.aEj:=⟨aB _ _ rfl Tryz.func167 (by kernel_rfl),rfl⟩
theorem ok469:OkF 469 Tev.xF:=⟨aB _ _ rfl Tryz.func48 (by kernel_rfl),rfl⟩
theorem ok498:OkF 498 Tev.xK:=⟨aB _ _ rfl Tryz.func51 (by kernel_rfl),rfl⟩
theorem ok531:OkF 531 Tev.tN:=⟨aB _ _ rfl Tryz.func5 (by kernel_rfl),rfl⟩
theorem ok532:OkF 532 Tev.nS:=⟨aB _ _ rfl Tryz.func7 (by kernel_rfl),rfl⟩
theorem ok533:OkF 533 Tev.nQ:=⟨aB _ _ rfl Tryz.func8 (by kernel_rfl),rfl⟩
theorem ok534:OkF 534 Tev.nR:=⟨aB _ _ rfl Tryz.func9 (by kernel_rfl),rfl⟩
theorem ok535:OkF 535 Tev.wL:=⟨aB _ _ rfl Tryz.func10 (by kernel_rfl),rfl⟩
theorem ok536:OkF 536 Tev.wI:=⟨aB _ _ rfl Tryz.func15 (by kernel_rfl),rfl⟩
theorem ok537:OkF 537 Tev.yB:=⟨aB _ _ rfl Tryz.func16 (by kernel_rfl),rfl⟩
theorem ok538:OkF 538 Tev.tF:=⟨aB _ _ rfl Tryz.func18 (by kernel_rfl),rfl⟩
theorem ok539:OkF 539 Tev.xG:=⟨aB _ _ rfl Tryz.func19 (by kernel_rfl),rfl⟩
theorem ok540:OkF 540 Tev.qJ:=⟨aB _ _ rfl Tryz.func20 (by kernel_rfl),rfl⟩
theorem ok541:OkF 541 Tev.xD:=⟨aB _ _ rfl Tryz.func45 (by kernel_rfl),rfl⟩
theorem ok542:OkF 542 Tev.aBk:=⟨aB _ _ rfl Tryz.func47 (by kernel_rfl),rfl⟩
theorem ok543:OkF 543 Tev.xB:=⟨aB _ _ rfl Tryz.func49 (by kernel_rfl),rfl⟩
theorem ok544:OkF 544 Tev.aEo:=⟨aB _ _ rfl Tryz.func103 (by kernel_rfl),rfl⟩
theorem ok545:OkF 545 Tev.aBh:=⟨aB _ _ rfl Tryz.func111 (by kernel_rfl),rfl⟩
theorem ok546:OkF 546 Tev.xC:=⟨aB _ _ rfl Tryz.func166 (by kernel_rfl),rfl⟩
theorem ok547:OkF 547 Tev.wZ:=⟨aB _ _ rfl Tryz.func96 (by kernel_rfl),rfl⟩
theorem ok548:OkF 548 Tev.aBj:=⟨aB _ _ rfl Tryz.func97 (by kernel_rfl),rfl⟩
theorem ok549:OkF 549 Tev.xA:=⟨aB _ _ rfl Tryz.func99 (by kernel_rfl),rfl⟩
theorem ok550:OkF 550 Tev.aEn:=⟨aB _ _ rfl Tryz.func158 (by kernel_rfl),rfl⟩
theorem ok551:OkF 551 Tev.aBi:=⟨aB _ _ rfl Tryz.func54 (by kernel_rfl),rfl⟩
theorem ok552:OkF 552 Tev.xR:=⟨aB _ _ rfl Tryz.func50 (by kernel_rfl),rfl⟩
theorem ok553:OkF 553 Tev.xM:=⟨aB _ _ rfl Tryz.func52 (by kernel_rfl),rfl⟩
theorem ok554:OkF 554 Tev.xE:=⟨aB _ _ rfl Tryz.func26 (by kernel_rfl),rfl⟩
theorem ok555:OkF 555 Tev.nP:=⟨aB _ _ rfl Tryz.func27 (by kernel_rfl),rfl⟩
theorem ok556:OkF 556 Tev.wK:=⟨aB _ _ rfl Tryz.func41 (by kernel_rfl),rfl⟩
theorem ok557:OkF 557 Tev.qG:=⟨aB _ _ rfl Tryz.func42 (by kernel_rfl),rfl⟩
theorem ok558:OkF 558 Tev.tE:=⟨aB _ _ rfl Tryz.func95 (by kernel_rfl),rfl⟩
theorem ok559:OkF 559 Tev.aGI:=⟨aB _ _ rfl Tryz.func65 (by kernel_rfl),rfl⟩
theorem ok588:OkF 588 Tev.yD:=⟨aB _ _ rfl Tryz.func3 (by kernel_rfl),rfl⟩
theorem okg0:∀ f fn,Tev.tbl0 f=some fn→FnOk Tryz.prog L f fn∧fn.hand=hnd f:=by
 intro f fn h
 unfold Tev.tbl0 at h
 split at h<;>try cases h
 ·exact ok1
 ·exact ok2
 ·exact ok11
 ·exact ok14
 ·exact ok15
 ·exact ok25
 ·exact ok26
 ·exact ok29
 ·exact ok30
 ·exact ok31
 ·exact ok32
 ·exact ok36
 ·exact ok37
 ·exact ok42
 ·exact ok70
 ·exact ok71
 ·exact ok72
 ·exact ok81
 ·exact ok89
 ·exact ok90
 ·exact ok91
 ·exact ok92
 ·exact ok93
 ·exact ok94
 ·exact ok97
 ·exact ok102
 ·exact ok113
 ·exact ok114
 ·exact ok115
 ·exact ok116
 ·exact ok118
 ·exact ok119
 ·exact ok123
 ·exact ok128
 ·exact ok132
 ·exact ok134
 ·exact ok135
 ·exact ok146
 ·exact ok149
 ·exact ok155
 ·exact ok156
 ·exact ok157
 ·exact ok158
 ·exact ok159
 ·exact ok160
 ·exact ok161
 ·exact ok162
 ·exact ok163
 ·exact ok164
 ·exact ok177
 ·exact ok180
 ·exact ok181
 ·exact ok182
 ·exact ok191
 ·exact ok193
 ·exact ok194
 ·exact ok195
 ·exact ok196
 ·exact ok197
 ·exact ok198
 ·exact ok199
 ·exact ok200
 ·exact ok212
 ·exact ok213
 ·exact ok214
 ·exact ok215
 ·exact ok216
 ·exact ok217
 ·exact ok218
 ·exact ok232
theorem okg1:∀ f fn,Tev.tbl1 f=some fn→FnOk Tryz.prog L f fn∧fn.hand=hnd f:=by
 intro f fn h
 unfold Tev.tbl1 at h
 split at h<;>try cases h
 ·exact ok233
 ·exact ok234
 ·exact ok235
 ·exact ok236
 ·exact ok237
 ·exact ok238
 ·exact ok239
 ·exact ok240
 ·exact ok241
 ·exact ok242
 ·exact ok243
 ·exact ok244
 ·exact ok245
 ·exact ok246
 ·exact ok247
 ·exact ok248
 ·exact ok249
 ·exact ok250
 ·exact ok251
 ·exact ok252
 ·exact ok253
 ·exact ok254
 ·exact ok255
 ·exact ok256
 ·exact ok257
 ·exact ok258
 ·exact ok262
 ·exact ok263
 ·exact ok264
 ·exact ok265
 ·exact ok266
 ·exact ok267
 ·exact ok268
 ·exact ok271
 ·exact ok272
 ·exact ok285
 ·exact ok286
 ·exact ok287
 ·exact ok288
 ·exact ok290
 ·exact ok291
 ·exact ok295
 ·exact ok296
 ·exact ok301
 ·exact ok302
 ·exact ok303
 ·exact ok304
 ·exact ok305
 ·exact ok306
 ·exact ok307
 ·exact ok308
 ·exact ok309
 ·exact ok310
 ·exact ok311
 ·exact ok312
 ·exact ok313
 ·exact ok314
 ·exact ok315
 ·exact ok316
 ·exact ok317
 ·exact ok318
 ·exact ok319
 ·exact ok320
 ·exact ok323
 ·exact ok324
 ·exact ok325
 ·exact ok326
 ·exact ok327
 ·exact ok328
 ·exact ok329
theorem okg2:∀ f fn,Tev.tbl2 f=some fn→FnOk Tryz.prog L f fn∧fn.hand=hnd f:=by
 intro f fn h
 unfold Tev.tbl2 at h
 split at h<;>try cases h
 ·exact ok330
 ·exact ok331
 ·exact ok332
 ·exact ok333
 ·exact ok334
 ·exact ok335
 ·exact ok346
 ·exact ok348
 ·exact ok350
 ·exact ok360
 ·exact ok361
 ·exact ok362
 ·exact ok363
 ·exact ok364
 ·exact ok365
 ·exact ok367
 ·exact ok368
 ·exact ok369
 ·exact ok370
 ·exact ok371
 ·exact ok372
 ·exact ok416
 ·exact ok417
 ·exact ok418
 ·exact ok419
 ·exact ok420
 ·exact ok421
 ·exact ok422
 ·exact ok423
 ·exact ok424
 ·exact ok425
 ·exact ok426
 ·exact ok430
 ·exact ok431
 ·exact ok432
 ·exact ok450
 ·exact ok451
 ·exact ok452
 ·exact ok453
 ·exact ok454
 ·exact ok455
 ·exact ok456
 ·exact ok457
 ·exact ok458
 ·exact ok459
 ·exact ok462
 ·exact ok469
 ·exact ok498
 ·exact ok531
 ·exact ok532
 ·exact ok533
 ·exact ok534
 ·exact ok535
 ·exact ok536
 ·exact ok537
 ·exact ok538
 ·exact ok539
 ·exact ok540
 ·exact ok541
 ·exact ok542
 ·exact ok543
 ·exact ok544
 ·exact ok545
 ·exact ok546
 ·exact ok547
 ·exact ok548
 ·exact ok549
 ·exact ok550
 ·exact ok551
 ·exact ok552
theorem okg3:∀ f fn,Tev.tbl3 f=some fn→FnOk Tryz.prog L f fn∧fn.hand=hnd f:=by
 intro f fn h
 unfold Tev.tbl3 at h
 split at h<;>try cases h
 ·exact ok553
 ·exact ok554
 ·exact ok555
 ·exact ok556
 ·exact ok557
 ·exact ok558
 ·exact ok559
 ·exact ok588
theorem ok:∀ f fn,tbl f=some fn→FnOk Tryz.prog L f fn∧fn.hand=hnd f:=by
 intro f fn h
 unfold tbl at h
 cases q0:Nat.blt f 233
 case true=>rw[q0,Tev.cif_true]at h;exact okg0 f fn h
 rw[q0,Tev.cif_false]at h
 cases q1:Nat.blt f 330
 case true=>rw[q1,Tev.cif_true]at h;exact okg1 f fn h
 rw[q1,Tev.cif_false]at h
 cases q2:Nat.blt f 553
 case true=>rw[q2,Tev.cif_true]at h;exact okg2 f fn h
 rw[q2,Tev.cif_false]at h
 exact okg3 f fn h
noncomputable def E:Tev.aP:=Tev.EV tbl hnd Tev.aPh
theorem xok117:Tev.aG3 Tryz.prog L Tev.aPh 117 (hnd 117):=Tev.aVv ⟨_,_,Tryz.func120,rfl,by kernel_rfl⟩ ins_all (fun _=>rfl)
theorem xok:∀ f,tbl f=none→Tev.aG3 Tryz.prog L Tev.aPh f (hnd f):=by
 intro f _
 by_cases h117:f=117
 ·subst h117;exact xok117
 intro w ow0 args vs r hr
 have hr:Tev.aPh f args=some r:=hr
 unfold Tev.aPh at hr
 simp only[if_neg h117]at hr
 cases hr
theorem holds:∀ f,Tev.aG3 Tryz.prog L E f (hnd f):=Tev.aXH ok xok
theorem sys:Tev.Sys E:=⟨fun f c args r hf h=>(Tev.aXI (F:=tbl) (hand:=hnd) (ext:=Tev.aPh) (f:=f) (fn:=c) (args:=args) (h:=hf)).trans h,fun args r h=>(Tev.aWW (F:=tbl) (hand:=hnd) (ext:=Tev.aPh) (f:=117) (args:=args) (h:=rfl)).trans h⟩
theorem shapes:Tryz.f3.params.toList.all (fun t=>(Tev.aBZ Tryz.prog 12 t).isSome&&decide (t<Tryz.prog.types.size))=true:=by kernel_rfl
theorem sh22:Tev.aBZ Tryz.prog 12 22=some [.sl [.int .u8] 1]:=by kernel_rfl
theorem ag22:Tev.aXp Tryz.prog 22=false:=by kernel_rfl
theorem runs (As:List Tev.A) (h:Tev.All2 (Tev.aNx Tryz.prog) Tryz.f3.params.toList As):∃ u,E 588 As=some ([.v false [.t (.bool true)]],u):=by
 rw[Tryz.params3]at h
 obtain⟨_,_,rfl,h0,t0⟩:=Tev.aR8 h
 obtain⟨_,rfl,g0⟩:=Tev.aUP h0 sh22 ag22
 obtain⟨x0,rfl,l0⟩:=Tev.aR9 g0
 obtain rfl:=Tev.aV7 t0
 exact⟨_,Tev.aUN sys x0 l0⟩
theorem lifted (os:Os) (started:os.Started) (H:Type) (enc:TypeId × Value→H) :
 ReturnsInHanded {} Tryz.checked os 3 .any (Rows.fnTakesSpec.pre6 enc Tryz.prog Tryz.f3 Rows.fnTakesRow.domain false) (Rows.fnTakesSpec.post enc Tryz.prog Tryz.f3 false true false false):=by
 refine returnsInHanded_of_change_sized (C:=Tryz.checked) own started (by kernel_rfl) Tryz.func3
  (ChangeSpec.witness6 (enc:=enc) (C:=Tryz.checked) false ⟨#[],#[.slice none 0 0],[]⟩ 8 (by kernel_rfl) (by kernel_rfl) (by kernel_rfl) (by kernel_rfl)) ?_
 intro W base args ds gs before hval hW _ hsz _
 refine Tev.aTz (P:=Tryz.prog) (L:=L) (E:=E) (f0:=588) rfl (holds 588) types (by kernel_rfl) (t:=4) (by kernel_rfl) Tryz.underlying4 (fun t ht=>?_) (fun ds hd=>?_) runs hval hW hsz
 ·have:=List.all_eq_true.mp shapes t ht
  simpa using this
 ·rw[Tryz.params3]at hd
  rcases ds with _|⟨d0,_|⟨d1,r⟩⟩<;>first|exact⟨rfl,rfl,rfl⟩|cases hd
theorem over:Rows.fnTakesRow.holds Tryz.pinned (OpenSpec.ofChange Rows.fnTakesSpec) :=
 OpenClaim.holds_of_wide 3 Tryz.f3 rfl rfl rfl rfl rfl rfl rfl ⟨rfl,rfl,rfl,rfl,rfl⟩ rfl rfl rfl rfl rfl (by kernel_rfl) Tryz.func3 (by kernel_rfl)
  (of_decide_eq_true (by kernel_rfl)) (by unfold Func.isWrapper;first|(rw[if_pos (by decide +kernel)];kernel_rfl)|(rw[if_neg (by decide +kernel)];exact⟨rfl,rfl⟩))
  (fun os started H enc _=>lifted os started H enc)
theorem proved:Rows.FnTakesSaid:=over
#print axioms proved
end Go.Proofs.YtdehfecgpdphoaaGreat.fnTakes
namespace Go.Proofs.YtdehfecgpdphoaaGreat
theorem fnTakes_holds:Rows.FnTakesSaid:=fnTakes.proved
end Go.Proofs.YtdehfecgpdphoaaGreat
