/- The law FnTwice holds: whatever the input, it returns true, and the input reads as it did. Conditions: none beside those of the statement. -/
import Derived.Test.YtilhpmmecmeedaaGreatRows
import Derived.Test.YtilhpmmecmeedaaGreatChecked
import Derived.Test.YtilhpmmecmeedaaGreatTwiceX117
import Derived.WalkKit
import Derived.ProofKit
import Derived.OpenShut
import Derived.ShutString
import Derived.ChangeOld
import Derived.Below
import Derived.SizedLaws
import Derived.KernelRfl
namespace Go.Proofs.YtilhpmmecmeedaaGreat.fnTwice
open Go.ChangeShapes Go.WideShapes Go.ChangeAt Go.RowKit
open Tev (FnOk aB tbl hnd)
set_option linter.unusedVariables false
set_option maxRecDepth 100000
set_option maxHeartbeats 20000000
def L:Nat→FuncId
 |1=>69
 |2=>44
 |14=>59
 |15=>20
 |25=>162
 |26=>70
 |29=>96
 |30=>43
 |31=>95
 |32=>57
 |36=>165
 |37=>104
 |42=>93
 |72=>100
 |81=>78
 |89=>180
 |90=>167
 |91=>166
 |92=>137
 |93=>182
 |94=>170
 |97=>85
 |102=>144
 |113=>132
 |114=>45
 |115=>94
 |116=>97
 |117=>98
 |123=>160
 |128=>58
 |132=>136
 |134=>101
 |135=>109
 |146=>14
 |149=>4
 |155=>29
 |156=>82
 |157=>36
 |158=>81
 |159=>135
 |160=>83
 |161=>88
 |162=>31
 |163=>90
 |164=>164
 |191=>150
 |193=>173
 |194=>151
 |195=>174
 |196=>175
 |197=>185
 |198=>56
 |199=>184
 |200=>176
 |213=>131
 |215=>13
 |216=>41
 |217=>42
 |218=>92
 |233=>130
 |234=>161
 |235=>124
 |236=>121
 |237=>128
 |238=>123
 |239=>125
 |240=>158
 |241=>126
 |242=>159
 |243=>25
 |244=>108
 |245=>106
 |246=>155
 |247=>178
 |248=>149
 |249=>112
 |250=>186
 |251=>114
 |252=>117
 |253=>156
 |254=>118
 |255=>115
 |256=>64
 |257=>120
 |258=>157
 |262=>134
 |263=>163
 |264=>179
 |265=>187
 |266=>188
 |267=>189
 |268=>190
 |271=>153
 |272=>177
 |285=>67
 |286=>105
 |288=>28
 |290=>99
 |295=>39
 |296=>47
 |301=>91
 |302=>24
 |303=>140
 |304=>141
 |305=>142
 |306=>143
 |307=>68
 |308=>87
 |309=>168
 |310=>21
 |311=>19
 |312=>60
 |313=>61
 |314=>62
 |315=>63
 |316=>54
 |317=>55
 |318=>116
 |319=>113
 |320=>119
 |322=>9
 |323=>8
 |324=>22
 |325=>23
 |326=>65
 |327=>66
 |328=>122
 |329=>7
 |330=>17
 |331=>18
 |332=>50
 |333=>51
 |334=>52
 |335=>53
 |348=>77
 |360=>147
 |361=>148
 |362=>171
 |363=>172
 |364=>183
 |365=>75
 |367=>79
 |368=>133
 |369=>129
 |370=>107
 |371=>152
 |372=>154
 |421=>86
 |422=>49
 |423=>110
 |424=>111
 |425=>102
 |426=>103
 |431=>46
 |432=>84
 |451=>6
 |455=>15
 |456=>16
 |457=>48
 |462=>139
 |469=>33
 |498=>37
 |531=>5
 |538=>10
 |539=>11
 |540=>12
 |541=>30
 |542=>32
 |543=>34
 |544=>80
 |545=>89
 |546=>138
 |547=>73
 |548=>74
 |549=>76
 |550=>127
 |551=>40
 |552=>35
 |553=>38
 |556=>26
 |557=>27
 |558=>71
 |559=>72
 |595=>3
 |_=>0
theorem own:ownKnob Tryz.prog.godebug=none:=by kernel_rfl
theorem types:Tev.TypesOk Tryz.prog:=⟨by kernel_rfl,by kernel_rfl,by kernel_rfl⟩
theorem ok1:FnOk Tryz.prog L 1 Tev.c_spec_l1In∧Tev.c_spec_l1In.hand=hnd 1:=⟨aB Tryz.prog L rfl Tryz.func69 (by kernel_rfl),rfl⟩
theorem ok2:FnOk Tryz.prog L 2 Tev.c_impl_within∧Tev.c_impl_within.hand=hnd 2:=⟨aB Tryz.prog L rfl Tryz.func44 (by kernel_rfl),rfl⟩
theorem ok14:FnOk Tryz.prog L 14 Tev.c_bytes_Equal∧Tev.c_bytes_Equal.hand=hnd 14:=⟨aB Tryz.prog L rfl Tryz.func59 (by kernel_rfl),rfl⟩
theorem ok15:FnOk Tryz.prog L 15 Tev.c_impl_SameBytes∧Tev.c_impl_SameBytes.hand=hnd 15:=⟨aB Tryz.prog L rfl Tryz.func20 (by kernel_rfl),rfl⟩
theorem ok25:FnOk Tryz.prog L 25 Tev.c_spec_KidAt∧Tev.c_spec_KidAt.hand=hnd 25:=⟨aB Tryz.prog L rfl Tryz.func162 (by kernel_rfl),rfl⟩
theorem ok26:FnOk Tryz.prog L 26 Tev.c_spec_SetOk∧Tev.c_spec_SetOk.hand=hnd 26:=⟨aB Tryz.prog L rfl Tryz.func70 (by kernel_rfl),rfl⟩
theorem ok29:FnOk Tryz.prog L 29 Tev.c_slices_IndexFunc_impl_Kid_impl_Kid∧Tev.c_slices_IndexFunc_impl_Kid_impl_Kid.hand=hnd 29:=⟨aB Tryz.prog L rfl Tryz.func96 (by kernel_rfl),rfl⟩
theorem ok30:FnOk Tryz.prog L 30 Tev.c_slices_Clone_impl_Kid_impl_Kid∧Tev.c_slices_Clone_impl_Kid_impl_Kid.hand=hnd 30:=⟨aB Tryz.prog L rfl Tryz.func43 (by kernel_rfl),rfl⟩
theorem ok31:FnOk Tryz.prog L 31 Tev.c_impl_KidAt∧Tev.c_impl_KidAt.hand=hnd 31:=⟨aB Tryz.prog L rfl Tryz.func95 (by kernel_rfl),rfl⟩
theorem ok32:FnOk Tryz.prog L 32 Tev.c_impl_SetOk∧Tev.c_impl_SetOk.hand=hnd 32:=⟨aB Tryz.prog L rfl Tryz.func57 (by kernel_rfl),rfl⟩
theorem ok36:FnOk Tryz.prog L 36 Tev.c_spec_MarkSent∧Tev.c_spec_MarkSent.hand=hnd 36:=⟨aB Tryz.prog L rfl Tryz.func165 (by kernel_rfl),rfl⟩
theorem ok37:FnOk Tryz.prog L 37 Tev.c_impl_MarkSent∧Tev.c_impl_MarkSent.hand=hnd 37:=⟨aB Tryz.prog L rfl Tryz.func104 (by kernel_rfl),rfl⟩
theorem ok42:FnOk Tryz.prog L 42 Tev.c_impl_cloned∧Tev.c_impl_cloned.hand=hnd 42:=⟨aB Tryz.prog L rfl Tryz.func93 (by kernel_rfl),rfl⟩
theorem ok72:FnOk Tryz.prog L 72 Tev.c_impl_HaveOf∧Tev.c_impl_HaveOf.hand=hnd 72:=⟨aB Tryz.prog L rfl Tryz.func100 (by kernel_rfl),rfl⟩
theorem ok81:FnOk Tryz.prog L 81 Tev.c_spec_FreshNode∧Tev.c_spec_FreshNode.hand=hnd 81:=⟨aB Tryz.prog L rfl Tryz.func78 (by kernel_rfl),rfl⟩
theorem ok89:FnOk Tryz.prog L 89 Tev.c_spec_FullSet∧Tev.c_spec_FullSet.hand=hnd 89:=⟨aB Tryz.prog L rfl Tryz.func180 (by kernel_rfl),rfl⟩
theorem ok90:FnOk Tryz.prog L 90 Tev.c_spec_AllParts∧Tev.c_spec_AllParts.hand=hnd 90:=⟨aB Tryz.prog L rfl Tryz.func167 (by kernel_rfl),rfl⟩
theorem ok91:FnOk Tryz.prog L 91 Tev.c_spec_Without∧Tev.c_spec_Without.hand=hnd 91:=⟨aB Tryz.prog L rfl Tryz.func166 (by kernel_rfl),rfl⟩
theorem ok92:FnOk Tryz.prog L 92 Tev.c_spec_Missing∧Tev.c_spec_Missing.hand=hnd 92:=⟨aB Tryz.prog L rfl Tryz.func137 (by kernel_rfl),rfl⟩
theorem ok93:FnOk Tryz.prog L 93 Tev.c_impl_FullSet∧Tev.c_impl_FullSet.hand=hnd 93:=⟨aB Tryz.prog L rfl Tryz.func182 (by kernel_rfl),rfl⟩
theorem ok94:FnOk Tryz.prog L 94 Tev.c_impl_AllParts∧Tev.c_impl_AllParts.hand=hnd 94:=⟨aB Tryz.prog L rfl Tryz.func170 (by kernel_rfl),rfl⟩
theorem ok97:FnOk Tryz.prog L 97 Tev.c_spec_LackOf∧Tev.c_spec_LackOf.hand=hnd 97:=⟨aB Tryz.prog L rfl Tryz.func85 (by kernel_rfl),rfl⟩
theorem ok102:FnOk Tryz.prog L 102 Tev.c_impl_KidAt_1∧Tev.c_impl_KidAt_1.hand=hnd 102:=⟨aB Tryz.prog L rfl Tryz.func144 (by kernel_rfl),rfl⟩
theorem ok113:FnOk Tryz.prog L 113 Tev.c_spec_Hear∧Tev.c_spec_Hear.hand=hnd 113:=⟨aB Tryz.prog L rfl Tryz.func132 (by kernel_rfl),rfl⟩
theorem ok114:FnOk Tryz.prog L 114 Tev.c_impl_Hear∧Tev.c_impl_Hear.hand=hnd 114:=⟨aB Tryz.prog L rfl Tryz.func45 (by kernel_rfl),rfl⟩
theorem ok115:FnOk Tryz.prog L 115 Tev.c_impl_isId∧Tev.c_impl_isId.hand=hnd 115:=⟨aB Tryz.prog L rfl Tryz.func94 (by kernel_rfl),rfl⟩
theorem ok116:FnOk Tryz.prog L 116 Tev.c_impl_Hear_1∧Tev.c_impl_Hear_1.hand=hnd 116:=⟨aB Tryz.prog L rfl Tryz.func97 (by kernel_rfl),rfl⟩
theorem ok123:FnOk Tryz.prog L 123 Tev.c_spec_WithPart∧Tev.c_spec_WithPart.hand=hnd 123:=⟨aB Tryz.prog L rfl Tryz.func160 (by kernel_rfl),rfl⟩
theorem ok128:FnOk Tryz.prog L 128 Tev.c_impl_isPlace∧Tev.c_impl_isPlace.hand=hnd 128:=⟨aB Tryz.prog L rfl Tryz.func58 (by kernel_rfl),rfl⟩
theorem ok132:FnOk Tryz.prog L 132 Tev.c_spec_InSet∧Tev.c_spec_InSet.hand=hnd 132:=⟨aB Tryz.prog L rfl Tryz.func136 (by kernel_rfl),rfl⟩
theorem ok134:FnOk Tryz.prog L 134 Tev.c_impl_PartsIn∧Tev.c_impl_PartsIn.hand=hnd 134:=⟨aB Tryz.prog L rfl Tryz.func101 (by kernel_rfl),rfl⟩
theorem ok135:FnOk Tryz.prog L 135 Tev.c_impl_InSet∧Tev.c_impl_InSet.hand=hnd 135:=⟨aB Tryz.prog L rfl Tryz.func109 (by kernel_rfl),rfl⟩
theorem ok146:FnOk Tryz.prog L 146 Tev.c_impl_Tree_isNode∧Tev.c_impl_Tree_isNode.hand=hnd 146:=⟨aB Tryz.prog L rfl Tryz.func14 (by kernel_rfl),rfl⟩
theorem ok149:FnOk Tryz.prog L 149 Tev.c_laws_big∧Tev.c_laws_big.hand=hnd 149:=⟨aB Tryz.prog L rfl Tryz.func4 (by kernel_rfl),rfl⟩
theorem ok155:FnOk Tryz.prog L 155 Tev.c_spec_l1New∧Tev.c_spec_l1New.hand=hnd 155:=⟨aB Tryz.prog L rfl Tryz.func29 (by kernel_rfl),rfl⟩
theorem ok156:FnOk Tryz.prog L 156 Tev.c_spec_l14Any∧Tev.c_spec_l14Any.hand=hnd 156:=⟨aB Tryz.prog L rfl Tryz.func82 (by kernel_rfl),rfl⟩
theorem ok157:FnOk Tryz.prog L 157 Tev.c_spec_l1Below∧Tev.c_spec_l1Below.hand=hnd 157:=⟨aB Tryz.prog L rfl Tryz.func36 (by kernel_rfl),rfl⟩
theorem ok158:FnOk Tryz.prog L 158 Tev.c_spec_l5Any∧Tev.c_spec_l5Any.hand=hnd 158:=⟨aB Tryz.prog L rfl Tryz.func81 (by kernel_rfl),rfl⟩
theorem ok159:FnOk Tryz.prog L 159 Tev.c_spec_l14Draw∧Tev.c_spec_l14Draw.hand=hnd 159:=⟨aB Tryz.prog L rfl Tryz.func135 (by kernel_rfl),rfl⟩
theorem ok160:FnOk Tryz.prog L 160 Tev.c_spec_l1Int∧Tev.c_spec_l1Int.hand=hnd 160:=⟨aB Tryz.prog L rfl Tryz.func83 (by kernel_rfl),rfl⟩
theorem ok161:FnOk Tryz.prog L 161 Tev.c_spec_l1Byte∧Tev.c_spec_l1Byte.hand=hnd 161:=⟨aB Tryz.prog L rfl Tryz.func88 (by kernel_rfl),rfl⟩
theorem ok162:FnOk Tryz.prog L 162 Tev.c_spec_l1Once∧Tev.c_spec_l1Once.hand=hnd 162:=⟨aB Tryz.prog L rfl Tryz.func31 (by kernel_rfl),rfl⟩
theorem ok163:FnOk Tryz.prog L 163 Tev.c_spec_l5Set∧Tev.c_spec_l5Set.hand=hnd 163:=⟨aB Tryz.prog L rfl Tryz.func90 (by kernel_rfl),rfl⟩
theorem ok164:FnOk Tryz.prog L 164 Tev.c_spec_AgeAll∧Tev.c_spec_AgeAll.hand=hnd 164:=⟨aB Tryz.prog L rfl Tryz.func164 (by kernel_rfl),rfl⟩
theorem ok191:FnOk Tryz.prog L 191 Tev.c_impl_DiskOk∧Tev.c_impl_DiskOk.hand=hnd 191:=⟨aB Tryz.prog L rfl Tryz.func150 (by kernel_rfl),rfl⟩
theorem ok193:FnOk Tryz.prog L 193 Tev.c_impl_isRecord∧Tev.c_impl_isRecord.hand=hnd 193:=⟨aB Tryz.prog L rfl Tryz.func173 (by kernel_rfl),rfl⟩
theorem ok194:FnOk Tryz.prog L 194 Tev.c_impl_Disk_slot∧Tev.c_impl_Disk_slot.hand=hnd 194:=⟨aB Tryz.prog L rfl Tryz.func151 (by kernel_rfl),rfl⟩
theorem ok195:FnOk Tryz.prog L 195 Tev.c_slices_ContainsFunc_impl_Put_impl_Put∧Tev.c_slices_ContainsFunc_impl_Put_impl_Put.hand=hnd 195:=⟨aB Tryz.prog L rfl Tryz.func174 (by kernel_rfl),rfl⟩
theorem ok196:FnOk Tryz.prog L 196 Tev.c_impl_DiskOk_1∧Tev.c_impl_DiskOk_1.hand=hnd 196:=⟨aB Tryz.prog L rfl Tryz.func175 (by kernel_rfl),rfl⟩
theorem ok197:FnOk Tryz.prog L 197 Tev.c_slices_IndexFunc_impl_Put_impl_Put∧Tev.c_slices_IndexFunc_impl_Put_impl_Put.hand=hnd 197:=⟨aB Tryz.prog L rfl Tryz.func185 (by kernel_rfl),rfl⟩
theorem ok198:FnOk Tryz.prog L 198 Tev.c_impl_isGen∧Tev.c_impl_isGen.hand=hnd 198:=⟨aB Tryz.prog L rfl Tryz.func56 (by kernel_rfl),rfl⟩
theorem ok199:FnOk Tryz.prog L 199 Tev.c_impl_isSlot∧Tev.c_impl_isSlot.hand=hnd 199:=⟨aB Tryz.prog L rfl Tryz.func184 (by kernel_rfl),rfl⟩
theorem ok200:FnOk Tryz.prog L 200 Tev.c_impl_isPut∧Tev.c_impl_isPut.hand=hnd 200:=⟨aB Tryz.prog L rfl Tryz.func176 (by kernel_rfl),rfl⟩
theorem ok213:FnOk Tryz.prog L 213 Tev.c_spec_l6Copy∧Tev.c_spec_l6Copy.hand=hnd 213:=⟨aB Tryz.prog L rfl Tryz.func131 (by kernel_rfl),rfl⟩
theorem ok215:FnOk Tryz.prog L 215 Tev.c_impl_copyNode∧Tev.c_impl_copyNode.hand=hnd 215:=⟨aB Tryz.prog L rfl Tryz.func13 (by kernel_rfl),rfl⟩
theorem ok216:FnOk Tryz.prog L 216 Tev.c_impl_copyMan∧Tev.c_impl_copyMan.hand=hnd 216:=⟨aB Tryz.prog L rfl Tryz.func41 (by kernel_rfl),rfl⟩
theorem ok217:FnOk Tryz.prog L 217 Tev.c_impl_copyBuild∧Tev.c_impl_copyBuild.hand=hnd 217:=⟨aB Tryz.prog L rfl Tryz.func42 (by kernel_rfl),rfl⟩
theorem ok218:FnOk Tryz.prog L 218 Tev.c_slices_Clone_impl_Sum_impl_Sum∧Tev.c_slices_Clone_impl_Sum_impl_Sum.hand=hnd 218:=⟨aB Tryz.prog L rfl Tryz.func92 (by kernel_rfl),rfl⟩
theorem ok233:FnOk Tryz.prog L 233 Tev.c_spec_Tells∧Tev.c_spec_Tells.hand=hnd 233:=⟨aB Tryz.prog L rfl Tryz.func130 (by kernel_rfl),rfl⟩
theorem ok234:FnOk Tryz.prog L 234 Tev.c_spec_SumsOf∧Tev.c_spec_SumsOf.hand=hnd 234:=⟨aB Tryz.prog L rfl Tryz.func161 (by kernel_rfl),rfl⟩
theorem ok235:FnOk Tryz.prog L 235 Tev.c_spec_l6SameSums∧Tev.c_spec_l6SameSums.hand=hnd 235:=⟨aB Tryz.prog L rfl Tryz.func124 (by kernel_rfl),rfl⟩
theorem ok236:FnOk Tryz.prog L 236 Tev.c_spec_Blocks∧Tev.c_spec_Blocks.hand=hnd 236:=⟨aB Tryz.prog L rfl Tryz.func121 (by kernel_rfl),rfl⟩
theorem ok237:FnOk Tryz.prog L 237 Tev.c_spec_BlockAt∧Tev.c_spec_BlockAt.hand=hnd 237:=⟨aB Tryz.prog L rfl Tryz.func128 (by kernel_rfl),rfl⟩
theorem ok238:FnOk Tryz.prog L 238 Tev.c_spec_SumOf∧Tev.c_spec_SumOf.hand=hnd 238:=⟨aB Tryz.prog L rfl Tryz.func123 (by kernel_rfl),rfl⟩
theorem ok239:FnOk Tryz.prog L 239 Tev.c_spec_SizeOk∧Tev.c_spec_SizeOk.hand=hnd 239:=⟨aB Tryz.prog L rfl Tryz.func125 (by kernel_rfl),rfl⟩
theorem ok240:FnOk Tryz.prog L 240 Tev.c_spec_CeilDiv∧Tev.c_spec_CeilDiv.hand=hnd 240:=⟨aB Tryz.prog L rfl Tryz.func158 (by kernel_rfl),rfl⟩
theorem ok241:FnOk Tryz.prog L 241 Tev.c_spec_SpanOf∧Tev.c_spec_SpanOf.hand=hnd 241:=⟨aB Tryz.prog L rfl Tryz.func126 (by kernel_rfl),rfl⟩
theorem ok242:FnOk Tryz.prog L 242 Tev.c_spec_Least∧Tev.c_spec_Least.hand=hnd 242:=⟨aB Tryz.prog L rfl Tryz.func159 (by kernel_rfl),rfl⟩
theorem ok243:FnOk Tryz.prog L 243 Tev.c_spec_WeakOf∧Tev.c_spec_WeakOf.hand=hnd 243:=⟨aB Tryz.prog L rfl Tryz.func25 (by kernel_rfl),rfl⟩
theorem ok244:FnOk Tryz.prog L 244 Tev.c_impl_isCurrent∧Tev.c_impl_isCurrent.hand=hnd 244:=⟨aB Tryz.prog L rfl Tryz.func108 (by kernel_rfl),rfl⟩
theorem ok245:FnOk Tryz.prog L 245 Tev.c_impl_Recover∧Tev.c_impl_Recover.hand=hnd 245:=⟨aB Tryz.prog L rfl Tryz.func106 (by kernel_rfl),rfl⟩
theorem ok246:FnOk Tryz.prog L 246 Tev.c_impl_Tells∧Tev.c_impl_Tells.hand=hnd 246:=⟨aB Tryz.prog L rfl Tryz.func155 (by kernel_rfl),rfl⟩
theorem ok247:FnOk Tryz.prog L 247 Tev.c_impl_SumsOf∧Tev.c_impl_SumsOf.hand=hnd 247:=⟨aB Tryz.prog L rfl Tryz.func178 (by kernel_rfl),rfl⟩
theorem ok248:FnOk Tryz.prog L 248 Tev.c_slices_Equal_impl_Sum_impl_Sum∧Tev.c_slices_Equal_impl_Sum_impl_Sum.hand=hnd 248:=⟨aB Tryz.prog L rfl Tryz.func149 (by kernel_rfl),rfl⟩
theorem ok249:FnOk Tryz.prog L 249 Tev.c_impl_Blocks∧Tev.c_impl_Blocks.hand=hnd 249:=⟨aB Tryz.prog L rfl Tryz.func112 (by kernel_rfl),rfl⟩
theorem ok250:FnOk Tryz.prog L 250 Tev.c_impl_BlockAt∧Tev.c_impl_BlockAt.hand=hnd 250:=⟨aB Tryz.prog L rfl Tryz.func186 (by kernel_rfl),rfl⟩
theorem ok251:FnOk Tryz.prog L 251 Tev.c_impl_SumOf∧Tev.c_impl_SumOf.hand=hnd 251:=⟨aB Tryz.prog L rfl Tryz.func114 (by kernel_rfl),rfl⟩
theorem ok252:FnOk Tryz.prog L 252 Tev.c_impl_SizeOk∧Tev.c_impl_SizeOk.hand=hnd 252:=⟨aB Tryz.prog L rfl Tryz.func117 (by kernel_rfl),rfl⟩
theorem ok253:FnOk Tryz.prog L 253 Tev.c_impl_CeilDiv∧Tev.c_impl_CeilDiv.hand=hnd 253:=⟨aB Tryz.prog L rfl Tryz.func156 (by kernel_rfl),rfl⟩
theorem ok254:FnOk Tryz.prog L 254 Tev.c_impl_SpanOf∧Tev.c_impl_SpanOf.hand=hnd 254:=⟨aB Tryz.prog L rfl Tryz.func118 (by kernel_rfl),rfl⟩
theorem ok255:FnOk Tryz.prog L 255 Tev.c_impl_Slice∧Tev.c_impl_Slice.hand=hnd 255:=⟨aB Tryz.prog L rfl Tryz.func115 (by kernel_rfl),rfl⟩
theorem ok256:FnOk Tryz.prog L 256 Tev.c_impl_WeakOf∧Tev.c_impl_WeakOf.hand=hnd 256:=⟨aB Tryz.prog L rfl Tryz.func64 (by kernel_rfl),rfl⟩
theorem ok257:FnOk Tryz.prog L 257 Tev.c_impl_weak∧Tev.c_impl_weak.hand=hnd 257:=⟨aB Tryz.prog L rfl Tryz.func120 (by kernel_rfl),rfl⟩
theorem ok258:FnOk Tryz.prog L 258 Tev.c_impl_Wrap∧Tev.c_impl_Wrap.hand=hnd 258:=⟨aB Tryz.prog L rfl Tryz.func157 (by kernel_rfl),rfl⟩
theorem ok262:FnOk Tryz.prog L 262 Tev.c_spec_PlaceOf∧Tev.c_spec_PlaceOf.hand=hnd 262:=⟨aB Tryz.prog L rfl Tryz.func134 (by kernel_rfl),rfl⟩
theorem ok263:FnOk Tryz.prog L 263 Tev.c_spec_FindSum∧Tev.c_spec_FindSum.hand=hnd 263:=⟨aB Tryz.prog L rfl Tryz.func163 (by kernel_rfl),rfl⟩
theorem ok264:FnOk Tryz.prog L 264 Tev.c_spec_Windows∧Tev.c_spec_Windows.hand=hnd 264:=⟨aB Tryz.prog L rfl Tryz.func179 (by kernel_rfl),rfl⟩
theorem ok265:FnOk Tryz.prog L 265 Tev.c_spec_Roll∧Tev.c_spec_Roll.hand=hnd 265:=⟨aB Tryz.prog L rfl Tryz.func187 (by kernel_rfl),rfl⟩
theorem ok266:FnOk Tryz.prog L 266 Tev.c_spec_l3Ok∧Tev.c_spec_l3Ok.hand=hnd 266:=⟨aB Tryz.prog L rfl Tryz.func188 (by kernel_rfl),rfl⟩
theorem ok267:FnOk Tryz.prog L 267 Tev.c_spec_WeakHalves∧Tev.c_spec_WeakHalves.hand=hnd 267:=⟨aB Tryz.prog L rfl Tryz.func189 (by kernel_rfl),rfl⟩
theorem ok268:FnOk Tryz.prog L 268 Tev.c_spec_Wrap∧Tev.c_spec_Wrap.hand=hnd 268:=⟨aB Tryz.prog L rfl Tryz.func190 (by kernel_rfl),rfl⟩
theorem ok271:FnOk Tryz.prog L 271 Tev.c_impl_PlaceOf∧Tev.c_impl_PlaceOf.hand=hnd 271:=⟨aB Tryz.prog L rfl Tryz.func153 (by kernel_rfl),rfl⟩
theorem ok272:FnOk Tryz.prog L 272 Tev.c_impl_FindSum∧Tev.c_impl_FindSum.hand=hnd 272:=⟨aB Tryz.prog L rfl Tryz.func177 (by kernel_rfl),rfl⟩
theorem ok285:FnOk Tryz.prog L 285 Tev.c_spec_SameMan∧Tev.c_spec_SameMan.hand=hnd 285:=⟨aB Tryz.prog L rfl Tryz.func67 (by kernel_rfl),rfl⟩
theorem ok286:FnOk Tryz.prog L 286 Tev.c_impl_SameMan∧Tev.c_impl_SameMan.hand=hnd 286:=⟨aB Tryz.prog L rfl Tryz.func105 (by kernel_rfl),rfl⟩
theorem ok288:FnOk Tryz.prog L 288 Tev.c_laws_sameKids∧Tev.c_laws_sameKids.hand=hnd 288:=⟨aB Tryz.prog L rfl Tryz.func28 (by kernel_rfl),rfl⟩
theorem ok290:FnOk Tryz.prog L 290 Tev.c_impl_SendTo∧Tev.c_impl_SendTo.hand=hnd 290:=⟨aB Tryz.prog L rfl Tryz.func99 (by kernel_rfl),rfl⟩
theorem ok295:FnOk Tryz.prog L 295 Tev.c_spec_PacketOf∧Tev.c_spec_PacketOf.hand=hnd 295:=⟨aB Tryz.prog L rfl Tryz.func39 (by kernel_rfl),rfl⟩
theorem ok296:FnOk Tryz.prog L 296 Tev.c_impl_PacketOf∧Tev.c_impl_PacketOf.hand=hnd 296:=⟨aB Tryz.prog L rfl Tryz.func47 (by kernel_rfl),rfl⟩
theorem ok301:FnOk Tryz.prog L 301 Tev.c_spec_PutMsg∧Tev.c_spec_PutMsg.hand=hnd 301:=⟨aB Tryz.prog L rfl Tryz.func91 (by kernel_rfl),rfl⟩
theorem ok302:FnOk Tryz.prog L 302 Tev.c_spec_MsgOk∧Tev.c_spec_MsgOk.hand=hnd 302:=⟨aB Tryz.prog L rfl Tryz.func24 (by kernel_rfl),rfl⟩
theorem ok303:FnOk Tryz.prog L 303 Tev.c_spec_PutVar∧Tev.c_spec_PutVar.hand=hnd 303:=⟨aB Tryz.prog L rfl Tryz.func140 (by kernel_rfl),rfl⟩
theorem ok304:FnOk Tryz.prog L 304 Tev.c_spec_PutMan∧Tev.c_spec_PutMan.hand=hnd 304:=⟨aB Tryz.prog L rfl Tryz.func141 (by kernel_rfl),rfl⟩
theorem ok305:FnOk Tryz.prog L 305 Tev.c_spec_l12Half∧Tev.c_spec_l12Half.hand=hnd 305:=⟨aB Tryz.prog L rfl Tryz.func142 (by kernel_rfl),rfl⟩
theorem ok306:FnOk Tryz.prog L 306 Tev.c_spec_PutPart∧Tev.c_spec_PutPart.hand=hnd 306:=⟨aB Tryz.prog L rfl Tryz.func143 (by kernel_rfl),rfl⟩
theorem ok307:FnOk Tryz.prog L 307 Tev.c_spec_ManOk∧Tev.c_spec_ManOk.hand=hnd 307:=⟨aB Tryz.prog L rfl Tryz.func68 (by kernel_rfl),rfl⟩
theorem ok308:FnOk Tryz.prog L 308 Tev.c_spec_BytesOf∧Tev.c_spec_BytesOf.hand=hnd 308:=⟨aB Tryz.prog L rfl Tryz.func87 (by kernel_rfl),rfl⟩
theorem ok309:FnOk Tryz.prog L 309 Tev.c_spec_l6PutSum∧Tev.c_spec_l6PutSum.hand=hnd 309:=⟨aB Tryz.prog L rfl Tryz.func168 (by kernel_rfl),rfl⟩
theorem ok310:FnOk Tryz.prog L 310 Tev.c_impl_PutMsg∧Tev.c_impl_PutMsg.hand=hnd 310:=⟨aB Tryz.prog L rfl Tryz.func21 (by kernel_rfl),rfl⟩
theorem ok311:FnOk Tryz.prog L 311 Tev.c_impl_MsgOk∧Tev.c_impl_MsgOk.hand=hnd 311:=⟨aB Tryz.prog L rfl Tryz.func19 (by kernel_rfl),rfl⟩
theorem ok312:FnOk Tryz.prog L 312 Tev.c_impl_PutVar∧Tev.c_impl_PutVar.hand=hnd 312:=⟨aB Tryz.prog L rfl Tryz.func60 (by kernel_rfl),rfl⟩
theorem ok313:FnOk Tryz.prog L 313 Tev.c_impl_PutMan∧Tev.c_impl_PutMan.hand=hnd 313:=⟨aB Tryz.prog L rfl Tryz.func61 (by kernel_rfl),rfl⟩
theorem ok314:FnOk Tryz.prog L 314 Tev.c_impl_putSet∧Tev.c_impl_putSet.hand=hnd 314:=⟨aB Tryz.prog L rfl Tryz.func62 (by kernel_rfl),rfl⟩
theorem ok315:FnOk Tryz.prog L 315 Tev.c_impl_PutPart∧Tev.c_impl_PutPart.hand=hnd 315:=⟨aB Tryz.prog L rfl Tryz.func63 (by kernel_rfl),rfl⟩
theorem ok316:FnOk Tryz.prog L 316 Tev.c_impl_ManOk∧Tev.c_impl_ManOk.hand=hnd 316:=⟨aB Tryz.prog L rfl Tryz.func54 (by kernel_rfl),rfl⟩
theorem ok317:FnOk Tryz.prog L 317 Tev.c_impl_Msg_isBare∧Tev.c_impl_Msg_isBare.hand=hnd 317:=⟨aB Tryz.prog L rfl Tryz.func55 (by kernel_rfl),rfl⟩
theorem ok318:FnOk Tryz.prog L 318 Tev.c_impl_isZeroMan∧Tev.c_impl_isZeroMan.hand=hnd 318:=⟨aB Tryz.prog L rfl Tryz.func116 (by kernel_rfl),rfl⟩
theorem ok319:FnOk Tryz.prog L 319 Tev.c_impl_BytesOf∧Tev.c_impl_BytesOf.hand=hnd 319:=⟨aB Tryz.prog L rfl Tryz.func113 (by kernel_rfl),rfl⟩
theorem ok320:FnOk Tryz.prog L 320 Tev.c_impl_appendVar∧Tev.c_impl_appendVar.hand=hnd 320:=⟨aB Tryz.prog L rfl Tryz.func119 (by kernel_rfl),rfl⟩
theorem ok322:FnOk Tryz.prog L 322 Tev.c_impl_PartPackets∧Tev.c_impl_PartPackets.hand=hnd 322:=⟨aB Tryz.prog L rfl Tryz.func9 (by kernel_rfl),rfl⟩
theorem ok323:FnOk Tryz.prog L 323 Tev.c_spec_GetMsg∧Tev.c_spec_GetMsg.hand=hnd 323:=⟨aB Tryz.prog L rfl Tryz.func8 (by kernel_rfl),rfl⟩
theorem ok324:FnOk Tryz.prog L 324 Tev.c_spec_GetVar∧Tev.c_spec_GetVar.hand=hnd 324:=⟨aB Tryz.prog L rfl Tryz.func22 (by kernel_rfl),rfl⟩
theorem ok325:FnOk Tryz.prog L 325 Tev.c_spec_l12Body∧Tev.c_spec_l12Body.hand=hnd 325:=⟨aB Tryz.prog L rfl Tryz.func23 (by kernel_rfl),rfl⟩
theorem ok326:FnOk Tryz.prog L 326 Tev.c_spec_GetMan∧Tev.c_spec_GetMan.hand=hnd 326:=⟨aB Tryz.prog L rfl Tryz.func65 (by kernel_rfl),rfl⟩
theorem ok327:FnOk Tryz.prog L 327 Tev.c_spec_GetPart∧Tev.c_spec_GetPart.hand=hnd 327:=⟨aB Tryz.prog L rfl Tryz.func66 (by kernel_rfl),rfl⟩
theorem ok328:FnOk Tryz.prog L 328 Tev.c_spec_l6GetSum∧Tev.c_spec_l6GetSum.hand=hnd 328:=⟨aB Tryz.prog L rfl Tryz.func122 (by kernel_rfl),rfl⟩
theorem ok329:FnOk Tryz.prog L 329 Tev.c_impl_GetMsg∧Tev.c_impl_GetMsg.hand=hnd 329:=⟨aB Tryz.prog L rfl Tryz.func7 (by kernel_rfl),rfl⟩
theorem ok330:FnOk Tryz.prog L 330 Tev.c_impl_GetVar∧Tev.c_impl_GetVar.hand=hnd 330:=⟨aB Tryz.prog L rfl Tryz.func17 (by kernel_rfl),rfl⟩
theorem ok331:FnOk Tryz.prog L 331 Tev.c_impl_readMsg∧Tev.c_impl_readMsg.hand=hnd 331:=⟨aB Tryz.prog L rfl Tryz.func18 (by kernel_rfl),rfl⟩
theorem ok332:FnOk Tryz.prog L 332 Tev.c_impl_readVar∧Tev.c_impl_readVar.hand=hnd 332:=⟨aB Tryz.prog L rfl Tryz.func50 (by kernel_rfl),rfl⟩
theorem ok333:FnOk Tryz.prog L 333 Tev.c_impl_GetMan∧Tev.c_impl_GetMan.hand=hnd 333:=⟨aB Tryz.prog L rfl Tryz.func51 (by kernel_rfl),rfl⟩
theorem ok334:FnOk Tryz.prog L 334 Tev.c_impl_readVars∧Tev.c_impl_readVars.hand=hnd 334:=⟨aB Tryz.prog L rfl Tryz.func52 (by kernel_rfl),rfl⟩
theorem ok335:FnOk Tryz.prog L 335 Tev.c_impl_GetPart∧Tev.c_impl_GetPart.hand=hnd 335:=⟨aB Tryz.prog L rfl Tryz.func53 (by kernel_rfl),rfl⟩
theorem ok348:FnOk Tryz.prog L 348 Tev.c_spec_PathUp∧Tev.c_spec_PathUp.hand=hnd 348:=⟨aB Tryz.prog L rfl Tryz.func77 (by kernel_rfl),rfl⟩
theorem ok360:FnOk Tryz.prog L 360 Tev.c_impl_BuildOk∧Tev.c_impl_BuildOk.hand=hnd 360:=⟨aB Tryz.prog L rfl Tryz.func147 (by kernel_rfl),rfl⟩
theorem ok361:FnOk Tryz.prog L 361 Tev.c_impl_Build_block∧Tev.c_impl_Build_block.hand=hnd 361:=⟨aB Tryz.prog L rfl Tryz.func148 (by kernel_rfl),rfl⟩
theorem ok362:FnOk Tryz.prog L 362 Tev.c_slices_ContainsFunc_byte_byte∧Tev.c_slices_ContainsFunc_byte_byte.hand=hnd 362:=⟨aB Tryz.prog L rfl Tryz.func171 (by kernel_rfl),rfl⟩
theorem ok363:FnOk Tryz.prog L 363 Tev.c_impl_BuildOk_1∧Tev.c_impl_BuildOk_1.hand=hnd 363:=⟨aB Tryz.prog L rfl Tryz.func172 (by kernel_rfl),rfl⟩
theorem ok364:FnOk Tryz.prog L 364 Tev.c_slices_IndexFunc_byte_byte∧Tev.c_slices_IndexFunc_byte_byte.hand=hnd 364:=⟨aB Tryz.prog L rfl Tryz.func183 (by kernel_rfl),rfl⟩
theorem ok365:FnOk Tryz.prog L 365 Tev.c_spec_RootNode∧Tev.c_spec_RootNode.hand=hnd 365:=⟨aB Tryz.prog L rfl Tryz.func75 (by kernel_rfl),rfl⟩
theorem ok367:FnOk Tryz.prog L 367 Tev.c_spec_BuildFrom∧Tev.c_spec_BuildFrom.hand=hnd 367:=⟨aB Tryz.prog L rfl Tryz.func79 (by kernel_rfl),rfl⟩
theorem ok368:FnOk Tryz.prog L 368 Tev.c_spec_BuildNew∧Tev.c_spec_BuildNew.hand=hnd 368:=⟨aB Tryz.prog L rfl Tryz.func133 (by kernel_rfl),rfl⟩
theorem ok369:FnOk Tryz.prog L 369 Tev.c_spec_l8Put∧Tev.c_spec_l8Put.hand=hnd 369:=⟨aB Tryz.prog L rfl Tryz.func129 (by kernel_rfl),rfl⟩
theorem ok370:FnOk Tryz.prog L 370 Tev.c_impl_BuildFrom∧Tev.c_impl_BuildFrom.hand=hnd 370:=⟨aB Tryz.prog L rfl Tryz.func107 (by kernel_rfl),rfl⟩
theorem ok371:FnOk Tryz.prog L 371 Tev.c_impl_BuildNew∧Tev.c_impl_BuildNew.hand=hnd 371:=⟨aB Tryz.prog L rfl Tryz.func152 (by kernel_rfl),rfl⟩
theorem ok372:FnOk Tryz.prog L 372 Tev.c_impl_Build_put∧Tev.c_impl_Build_put.hand=hnd 372:=⟨aB Tryz.prog L rfl Tryz.func154 (by kernel_rfl),rfl⟩
theorem ok421:FnOk Tryz.prog L 421 Tev.c_spec_PartMsg∧Tev.c_spec_PartMsg.hand=hnd 421:=⟨aB Tryz.prog L rfl Tryz.func86 (by kernel_rfl),rfl⟩
theorem ok422:FnOk Tryz.prog L 422 Tev.c_impl_TakePart∧Tev.c_impl_TakePart.hand=hnd 422:=⟨aB Tryz.prog L rfl Tryz.func49 (by kernel_rfl),rfl⟩
theorem ok423:FnOk Tryz.prog L 423 Tev.c_impl_PutPiece∧Tev.c_impl_PutPiece.hand=hnd 423:=⟨aB Tryz.prog L rfl Tryz.func110 (by kernel_rfl),rfl⟩
theorem ok424:FnOk Tryz.prog L 424 Tev.c_impl_Forward∧Tev.c_impl_Forward.hand=hnd 424:=⟨aB Tryz.prog L rfl Tryz.func111 (by kernel_rfl),rfl⟩
theorem ok425:FnOk Tryz.prog L 425 Tev.c_impl_PieceAt∧Tev.c_impl_PieceAt.hand=hnd 425:=⟨aB Tryz.prog L rfl Tryz.func102 (by kernel_rfl),rfl⟩
theorem ok426:FnOk Tryz.prog L 426 Tev.c_impl_PartMsg∧Tev.c_impl_PartMsg.hand=hnd 426:=⟨aB Tryz.prog L rfl Tryz.func103 (by kernel_rfl),rfl⟩
theorem ok431:FnOk Tryz.prog L 431 Tev.c_impl_SendParts∧Tev.c_impl_SendParts.hand=hnd 431:=⟨aB Tryz.prog L rfl Tryz.func46 (by kernel_rfl),rfl⟩
theorem ok432:FnOk Tryz.prog L 432 Tev.c_spec_PartsIn∧Tev.c_spec_PartsIn.hand=hnd 432:=⟨aB Tryz.prog L rfl Tryz.func84 (by kernel_rfl),rfl⟩
theorem ok451:FnOk Tryz.prog L 451 Tev.c_impl_Take∧Tev.c_impl_Take.hand=hnd 451:=⟨aB Tryz.prog L rfl Tryz.func6 (by kernel_rfl),rfl⟩
theorem ok455:FnOk Tryz.prog L 455 Tev.c_impl_AnswerWant∧Tev.c_impl_AnswerWant.hand=hnd 455:=⟨aB Tryz.prog L rfl Tryz.func15 (by kernel_rfl),rfl⟩
theorem ok456:FnOk Tryz.prog L 456 Tev.c_impl_TakeDown∧Tev.c_impl_TakeDown.hand=hnd 456:=⟨aB Tryz.prog L rfl Tryz.func16 (by kernel_rfl),rfl⟩
theorem ok457:FnOk Tryz.prog L 457 Tev.c_impl_TakeMan∧Tev.c_impl_TakeMan.hand=hnd 457:=⟨aB Tryz.prog L rfl Tryz.func48 (by kernel_rfl),rfl⟩
theorem ok462:FnOk Tryz.prog L 462 Tev.c_spec_ManOf∧Tev.c_spec_ManOf.hand=hnd 462:=⟨aB Tryz.prog L rfl Tryz.func139 (by kernel_rfl),rfl⟩
theorem ok469:FnOk Tryz.prog L 469 Tev.c_spec_DiskNew∧Tev.c_spec_DiskNew.hand=hnd 469:=⟨aB Tryz.prog L rfl Tryz.func33 (by kernel_rfl),rfl⟩
theorem ok498:FnOk Tryz.prog L 498 Tev.c_spec_WantMsg∧Tev.c_spec_WantMsg.hand=hnd 498:=⟨aB Tryz.prog L rfl Tryz.func37 (by kernel_rfl),rfl⟩
theorem ok531:FnOk Tryz.prog L 531 Tev.c_spec_DrawTake∧Tev.c_spec_DrawTake.hand=hnd 531:=⟨aB Tryz.prog L rfl Tryz.func5 (by kernel_rfl),rfl⟩
theorem ok538:FnOk Tryz.prog L 538 Tev.c_laws_sameNode∧Tev.c_laws_sameNode.hand=hnd 538:=⟨aB Tryz.prog L rfl Tryz.func10 (by kernel_rfl),rfl⟩
theorem ok539:FnOk Tryz.prog L 539 Tev.c_spec_l18Draw∧Tev.c_spec_l18Draw.hand=hnd 539:=⟨aB Tryz.prog L rfl Tryz.func11 (by kernel_rfl),rfl⟩
theorem ok540:FnOk Tryz.prog L 540 Tev.c_spec_l18Packet∧Tev.c_spec_l18Packet.hand=hnd 540:=⟨aB Tryz.prog L rfl Tryz.func12 (by kernel_rfl),rfl⟩
theorem ok541:FnOk Tryz.prog L 541 Tev.c_spec_l15Draw∧Tev.c_spec_l15Draw.hand=hnd 541:=⟨aB Tryz.prog L rfl Tryz.func30 (by kernel_rfl),rfl⟩
theorem ok542:FnOk Tryz.prog L 542 Tev.c_spec_l15Any∧Tev.c_spec_l15Any.hand=hnd 542:=⟨aB Tryz.prog L rfl Tryz.func32 (by kernel_rfl),rfl⟩
theorem ok543:FnOk Tryz.prog L 543 Tev.c_spec_l3Bytes∧Tev.c_spec_l3Bytes.hand=hnd 543:=⟨aB Tryz.prog L rfl Tryz.func34 (by kernel_rfl),rfl⟩
theorem ok544:FnOk Tryz.prog L 544 Tev.c_spec_l6Any∧Tev.c_spec_l6Any.hand=hnd 544:=⟨aB Tryz.prog L rfl Tryz.func80 (by kernel_rfl),rfl⟩
theorem ok545:FnOk Tryz.prog L 545 Tev.c_spec_l6Draw∧Tev.c_spec_l6Draw.hand=hnd 545:=⟨aB Tryz.prog L rfl Tryz.func89 (by kernel_rfl),rfl⟩
theorem ok546:FnOk Tryz.prog L 546 Tev.c_spec_l6Image∧Tev.c_spec_l6Image.hand=hnd 546:=⟨aB Tryz.prog L rfl Tryz.func138 (by kernel_rfl),rfl⟩
theorem ok547:FnOk Tryz.prog L 547 Tev.c_spec_l13Draw∧Tev.c_spec_l13Draw.hand=hnd 547:=⟨aB Tryz.prog L rfl Tryz.func73 (by kernel_rfl),rfl⟩
theorem ok548:FnOk Tryz.prog L 548 Tev.c_spec_l8Draw∧Tev.c_spec_l8Draw.hand=hnd 548:=⟨aB Tryz.prog L rfl Tryz.func74 (by kernel_rfl),rfl⟩
theorem ok549:FnOk Tryz.prog L 549 Tev.c_spec_l15Kids∧Tev.c_spec_l15Kids.hand=hnd 549:=⟨aB Tryz.prog L rfl Tryz.func76 (by kernel_rfl),rfl⟩
theorem ok550:FnOk Tryz.prog L 550 Tev.c_spec_l7Old∧Tev.c_spec_l7Old.hand=hnd 550:=⟨aB Tryz.prog L rfl Tryz.func127 (by kernel_rfl),rfl⟩
theorem ok551:FnOk Tryz.prog L 551 Tev.c_spec_l1Bent∧Tev.c_spec_l1Bent.hand=hnd 551:=⟨aB Tryz.prog L rfl Tryz.func40 (by kernel_rfl),rfl⟩
theorem ok552:FnOk Tryz.prog L 552 Tev.c_spec_l17Part∧Tev.c_spec_l17Part.hand=hnd 552:=⟨aB Tryz.prog L rfl Tryz.func35 (by kernel_rfl),rfl⟩
theorem ok553:FnOk Tryz.prog L 553 Tev.c_spec_l12Draw∧Tev.c_spec_l12Draw.hand=hnd 553:=⟨aB Tryz.prog L rfl Tryz.func38 (by kernel_rfl),rfl⟩
theorem ok556:FnOk Tryz.prog L 556 Tev.c_laws_sameMan∧Tev.c_laws_sameMan.hand=hnd 556:=⟨aB Tryz.prog L rfl Tryz.func26 (by kernel_rfl),rfl⟩
theorem ok557:FnOk Tryz.prog L 557 Tev.c_laws_sameBuild∧Tev.c_laws_sameBuild.hand=hnd 557:=⟨aB Tryz.prog L rfl Tryz.func27 (by kernel_rfl),rfl⟩
theorem ok558:FnOk Tryz.prog L 558 Tev.c_laws_sameSums∧Tev.c_laws_sameSums.hand=hnd 558:=⟨aB Tryz.prog L rfl Tryz.func71 (by kernel_rfl),rfl⟩
theorem ok559:FnOk Tryz.prog L 559 Tev.c_laws_same∧Tev.c_laws_same.hand=hnd 559:=⟨aB Tryz.prog L rfl Tryz.func72 (by kernel_rfl),rfl⟩
theorem ok595:FnOk Tryz.prog L 595 Tev.c_laws_FnTwice∧Tev.c_laws_FnTwice.hand=hnd 595:=⟨aB Tryz.prog L rfl Tryz.func3 (by kernel_rfl),rfl⟩
theorem okg0:∀ f fn,Tev.tbl0 f=some fn→FnOk Tryz.prog L f fn∧fn.hand=hnd f:=by
 intro f fn h
 unfold Tev.tbl0 at h
 split at h<;>try cases h
 ·exact ok1
 ·exact ok2
 ·exact ok14
 ·exact ok15
 ·exact ok25
 ·exact ok26
 ·exact ok29
 ·exact ok30
 ·exact ok31
 ·exact ok32
 ·exact ok36
 ·exact ok37
 ·exact ok42
 ·exact ok72
 ·exact ok81
 ·exact ok89
 ·exact ok90
 ·exact ok91
 ·exact ok92
 ·exact ok93
 ·exact ok94
 ·exact ok97
 ·exact ok102
 ·exact ok113
 ·exact ok114
 ·exact ok115
 ·exact ok116
 ·exact ok123
 ·exact ok128
 ·exact ok132
 ·exact ok134
 ·exact ok135
 ·exact ok146
 ·exact ok149
 ·exact ok155
 ·exact ok156
 ·exact ok157
 ·exact ok158
 ·exact ok159
 ·exact ok160
 ·exact ok161
 ·exact ok162
 ·exact ok163
 ·exact ok164
 ·exact ok191
 ·exact ok193
 ·exact ok194
 ·exact ok195
 ·exact ok196
 ·exact ok197
 ·exact ok198
 ·exact ok199
 ·exact ok200
 ·exact ok213
 ·exact ok215
 ·exact ok216
 ·exact ok217
 ·exact ok218
 ·exact ok233
 ·exact ok234
 ·exact ok235
 ·exact ok236
 ·exact ok237
 ·exact ok238
 ·exact ok239
 ·exact ok240
 ·exact ok241
 ·exact ok242
 ·exact ok243
 ·exact ok244
theorem okg1:∀ f fn,Tev.tbl1 f=some fn→FnOk Tryz.prog L f fn∧fn.hand=hnd f:=by
 intro f fn h
 unfold Tev.tbl1 at h
 split at h<;>try cases h
 ·exact ok245
 ·exact ok246
 ·exact ok247
 ·exact ok248
 ·exact ok249
 ·exact ok250
 ·exact ok251
 ·exact ok252
 ·exact ok253
 ·exact ok254
 ·exact ok255
 ·exact ok256
 ·exact ok257
 ·exact ok258
 ·exact ok262
 ·exact ok263
 ·exact ok264
 ·exact ok265
 ·exact ok266
 ·exact ok267
 ·exact ok268
 ·exact ok271
 ·exact ok272
 ·exact ok285
 ·exact ok286
 ·exact ok288
 ·exact ok290
 ·exact ok295
 ·exact ok296
 ·exact ok301
 ·exact ok302
 ·exact ok303
 ·exact ok304
 ·exact ok305
 ·exact ok306
 ·exact ok307
 ·exact ok308
 ·exact ok309
 ·exact ok310
 ·exact ok311
 ·exact ok312
 ·exact ok313
 ·exact ok314
 ·exact ok315
 ·exact ok316
 ·exact ok317
 ·exact ok318
 ·exact ok319
 ·exact ok320
 ·exact ok322
 ·exact ok323
 ·exact ok324
 ·exact ok325
 ·exact ok326
 ·exact ok327
 ·exact ok328
 ·exact ok329
 ·exact ok330
 ·exact ok331
 ·exact ok332
 ·exact ok333
 ·exact ok334
 ·exact ok335
 ·exact ok348
 ·exact ok360
 ·exact ok361
 ·exact ok362
 ·exact ok363
 ·exact ok364
 ·exact ok365
theorem okg2:∀ f fn,Tev.tbl2 f=some fn→FnOk Tryz.prog L f fn∧fn.hand=hnd f:=by
 intro f fn h
 unfold Tev.tbl2 at h
 split at h<;>try cases h
 ·exact ok367
 ·exact ok368
 ·exact ok369
 ·exact ok370
 ·exact ok371
 ·exact ok372
 ·exact ok421
 ·exact ok422
 ·exact ok423
 ·exact ok424
 ·exact ok425
 ·exact ok426
 ·exact ok431
 ·exact ok432
 ·exact ok451
 ·exact ok455
 ·exact ok456
 ·exact ok457
 ·exact ok462
 ·exact ok469
 ·exact ok498
 ·exact ok531
 ·exact ok538
 ·exact ok539
 ·exact ok540
 ·exact ok541
 ·exact ok542
 ·exact ok543
 ·exact ok544
 ·exact ok545
 ·exact ok546
 ·exact ok547
 ·exact ok548
 ·exact ok549
 ·exact ok550
 ·exact ok551
 ·exact ok552
 ·exact ok553
 ·exact ok556
 ·exact ok557
 ·exact ok558
 ·exact ok559
 ·exact ok595
theorem ok:∀ f fn,tbl f=some fn→FnOk Tryz.prog L f fn∧fn.hand=hnd f:=by
 intro f fn h
 unfold tbl at h
 cases q0:Nat.blt f 245
 case true=>rw[q0,Tev.cif_true]at h;exact okg0 f fn h
 rw[q0,Tev.cif_false]at h
 cases q1:Nat.blt f 367
 case true=>rw[q1,Tev.cif_true]at h;exact okg1 f fn h
 rw[q1,Tev.cif_false]at h
 exact okg2 f fn h
noncomputable def E:Tev.Env:=Tev.EV tbl hnd Tev.aM5
theorem xok117:Tev.FOK Tryz.prog L Tev.aM5 117 (hnd 117):=Tev.aMM ⟨_,_,Tryz.func98,rfl,by kernel_rfl⟩ ins_all (fun _=>rfl)
theorem xok:∀ f,tbl f=none→Tev.FOK Tryz.prog L Tev.aM5 f (hnd f):=by
 intro f _
 by_cases h117:f=117
 ·subst h117;exact xok117
 intro w ow0 args vs r hr
 have hr:Tev.aM5 f args=some r:=hr
 unfold Tev.aM5 at hr
 simp only[if_neg h117]at hr
 cases hr
theorem holds:∀ f,Tev.FOK Tryz.prog L E f (hnd f):=Tev.aPp ok xok
theorem sys:Tev.Sys E:=⟨fun f c args r hf h=>(Tev.aPq (F:=tbl) (hand:=hnd) (ext:=Tev.aM5) (f:=f) (fn:=c) (args:=args) (h:=hf)).trans h,fun args r h=>(Tev.aOf (F:=tbl) (hand:=hnd) (ext:=Tev.aM5) (f:=117) (args:=args) (h:=rfl)).trans h⟩
theorem shapes:Tryz.f3.params.toList.all (fun t=>(Tev.aDP Tryz.prog 12 t).isSome&&decide (t<Tryz.prog.types.size))=true:=by kernel_rfl
theorem sh22:Tev.aDP Tryz.prog 12 22=some [.sl [.int .u8] 1]:=by kernel_rfl
theorem ag22:Tev.aPL Tryz.prog 22=false:=by kernel_rfl
theorem runs (As:List Tev.A) (h:Tev.All2 (Tev.aLX Tryz.prog) Tryz.f3.params.toList As):∃ u,E 595 As=some ([.v false [.t (.bool true)]],u):=by
 rw[Tryz.params3]at h
 obtain⟨_,_,rfl,h0,t0⟩:=Tev.aJu h
 obtain⟨_,rfl,g0⟩:=Tev.aLB h0 sh22 ag22
 obtain⟨x0,rfl,l0⟩:=Tev.aJv g0
 obtain rfl:=Tev.aNF t0
 exact⟨_,Tev.aLz sys x0 l0⟩
theorem lifted (os:Os) (started:os.Started) (H:Type) (enc:TypeId × Value→H) :
 ReturnsInHanded {} Tryz.checked os 3 .any (Rows.fnTwiceSpec.pre6 enc Tryz.prog Tryz.f3 Rows.fnTwiceRow.domain false) (Rows.fnTwiceSpec.post enc Tryz.prog Tryz.f3 false true false false):=by
 refine returnsInHanded_of_change_sized (C:=Tryz.checked) own started (by kernel_rfl) Tryz.func3
  (ChangeSpec.witness6 (enc:=enc) (C:=Tryz.checked) false ⟨#[],#[.slice none 0 0],[]⟩ 8 (by kernel_rfl) (by kernel_rfl) (by kernel_rfl) (by kernel_rfl)) ?_
 intro W base args ds gs before hval hW _ hsz _
 refine Tev.aKI (P:=Tryz.prog) (L:=L) (E:=E) (f0:=595) rfl (holds 595) types (by kernel_rfl) (t:=4) (by kernel_rfl) Tryz.underlying4 (fun t ht=>?_) (fun ds hd=>?_) runs hval hW hsz
 ·have:=List.all_eq_true.mp shapes t ht
  simpa using this
 ·rw[Tryz.params3]at hd
  rcases ds with _|⟨d0,_|⟨d1,r⟩⟩<;>first|exact⟨rfl,rfl,rfl⟩|cases hd
theorem over:Rows.fnTwiceRow.holds Tryz.pinned (OpenSpec.ofChange Rows.fnTwiceSpec) :=
 OpenClaim.holds_of_wide 3 Tryz.f3 rfl rfl rfl rfl rfl rfl rfl ⟨rfl,rfl,rfl,rfl,rfl⟩ rfl rfl rfl rfl rfl (by kernel_rfl) Tryz.func3 (by kernel_rfl)
  (of_decide_eq_true (by kernel_rfl)) (by unfold Func.isWrapper;first|(rw[if_pos (by decide +kernel)];kernel_rfl)|(rw[if_neg (by decide +kernel)];exact⟨rfl,rfl⟩))
  (fun os started H enc _=>lifted os started H enc)
theorem proved:Rows.FnTwiceSaid:=over
#print axioms proved
end Go.Proofs.YtilhpmmecmeedaaGreat.fnTwice
namespace Go.Proofs.YtilhpmmecmeedaaGreat
theorem fnTwice_holds:Rows.FnTwiceSaid:=fnTwice.proved
end Go.Proofs.YtilhpmmecmeedaaGreat
