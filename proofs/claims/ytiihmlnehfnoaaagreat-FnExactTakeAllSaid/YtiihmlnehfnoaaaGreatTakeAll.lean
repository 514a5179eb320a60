/- The law FnExactTakeAll holds: whatever the input, it returns true, and the input reads as it did. Conditions: none beside those of the statement. -/
import Derived.Test.YtiihmlnehfnoaaaGreatRows
import Derived.Test.YtiihmlnehfnoaaaGreatChecked
import Derived.Test.YtiihmlnehfnoaaaGreatTakeAllX117
import Derived.WalkKit
import Derived.ProofKit
import Derived.OpenShut
import Derived.ShutString
import Derived.ChangeOld
import Derived.Below
import Derived.SizedLaws
import Derived.KernelRfl
namespace Go.Proofs.YtiihmlnehfnoaaaGreat.fnExactTakeAll
open Go.ChangeShapes Go.WideShapes Go.ChangeAt Go.RowKit
open Tev (FnOk aB tbl hnd)
set_option linter.unusedVariables false
set_option maxRecDepth 100000
set_option maxHeartbeats 20000000
def L:Nat→FuncId
 |1=>65
 |2=>104
 |9=>29
 |10=>31
 |12=>38
 |13=>41
 |14=>140
 |15=>102
 |18=>48
 |19=>51
 |20=>7
 |21=>12
 |24=>18
 |25=>117
 |26=>116
 |27=>70
 |29=>148
 |30=>74
 |31=>147
 |32=>138
 |33=>80
 |34=>28
 |35=>37
 |36=>124
 |37=>156
 |38=>47
 |39=>55
 |40=>85
 |42=>98
 |47=>56
 |48=>86
 |51=>22
 |52=>59
 |53=>60
 |54=>26
 |55=>27
 |56=>96
 |57=>69
 |58=>35
 |59=>36
 |60=>110
 |61=>79
 |62=>45
 |63=>46
 |64=>5
 |65=>10
 |68=>16
 |71=>120
 |72=>152
 |75=>82
 |76=>53
 |77=>54
 |78=>111
 |79=>83
 |80=>84
 |83=>20
 |84=>58
 |89=>226
 |90=>208
 |91=>207
 |93=>229
 |94=>217
 |102=>192
 |113=>91
 |114=>105
 |115=>146
 |116=>149
 |117=>150
 |123=>182
 |128=>139
 |132=>128
 |134=>153
 |135=>161
 |136=>4
 |137=>9
 |140=>15
 |141=>19
 |142=>25
 |144=>34
 |146=>76
 |147=>44
 |148=>52
 |166=>6
 |167=>11
 |170=>17
 |171=>21
 |173=>30
 |174=>61
 |177=>176
 |180=>210
 |181=>177
 |182=>211
 |184=>39
 |185=>40
 |186=>71
 |191=>198
 |193=>220
 |194=>199
 |195=>221
 |196=>222
 |197=>232
 |198=>137
 |199=>231
 |200=>223
 |202=>49
 |203=>50
 |204=>81
 |205=>57
 |212=>32
 |213=>62
 |214=>63
 |215=>42
 |216=>72
 |217=>73
 |218=>97
 |232=>125
 |233=>127
 |234=>181
 |235=>168
 |236=>164
 |237=>213
 |238=>167
 |239=>169
 |240=>204
 |241=>170
 |242=>205
 |243=>90
 |244=>160
 |245=>158
 |246=>203
 |247=>225
 |248=>197
 |249=>183
 |250=>233
 |251=>185
 |252=>188
 |253=>214
 |254=>189
 |255=>186
 |256=>145
 |257=>191
 |258=>215
 |262=>179
 |263=>212
 |264=>227
 |265=>234
 |266=>235
 |267=>236
 |268=>237
 |271=>201
 |272=>224
 |285=>114
 |286=>157
 |290=>151
 |291=>119
 |295=>92
 |296=>107
 |301=>118
 |302=>89
 |303=>171
 |304=>172
 |305=>173
 |306=>174
 |307=>115
 |308=>166
 |309=>206
 |310=>103
 |311=>101
 |312=>141
 |313=>142
 |314=>143
 |315=>144
 |316=>135
 |317=>136
 |318=>187
 |319=>184
 |320=>190
 |323=>64
 |324=>87
 |325=>88
 |326=>112
 |327=>113
 |328=>165
 |329=>75
 |330=>99
 |331=>100
 |332=>131
 |333=>132
 |334=>133
 |335=>134
 |346=>175
 |350=>209
 |360=>195
 |361=>196
 |362=>218
 |363=>219
 |364=>230
 |367=>126
 |368=>178
 |369=>180
 |370=>159
 |371=>200
 |372=>202
 |416=>95
 |417=>66
 |418=>129
 |419=>130
 |420=>122
 |421=>123
 |422=>109
 |423=>162
 |424=>163
 |425=>154
 |426=>155
 |427=>14
 |428=>23
 |429=>24
 |430=>93
 |431=>106
 |432=>121
 |450=>33
 |451=>43
 |452=>67
 |453=>68
 |454=>94
 |455=>77
 |456=>78
 |457=>108
 |458=>8
 |459=>13
 |520=>3
 |_=>0
theorem own:ownKnob Tryz.prog.godebug=none:=by kernel_rfl
theorem types:Tev.TypesOk Tryz.prog:=⟨by kernel_rfl,by kernel_rfl,by kernel_rfl⟩
theorem ok1:FnOk Tryz.prog L 1 Tev.c_spec_l1In∧Tev.c_spec_l1In.hand=hnd 1:=⟨aB Tryz.prog L rfl Tryz.func65 (by kernel_rfl),rfl⟩
theorem ok2:FnOk Tryz.prog L 2 Tev.c_impl_within∧Tev.c_impl_within.hand=hnd 2:=⟨aB Tryz.prog L rfl Tryz.func104 (by kernel_rfl),rfl⟩
theorem ok9:FnOk Tryz.prog L 9 Tev.c_laws_szByteS∧Tev.c_laws_szByteS.hand=hnd 9:=⟨aB Tryz.prog L rfl Tryz.func29 (by kernel_rfl),rfl⟩
theorem ok10:FnOk Tryz.prog L 10 Tev.c_laws_szPacket∧Tev.c_laws_szPacket.hand=hnd 10:=⟨aB Tryz.prog L rfl Tryz.func31 (by kernel_rfl),rfl⟩
theorem ok12:FnOk Tryz.prog L 12 Tev.c_laws_toByteS∧Tev.c_laws_toByteS.hand=hnd 12:=⟨aB Tryz.prog L rfl Tryz.func38 (by kernel_rfl),rfl⟩
theorem ok13:FnOk Tryz.prog L 13 Tev.c_laws_toPacket∧Tev.c_laws_toPacket.hand=hnd 13:=⟨aB Tryz.prog L rfl Tryz.func41 (by kernel_rfl),rfl⟩
theorem ok14:FnOk Tryz.prog L 14 Tev.c_bytes_Equal∧Tev.c_bytes_Equal.hand=hnd 14:=⟨aB Tryz.prog L rfl Tryz.func140 (by kernel_rfl),rfl⟩
theorem ok15:FnOk Tryz.prog L 15 Tev.c_impl_SameBytes∧Tev.c_impl_SameBytes.hand=hnd 15:=⟨aB Tryz.prog L rfl Tryz.func102 (by kernel_rfl),rfl⟩
theorem ok18:FnOk Tryz.prog L 18 Tev.c_laws_eqByteS∧Tev.c_laws_eqByteS.hand=hnd 18:=⟨aB Tryz.prog L rfl Tryz.func48 (by kernel_rfl),rfl⟩
theorem ok19:FnOk Tryz.prog L 19 Tev.c_laws_eqPacket∧Tev.c_laws_eqPacket.hand=hnd 19:=⟨aB Tryz.prog L rfl Tryz.func51 (by kernel_rfl),rfl⟩
theorem ok20:FnOk Tryz.prog L 20 Tev.c_laws_szPacketS∧Tev.c_laws_szPacketS.hand=hnd 20:=⟨aB Tryz.prog L rfl Tryz.func7 (by kernel_rfl),rfl⟩
theorem ok21:FnOk Tryz.prog L 21 Tev.c_laws_toPacketS∧Tev.c_laws_toPacketS.hand=hnd 21:=⟨aB Tryz.prog L rfl Tryz.func12 (by kernel_rfl),rfl⟩
theorem ok24:FnOk Tryz.prog L 24 Tev.c_laws_eqPacketS∧Tev.c_laws_eqPacketS.hand=hnd 24:=⟨aB Tryz.prog L rfl Tryz.func18 (by kernel_rfl),rfl⟩
theorem ok25:FnOk Tryz.prog L 25 Tev.c_spec_KidAt∧Tev.c_spec_KidAt.hand=hnd 25:=⟨aB Tryz.prog L rfl Tryz.func117 (by kernel_rfl),rfl⟩
theorem ok26:FnOk Tryz.prog L 26 Tev.c_spec_SetOk∧Tev.c_spec_SetOk.hand=hnd 26:=⟨aB Tryz.prog L rfl Tryz.func116 (by kernel_rfl),rfl⟩
theorem ok27:FnOk Tryz.prog L 27 Tev.c_laws_toKid∧Tev.c_laws_toKid.hand=hnd 27:=⟨aB Tryz.prog L rfl Tryz.func70 (by kernel_rfl),rfl⟩
theorem ok29:FnOk Tryz.prog L 29 Tev.c_slices_IndexFunc_impl_Kid_impl_Kid∧Tev.c_slices_IndexFunc_impl_Kid_impl_Kid.hand=hnd 29:=⟨aB Tryz.prog L rfl Tryz.func148 (by kernel_rfl),rfl⟩
theorem ok30:FnOk Tryz.prog L 30 Tev.c_slices_Clone_impl_Kid_impl_Kid∧Tev.c_slices_Clone_impl_Kid_impl_Kid.hand=hnd 30:=⟨aB Tryz.prog L rfl Tryz.func74 (by kernel_rfl),rfl⟩
theorem ok31:FnOk Tryz.prog L 31 Tev.c_impl_KidAt∧Tev.c_impl_KidAt.hand=hnd 31:=⟨aB Tryz.prog L rfl Tryz.func147 (by kernel_rfl),rfl⟩
theorem ok32:FnOk Tryz.prog L 32 Tev.c_impl_SetOk∧Tev.c_impl_SetOk.hand=hnd 32:=⟨aB Tryz.prog L rfl Tryz.func138 (by kernel_rfl),rfl⟩
theorem ok33:FnOk Tryz.prog L 33 Tev.c_laws_eqKid∧Tev.c_laws_eqKid.hand=hnd 33:=⟨aB Tryz.prog L rfl Tryz.func80 (by kernel_rfl),rfl⟩
theorem ok34:FnOk Tryz.prog L 34 Tev.c_laws_szKidS∧Tev.c_laws_szKidS.hand=hnd 34:=⟨aB Tryz.prog L rfl Tryz.func28 (by kernel_rfl),rfl⟩
theorem ok35:FnOk Tryz.prog L 35 Tev.c_laws_toKidS∧Tev.c_laws_toKidS.hand=hnd 35:=⟨aB Tryz.prog L rfl Tryz.func37 (by kernel_rfl),rfl⟩
theorem ok36:FnOk Tryz.prog L 36 Tev.c_spec_MarkSent∧Tev.c_spec_MarkSent.hand=hnd 36:=⟨aB Tryz.prog L rfl Tryz.func124 (by kernel_rfl),rfl⟩
theorem ok37:FnOk Tryz.prog L 37 Tev.c_impl_MarkSent∧Tev.c_impl_MarkSent.hand=hnd 37:=⟨aB Tryz.prog L rfl Tryz.func156 (by kernel_rfl),rfl⟩
theorem ok38:FnOk Tryz.prog L 38 Tev.c_laws_eqKidS∧Tev.c_laws_eqKidS.hand=hnd 38:=⟨aB Tryz.prog L rfl Tryz.func47 (by kernel_rfl),rfl⟩
theorem ok39:FnOk Tryz.prog L 39 Tev.c_laws_markKidS∧Tev.c_laws_markKidS.hand=hnd 39:=⟨aB Tryz.prog L rfl Tryz.func55 (by kernel_rfl),rfl⟩
theorem ok40:FnOk Tryz.prog L 40 Tev.c_laws_heldKidS∧Tev.c_laws_heldKidS.hand=hnd 40:=⟨aB Tryz.prog L rfl Tryz.func85 (by kernel_rfl),rfl⟩
theorem ok42:FnOk Tryz.prog L 42 Tev.c_impl_cloned∧Tev.c_impl_cloned.hand=hnd 42:=⟨aB Tryz.prog L rfl Tryz.func98 (by kernel_rfl),rfl⟩
theorem ok47:FnOk Tryz.prog L 47 Tev.c_laws_markByteS∧Tev.c_laws_markByteS.hand=hnd 47:=⟨aB Tryz.prog L rfl Tryz.func56 (by kernel_rfl),rfl⟩
theorem ok48:FnOk Tryz.prog L 48 Tev.c_laws_heldByteS∧Tev.c_laws_heldByteS.hand=hnd 48:=⟨aB Tryz.prog L rfl Tryz.func86 (by kernel_rfl),rfl⟩
theorem ok51:FnOk Tryz.prog L 51 Tev.c_laws_markPacketS∧Tev.c_laws_markPacketS.hand=hnd 51:=⟨aB Tryz.prog L rfl Tryz.func22 (by kernel_rfl),rfl⟩
theorem ok52:FnOk Tryz.prog L 52 Tev.c_laws_heldPacketS∧Tev.c_laws_heldPacketS.hand=hnd 52:=⟨aB Tryz.prog L rfl Tryz.func59 (by kernel_rfl),rfl⟩
theorem ok53:FnOk Tryz.prog L 53 Tev.c_laws_szSumS∧Tev.c_laws_szSumS.hand=hnd 53:=⟨aB Tryz.prog L rfl Tryz.func60 (by kernel_rfl),rfl⟩
theorem ok54:FnOk Tryz.prog L 54 Tev.c_laws_szManifest∧Tev.c_laws_szManifest.hand=hnd 54:=⟨aB Tryz.prog L rfl Tryz.func26 (by kernel_rfl),rfl⟩
theorem ok55:FnOk Tryz.prog L 55 Tev.c_laws_szBuild∧Tev.c_laws_szBuild.hand=hnd 55:=⟨aB Tryz.prog L rfl Tryz.func27 (by kernel_rfl),rfl⟩
theorem ok56:FnOk Tryz.prog L 56 Tev.c_laws_toSum∧Tev.c_laws_toSum.hand=hnd 56:=⟨aB Tryz.prog L rfl Tryz.func96 (by kernel_rfl),rfl⟩
theorem ok57:FnOk Tryz.prog L 57 Tev.c_laws_toSumS∧Tev.c_laws_toSumS.hand=hnd 57:=⟨aB Tryz.prog L rfl Tryz.func69 (by kernel_rfl),rfl⟩
theorem ok58:FnOk Tryz.prog L 58 Tev.c_laws_toManifest∧Tev.c_laws_toManifest.hand=hnd 58:=⟨aB Tryz.prog L rfl Tryz.func35 (by kernel_rfl),rfl⟩
theorem ok59:FnOk Tryz.prog L 59 Tev.c_laws_toBuild∧Tev.c_laws_toBuild.hand=hnd 59:=⟨aB Tryz.prog L rfl Tryz.func36 (by kernel_rfl),rfl⟩
theorem ok60:FnOk Tryz.prog L 60 Tev.c_laws_eqSum∧Tev.c_laws_eqSum.hand=hnd 60:=⟨aB Tryz.prog L rfl Tryz.func110 (by kernel_rfl),rfl⟩
theorem ok61:FnOk Tryz.prog L 61 Tev.c_laws_eqSumS∧Tev.c_laws_eqSumS.hand=hnd 61:=⟨aB Tryz.prog L rfl Tryz.func79 (by kernel_rfl),rfl⟩
theorem ok62:FnOk Tryz.prog L 62 Tev.c_laws_eqManifest∧Tev.c_laws_eqManifest.hand=hnd 62:=⟨aB Tryz.prog L rfl Tryz.func45 (by kernel_rfl),rfl⟩
theorem ok63:FnOk Tryz.prog L 63 Tev.c_laws_eqBuild∧Tev.c_laws_eqBuild.hand=hnd 63:=⟨aB Tryz.prog L rfl Tryz.func46 (by kernel_rfl),rfl⟩
theorem ok64:FnOk Tryz.prog L 64 Tev.c_laws_szNode∧Tev.c_laws_szNode.hand=hnd 64:=⟨aB Tryz.prog L rfl Tryz.func5 (by kernel_rfl),rfl⟩
theorem ok65:FnOk Tryz.prog L 65 Tev.c_laws_toNode∧Tev.c_laws_toNode.hand=hnd 65:=⟨aB Tryz.prog L rfl Tryz.func10 (by kernel_rfl),rfl⟩
theorem ok68:FnOk Tryz.prog L 68 Tev.c_laws_eqNode∧Tev.c_laws_eqNode.hand=hnd 68:=⟨aB Tryz.prog L rfl Tryz.func16 (by kernel_rfl),rfl⟩
theorem ok71:FnOk Tryz.prog L 71 Tev.c_spec_HaveOf∧Tev.c_spec_HaveOf.hand=hnd 71:=⟨aB Tryz.prog L rfl Tryz.func120 (by kernel_rfl),rfl⟩
theorem ok72:FnOk Tryz.prog L 72 Tev.c_impl_HaveOf∧Tev.c_impl_HaveOf.hand=hnd 72:=⟨aB Tryz.prog L rfl Tryz.func152 (by kernel_rfl),rfl⟩
theorem ok75:FnOk Tryz.prog L 75 Tev.c_laws_markSumS∧Tev.c_laws_markSumS.hand=hnd 75:=⟨aB Tryz.prog L rfl Tryz.func82 (by kernel_rfl),rfl⟩
theorem ok76:FnOk Tryz.prog L 76 Tev.c_laws_markManifest∧Tev.c_laws_markManifest.hand=hnd 76:=⟨aB Tryz.prog L rfl Tryz.func53 (by kernel_rfl),rfl⟩
theorem ok77:FnOk Tryz.prog L 77 Tev.c_laws_markBuild∧Tev.c_laws_markBuild.hand=hnd 77:=⟨aB Tryz.prog L rfl Tryz.func54 (by kernel_rfl),rfl⟩
theorem ok78:FnOk Tryz.prog L 78 Tev.c_laws_heldSumS∧Tev.c_laws_heldSumS.hand=hnd 78:=⟨aB Tryz.prog L rfl Tryz.func111 (by kernel_rfl),rfl⟩
theorem ok79:FnOk Tryz.prog L 79 Tev.c_laws_heldManifest∧Tev.c_laws_heldManifest.hand=hnd 79:=⟨aB Tryz.prog L rfl Tryz.func83 (by kernel_rfl),rfl⟩
theorem ok80:FnOk Tryz.prog L 80 Tev.c_laws_heldBuild∧Tev.c_laws_heldBuild.hand=hnd 80:=⟨aB Tryz.prog L rfl Tryz.func84 (by kernel_rfl),rfl⟩
theorem ok83:FnOk Tryz.prog L 83 Tev.c_laws_markNode∧Tev.c_laws_markNode.hand=hnd 83:=⟨aB Tryz.prog L rfl Tryz.func20 (by kernel_rfl),rfl⟩
theorem ok84:FnOk Tryz.prog L 84 Tev.c_laws_heldNode∧Tev.c_laws_heldNode.hand=hnd 84:=⟨aB Tryz.prog L rfl Tryz.func58 (by kernel_rfl),rfl⟩
theorem ok89:FnOk Tryz.prog L 89 Tev.c_spec_FullSet∧Tev.c_spec_FullSet.hand=hnd 89:=⟨aB Tryz.prog L rfl Tryz.func226 (by kernel_rfl),rfl⟩
theorem ok90:FnOk Tryz.prog L 90 Tev.c_spec_AllParts∧Tev.c_spec_AllParts.hand=hnd 90:=⟨aB Tryz.prog L rfl Tryz.func208 (by kernel_rfl),rfl⟩
theorem ok91:FnOk Tryz.prog L 91 Tev.c_spec_Without∧Tev.c_spec_Without.hand=hnd 91:=⟨aB Tryz.prog L rfl Tryz.func207 (by kernel_rfl),rfl⟩
theorem ok93:FnOk Tryz.prog L 93 Tev.c_impl_FullSet∧Tev.c_impl_FullSet.hand=hnd 93:=⟨aB Tryz.prog L rfl Tryz.func229 (by kernel_rfl),rfl⟩
theorem ok94:FnOk Tryz.prog L 94 Tev.c_impl_AllParts∧Tev.c_impl_AllParts.hand=hnd 94:=⟨aB Tryz.prog L rfl Tryz.func217 (by kernel_rfl),rfl⟩
theorem ok102:FnOk Tryz.prog L 102 Tev.c_impl_KidAt_1∧Tev.c_impl_KidAt_1.hand=hnd 102:=⟨aB Tryz.prog L rfl Tryz.func192 (by kernel_rfl),rfl⟩
theorem ok113:FnOk Tryz.prog L 113 Tev.c_spec_Hear∧Tev.c_spec_Hear.hand=hnd 113:=⟨aB Tryz.prog L rfl Tryz.func91 (by kernel_rfl),rfl⟩
theorem ok114:FnOk Tryz.prog L 114 Tev.c_impl_Hear∧Tev.c_impl_Hear.hand=hnd 114:=⟨aB Tryz.prog L rfl Tryz.func105 (by kernel_rfl),rfl⟩
theorem ok115:FnOk Tryz.prog L 115 Tev.c_impl_isId∧Tev.c_impl_isId.hand=hnd 115:=⟨aB Tryz.prog L rfl Tryz.func146 (by kernel_rfl),rfl⟩
theorem ok116:FnOk Tryz.prog L 116 Tev.c_impl_Hear_1∧Tev.c_impl_Hear_1.hand=hnd 116:=⟨aB Tryz.prog L rfl Tryz.func149 (by kernel_rfl),rfl⟩
theorem ok123:FnOk Tryz.prog L 123 Tev.c_spec_WithPart∧Tev.c_spec_WithPart.hand=hnd 123:=⟨aB Tryz.prog L rfl Tryz.func182 (by kernel_rfl),rfl⟩
theorem ok128:FnOk Tryz.prog L 128 Tev.c_impl_isPlace∧Tev.c_impl_isPlace.hand=hnd 128:=⟨aB Tryz.prog L rfl Tryz.func139 (by kernel_rfl),rfl⟩
theorem ok132:FnOk Tryz.prog L 132 Tev.c_spec_InSet∧Tev.c_spec_InSet.hand=hnd 132:=⟨aB Tryz.prog L rfl Tryz.func128 (by kernel_rfl),rfl⟩
theorem ok134:FnOk Tryz.prog L 134 Tev.c_impl_PartsIn∧Tev.c_impl_PartsIn.hand=hnd 134:=⟨aB Tryz.prog L rfl Tryz.func153 (by kernel_rfl),rfl⟩
theorem ok135:FnOk Tryz.prog L 135 Tev.c_impl_InSet∧Tev.c_impl_InSet.hand=hnd 135:=⟨aB Tryz.prog L rfl Tryz.func161 (by kernel_rfl),rfl⟩
theorem ok136:FnOk Tryz.prog L 136 Tev.c_laws_szTree∧Tev.c_laws_szTree.hand=hnd 136:=⟨aB Tryz.prog L rfl Tryz.func4 (by kernel_rfl),rfl⟩
theorem ok137:FnOk Tryz.prog L 137 Tev.c_laws_toTree∧Tev.c_laws_toTree.hand=hnd 137:=⟨aB Tryz.prog L rfl Tryz.func9 (by kernel_rfl),rfl⟩
theorem ok140:FnOk Tryz.prog L 140 Tev.c_laws_eqTree∧Tev.c_laws_eqTree.hand=hnd 140:=⟨aB Tryz.prog L rfl Tryz.func15 (by kernel_rfl),rfl⟩
theorem ok141:FnOk Tryz.prog L 141 Tev.c_laws_markTree∧Tev.c_laws_markTree.hand=hnd 141:=⟨aB Tryz.prog L rfl Tryz.func19 (by kernel_rfl),rfl⟩
theorem ok142:FnOk Tryz.prog L 142 Tev.c_laws_szIntS∧Tev.c_laws_szIntS.hand=hnd 142:=⟨aB Tryz.prog L rfl Tryz.func25 (by kernel_rfl),rfl⟩
theorem ok144:FnOk Tryz.prog L 144 Tev.c_laws_toIntS∧Tev.c_laws_toIntS.hand=hnd 144:=⟨aB Tryz.prog L rfl Tryz.func34 (by kernel_rfl),rfl⟩
theorem ok146:FnOk Tryz.prog L 146 Tev.c_impl_Tree_isNode∧Tev.c_impl_Tree_isNode.hand=hnd 146:=⟨aB Tryz.prog L rfl Tryz.func76 (by kernel_rfl),rfl⟩
theorem ok147:FnOk Tryz.prog L 147 Tev.c_laws_eqIntS∧Tev.c_laws_eqIntS.hand=hnd 147:=⟨aB Tryz.prog L rfl Tryz.func44 (by kernel_rfl),rfl⟩
theorem ok148:FnOk Tryz.prog L 148 Tev.c_laws_markIntS∧Tev.c_laws_markIntS.hand=hnd 148:=⟨aB Tryz.prog L rfl Tryz.func52 (by kernel_rfl),rfl⟩
theorem ok166:FnOk Tryz.prog L 166 Tev.c_laws_szDisk∧Tev.c_laws_szDisk.hand=hnd 166:=⟨aB Tryz.prog L rfl Tryz.func6 (by kernel_rfl),rfl⟩
theorem ok167:FnOk Tryz.prog L 167 Tev.c_laws_toDisk∧Tev.c_laws_toDisk.hand=hnd 167:=⟨aB Tryz.prog L rfl Tryz.func11 (by kernel_rfl),rfl⟩
theorem ok170:FnOk Tryz.prog L 170 Tev.c_laws_eqDisk∧Tev.c_laws_eqDisk.hand=hnd 170:=⟨aB Tryz.prog L rfl Tryz.func17 (by kernel_rfl),rfl⟩
theorem ok171:FnOk Tryz.prog L 171 Tev.c_laws_markDisk∧Tev.c_laws_markDisk.hand=hnd 171:=⟨aB Tryz.prog L rfl Tryz.func21 (by kernel_rfl),rfl⟩
theorem ok173:FnOk Tryz.prog L 173 Tev.c_laws_szPutS∧Tev.c_laws_szPutS.hand=hnd 173:=⟨aB Tryz.prog L rfl Tryz.func30 (by kernel_rfl),rfl⟩
theorem ok174:FnOk Tryz.prog L 174 Tev.c_laws_szPut∧Tev.c_laws_szPut.hand=hnd 174:=⟨aB Tryz.prog L rfl Tryz.func61 (by kernel_rfl),rfl⟩
theorem ok177:FnOk Tryz.prog L 177 Tev.c_spec_DiskOk∧Tev.c_spec_DiskOk.hand=hnd 177:=⟨aB Tryz.prog L rfl Tryz.func176 (by kernel_rfl),rfl⟩
theorem ok180:FnOk Tryz.prog L 180 Tev.c_spec_l9Record∧Tev.c_spec_l9Record.hand=hnd 180:=⟨aB Tryz.prog L rfl Tryz.func210 (by kernel_rfl),rfl⟩
theorem ok181:FnOk Tryz.prog L 181 Tev.c_spec_l9Slot∧Tev.c_spec_l9Slot.hand=hnd 181:=⟨aB Tryz.prog L rfl Tryz.func177 (by kernel_rfl),rfl⟩
theorem ok182:FnOk Tryz.prog L 182 Tev.c_spec_l9Put∧Tev.c_spec_l9Put.hand=hnd 182:=⟨aB Tryz.prog L rfl Tryz.func211 (by kernel_rfl),rfl⟩
theorem ok184:FnOk Tryz.prog L 184 Tev.c_laws_toRecord∧Tev.c_laws_toRecord.hand=hnd 184:=⟨aB Tryz.prog L rfl Tryz.func39 (by kernel_rfl),rfl⟩
theorem ok185:FnOk Tryz.prog L 185 Tev.c_laws_toPutS∧Tev.c_laws_toPutS.hand=hnd 185:=⟨aB Tryz.prog L rfl Tryz.func40 (by kernel_rfl),rfl⟩
theorem ok186:FnOk Tryz.prog L 186 Tev.c_laws_toPut∧Tev.c_laws_toPut.hand=hnd 186:=⟨aB Tryz.prog L rfl Tryz.func71 (by kernel_rfl),rfl⟩
theorem ok191:FnOk Tryz.prog L 191 Tev.c_impl_DiskOk∧Tev.c_impl_DiskOk.hand=hnd 191:=⟨aB Tryz.prog L rfl Tryz.func198 (by kernel_rfl),rfl⟩
theorem ok193:FnOk Tryz.prog L 193 Tev.c_impl_isRecord∧Tev.c_impl_isRecord.hand=hnd 193:=⟨aB Tryz.prog L rfl Tryz.func220 (by kernel_rfl),rfl⟩
theorem ok194:FnOk Tryz.prog L 194 Tev.c_impl_Disk_slot∧Tev.c_impl_Disk_slot.hand=hnd 194:=⟨aB Tryz.prog L rfl Tryz.func199 (by kernel_rfl),rfl⟩
theorem ok195:FnOk Tryz.prog L 195 Tev.c_slices_ContainsFunc_impl_Put_impl_Put∧Tev.c_slices_ContainsFunc_impl_Put_impl_Put.hand=hnd 195:=⟨aB Tryz.prog L rfl Tryz.func221 (by kernel_rfl),rfl⟩
theorem ok196:FnOk Tryz.prog L 196 Tev.c_impl_DiskOk_1∧Tev.c_impl_DiskOk_1.hand=hnd 196:=⟨aB Tryz.prog L rfl Tryz.func222 (by kernel_rfl),rfl⟩
theorem ok197:FnOk Tryz.prog L 197 Tev.c_slices_IndexFunc_impl_Put_impl_Put∧Tev.c_slices_IndexFunc_impl_Put_impl_Put.hand=hnd 197:=⟨aB Tryz.prog L rfl Tryz.func232 (by kernel_rfl),rfl⟩
theorem ok198:FnOk Tryz.prog L 198 Tev.c_impl_isGen∧Tev.c_impl_isGen.hand=hnd 198:=⟨aB Tryz.prog L rfl Tryz.func137 (by kernel_rfl),rfl⟩
theorem ok199:FnOk Tryz.prog L 199 Tev.c_impl_isSlot∧Tev.c_impl_isSlot.hand=hnd 199:=⟨aB Tryz.prog L rfl Tryz.func231 (by kernel_rfl),rfl⟩
theorem ok200:FnOk Tryz.prog L 200 Tev.c_impl_isPut∧Tev.c_impl_isPut.hand=hnd 200:=⟨aB Tryz.prog L rfl Tryz.func223 (by kernel_rfl),rfl⟩
theorem ok202:FnOk Tryz.prog L 202 Tev.c_laws_eqRecord∧Tev.c_laws_eqRecord.hand=hnd 202:=⟨aB Tryz.prog L rfl Tryz.func49 (by kernel_rfl),rfl⟩
theorem ok203:FnOk Tryz.prog L 203 Tev.c_laws_eqPutS∧Tev.c_laws_eqPutS.hand=hnd 203:=⟨aB Tryz.prog L rfl Tryz.func50 (by kernel_rfl),rfl⟩
theorem ok204:FnOk Tryz.prog L 204 Tev.c_laws_eqPut∧Tev.c_laws_eqPut.hand=hnd 204:=⟨aB Tryz.prog L rfl Tryz.func81 (by kernel_rfl),rfl⟩
theorem ok205:FnOk Tryz.prog L 205 Tev.c_laws_markPutS∧Tev.c_laws_markPutS.hand=hnd 205:=⟨aB Tryz.prog L rfl Tryz.func57 (by kernel_rfl),rfl⟩
theorem ok212:FnOk Tryz.prog L 212 Tev.c_spec_l15Copy∧Tev.c_spec_l15Copy.hand=hnd 212:=⟨aB Tryz.prog L rfl Tryz.func32 (by kernel_rfl),rfl⟩
theorem ok213:FnOk Tryz.prog L 213 Tev.c_spec_l6Copy∧Tev.c_spec_l6Copy.hand=hnd 213:=⟨aB Tryz.prog L rfl Tryz.func62 (by kernel_rfl),rfl⟩
theorem ok214:FnOk Tryz.prog L 214 Tev.c_spec_l8Copy∧Tev.c_spec_l8Copy.hand=hnd 214:=⟨aB Tryz.prog L rfl Tryz.func63 (by kernel_rfl),rfl⟩
theorem ok215:FnOk Tryz.prog L 215 Tev.c_impl_copyNode∧Tev.c_impl_copyNode.hand=hnd 215:=⟨aB Tryz.prog L rfl Tryz.func42 (by kernel_rfl),rfl⟩
theorem ok216:FnOk Tryz.prog L 216 Tev.c_impl_copyMan∧Tev.c_impl_copyMan.hand=hnd 216:=⟨aB Tryz.prog L rfl Tryz.func72 (by kernel_rfl),rfl⟩
theorem ok217:FnOk Tryz.prog L 217 Tev.c_impl_copyBuild∧Tev.c_impl_copyBuild.hand=hnd 217:=⟨aB Tryz.prog L rfl Tryz.func73 (by kernel_rfl),rfl⟩
theorem ok218:FnOk Tryz.prog L 218 Tev.c_slices_Clone_impl_Sum_impl_Sum∧Tev.c_slices_Clone_impl_Sum_impl_Sum.hand=hnd 218:=⟨aB Tryz.prog L rfl Tryz.func97 (by kernel_rfl),rfl⟩
theorem ok232:FnOk Tryz.prog L 232 Tev.c_spec_Recover∧Tev.c_spec_Recover.hand=hnd 232:=⟨aB Tryz.prog L rfl Tryz.func125 (by kernel_rfl),rfl⟩
theorem ok233:FnOk Tryz.prog L 233 Tev.c_spec_Tells∧Tev.c_spec_Tells.hand=hnd 233:=⟨aB Tryz.prog L rfl Tryz.func127 (by kernel_rfl),rfl⟩
theorem ok234:FnOk Tryz.prog L 234 Tev.c_spec_SumsOf∧Tev.c_spec_SumsOf.hand=hnd 234:=⟨aB Tryz.prog L rfl Tryz.func181 (by kernel_rfl),rfl⟩
theorem ok235:FnOk Tryz.prog L 235 Tev.c_spec_l6SameSums∧Tev.c_spec_l6SameSums.hand=hnd 235:=⟨aB Tryz.prog L rfl Tryz.func168 (by kernel_rfl),rfl⟩
theorem ok236:FnOk Tryz.prog L 236 Tev.c_spec_Blocks∧Tev.c_spec_Blocks.hand=hnd 236:=⟨aB Tryz.prog L rfl Tryz.func164 (by kernel_rfl),rfl⟩
theorem ok237:FnOk Tryz.prog L 237 Tev.c_spec_BlockAt∧Tev.c_spec_BlockAt.hand=hnd 237:=⟨aB Tryz.prog L rfl Tryz.func213 (by kernel_rfl),rfl⟩
theorem ok238:FnOk Tryz.prog L 238 Tev.c_spec_SumOf∧Tev.c_spec_SumOf.hand=hnd 238:=⟨aB Tryz.prog L rfl Tryz.func167 (by kernel_rfl),rfl⟩
theorem ok239:FnOk Tryz.prog L 239 Tev.c_spec_SizeOk∧Tev.c_spec_SizeOk.hand=hnd 239:=⟨aB Tryz.prog L rfl Tryz.func169 (by kernel_rfl),rfl⟩
theorem ok240:FnOk Tryz.prog L 240 Tev.c_spec_CeilDiv∧Tev.c_spec_CeilDiv.hand=hnd 240:=⟨aB Tryz.prog L rfl Tryz.func204 (by kernel_rfl),rfl⟩
theorem ok241:FnOk Tryz.prog L 241 Tev.c_spec_SpanOf∧Tev.c_spec_SpanOf.hand=hnd 241:=⟨aB Tryz.prog L rfl Tryz.func170 (by kernel_rfl),rfl⟩
theorem ok242:FnOk Tryz.prog L 242 Tev.c_spec_Least∧Tev.c_spec_Least.hand=hnd 242:=⟨aB Tryz.prog L rfl Tryz.func205 (by kernel_rfl),rfl⟩
theorem ok243:FnOk Tryz.prog L 243 Tev.c_spec_WeakOf∧Tev.c_spec_WeakOf.hand=hnd 243:=⟨aB Tryz.prog L rfl Tryz.func90 (by kernel_rfl),rfl⟩
theorem ok244:FnOk Tryz.prog L 244 Tev.c_impl_isCurrent∧Tev.c_impl_isCurrent.hand=hnd 244:=⟨aB Tryz.prog L rfl Tryz.func160 (by kernel_rfl),rfl⟩
theorem ok245:FnOk Tryz.prog L 245 Tev.c_impl_Recover∧Tev.c_impl_Recover.hand=hnd 245:=⟨aB Tryz.prog L rfl Tryz.func158 (by kernel_rfl),rfl⟩
theorem ok246:FnOk Tryz.prog L 246 Tev.c_impl_Tells∧Tev.c_impl_Tells.hand=hnd 246:=⟨aB Tryz.prog L rfl Tryz.func203 (by kernel_rfl),rfl⟩
theorem ok247:FnOk Tryz.prog L 247 Tev.c_impl_SumsOf∧Tev.c_impl_SumsOf.hand=hnd 247:=⟨aB Tryz.prog L rfl Tryz.func225 (by kernel_rfl),rfl⟩
theorem ok248:FnOk Tryz.prog L 248 Tev.c_slices_Equal_impl_Sum_impl_Sum∧Tev.c_slices_Equal_impl_Sum_impl_Sum.hand=hnd 248:=⟨aB Tryz.prog L rfl Tryz.func197 (by kernel_rfl),rfl⟩
theorem ok249:FnOk Tryz.prog L 249 Tev.c_impl_Blocks∧Tev.c_impl_Blocks.hand=hnd 249:=⟨aB Tryz.prog L rfl Tryz.func183 (by kernel_rfl),rfl⟩
theorem ok250:FnOk Tryz.prog L 250 Tev.c_impl_BlockAt∧Tev.c_impl_BlockAt.hand=hnd 250:=⟨aB Tryz.prog L rfl Tryz.func233 (by kernel_rfl),rfl⟩
theorem ok251:FnOk Tryz.prog L 251 Tev.c_impl_SumOf∧Tev.c_impl_SumOf.hand=hnd 251:=⟨aB Tryz.prog L rfl Tryz.func185 (by kernel_rfl),rfl⟩
theorem ok252:FnOk Tryz.prog L 252 Tev.c_impl_SizeOk∧Tev.c_impl_SizeOk.hand=hnd 252:=⟨aB Tryz.prog L rfl Tryz.func188 (by kernel_rfl),rfl⟩
theorem ok253:FnOk Tryz.prog L 253 Tev.c_impl_CeilDiv∧Tev.c_impl_CeilDiv.hand=hnd 253:=⟨aB Tryz.prog L rfl Tryz.func214 (by kernel_rfl),rfl⟩
theorem ok254:FnOk Tryz.prog L 254 Tev.c_impl_SpanOf∧Tev.c_impl_SpanOf.hand=hnd 254:=⟨aB Tryz.prog L rfl Tryz.func189 (by kernel_rfl),rfl⟩
theorem ok255:FnOk Tryz.prog L 255 Tev.c_impl_Slice∧Tev.c_impl_Slice.hand=hnd 255:=⟨aB Tryz.prog L rfl Tryz.func186 (by kernel_rfl),rfl⟩
theorem ok256:FnOk Tryz.prog L 256 Tev.c_impl_WeakOf∧Tev.c_impl_WeakOf.hand=hnd 256:=⟨aB Tryz.prog L rfl Tryz.func145 (by kernel_rfl),rfl⟩
theorem ok257:FnOk Tryz.prog L 257 Tev.c_impl_weak∧Tev.c_impl_weak.hand=hnd 257:=⟨aB Tryz.prog L rfl Tryz.func191 (by kernel_rfl),rfl⟩
theorem ok258:FnOk Tryz.prog L 258 Tev.c_impl_Wrap∧Tev.c_impl_Wrap.hand=hnd 258:=⟨aB Tryz.prog L rfl Tryz.func215 (by kernel_rfl),rfl⟩
theorem ok262:FnOk Tryz.prog L 262 Tev.c_spec_PlaceOf∧Tev.c_spec_PlaceOf.hand=hnd 262:=⟨aB Tryz.prog L rfl Tryz.func179 (by kernel_rfl),rfl⟩
theorem ok263:FnOk Tryz.prog L 263 Tev.c_spec_FindSum∧Tev.c_spec_FindSum.hand=hnd 263:=⟨aB Tryz.prog L rfl Tryz.func212 (by kernel_rfl),rfl⟩
theorem ok264:FnOk Tryz.prog L 264 Tev.c_spec_Windows∧Tev.c_spec_Windows.hand=hnd 264:=⟨aB Tryz.prog L rfl Tryz.func227 (by kernel_rfl),rfl⟩
theorem ok265:FnOk Tryz.prog L 265 Tev.c_spec_Roll∧Tev.c_spec_Roll.hand=hnd 265:=⟨aB Tryz.prog L rfl Tryz.func234 (by kernel_rfl),rfl⟩
theorem ok266:FnOk Tryz.prog L 266 Tev.c_spec_l3Ok∧Tev.c_spec_l3Ok.hand=hnd 266:=⟨aB Tryz.prog L rfl Tryz.func235 (by kernel_rfl),rfl⟩
theorem ok267:FnOk Tryz.prog L 267 Tev.c_spec_WeakHalves∧Tev.c_spec_WeakHalves.hand=hnd 267:=⟨aB Tryz.prog L rfl Tryz.func236 (by kernel_rfl),rfl⟩
theorem ok268:FnOk Tryz.prog L 268 Tev.c_spec_Wrap∧Tev.c_spec_Wrap.hand=hnd 268:=⟨aB Tryz.prog L rfl Tryz.func237 (by kernel_rfl),rfl⟩
theorem ok271:FnOk Tryz.prog L 271 Tev.c_impl_PlaceOf∧Tev.c_impl_PlaceOf.hand=hnd 271:=⟨aB Tryz.prog L rfl Tryz.func201 (by kernel_rfl),rfl⟩
theorem ok272:FnOk Tryz.prog L 272 Tev.c_impl_FindSum∧Tev.c_impl_FindSum.hand=hnd 272:=⟨aB Tryz.prog L rfl Tryz.func224 (by kernel_rfl),rfl⟩
theorem ok285:FnOk Tryz.prog L 285 Tev.c_spec_SameMan∧Tev.c_spec_SameMan.hand=hnd 285:=⟨aB Tryz.prog L rfl Tryz.func114 (by kernel_rfl),rfl⟩
theorem ok286:FnOk Tryz.prog L 286 Tev.c_impl_SameMan∧Tev.c_impl_SameMan.hand=hnd 286:=⟨aB Tryz.prog L rfl Tryz.func157 (by kernel_rfl),rfl⟩
theorem ok290:FnOk Tryz.prog L 290 Tev.c_impl_SendTo∧Tev.c_impl_SendTo.hand=hnd 290:=⟨aB Tryz.prog L rfl Tryz.func151 (by kernel_rfl),rfl⟩
theorem ok291:FnOk Tryz.prog L 291 Tev.c_spec_SendTo∧Tev.c_spec_SendTo.hand=hnd 291:=⟨aB Tryz.prog L rfl Tryz.func119 (by kernel_rfl),rfl⟩
theorem ok295:FnOk Tryz.prog L 295 Tev.c_spec_PacketOf∧Tev.c_spec_PacketOf.hand=hnd 295:=⟨aB Tryz.prog L rfl Tryz.func92 (by kernel_rfl),rfl⟩
theorem ok296:FnOk Tryz.prog L 296 Tev.c_impl_PacketOf∧Tev.c_impl_PacketOf.hand=hnd 296:=⟨aB Tryz.prog L rfl Tryz.func107 (by kernel_rfl),rfl⟩
theorem ok301:FnOk Tryz.prog L 301 Tev.c_spec_PutMsg∧Tev.c_spec_PutMsg.hand=hnd 301:=⟨aB Tryz.prog L rfl Tryz.func118 (by kernel_rfl),rfl⟩
theorem ok302:FnOk Tryz.prog L 302 Tev.c_spec_MsgOk∧Tev.c_spec_MsgOk.hand=hnd 302:=⟨aB Tryz.prog L rfl Tryz.func89 (by kernel_rfl),rfl⟩
theorem ok303:FnOk Tryz.prog L 303 Tev.c_spec_PutVar∧Tev.c_spec_PutVar.hand=hnd 303:=⟨aB Tryz.prog L rfl Tryz.func171 (by kernel_rfl),rfl⟩
theorem ok304:FnOk Tryz.prog L 304 Tev.c_spec_PutMan∧Tev.c_spec_PutMan.hand=hnd 304:=⟨aB Tryz.prog L rfl Tryz.func172 (by kernel_rfl),rfl⟩
theorem ok305:FnOk Tryz.prog L 305 Tev.c_spec_l12Half∧Tev.c_spec_l12Half.hand=hnd 305:=⟨aB Tryz.prog L rfl Tryz.func173 (by kernel_rfl),rfl⟩
theorem ok306:FnOk Tryz.prog L 306 Tev.c_spec_PutPart∧Tev.c_spec_PutPart.hand=hnd 306:=⟨aB Tryz.prog L rfl Tryz.func174 (by kernel_rfl),rfl⟩
theorem ok307:FnOk Tryz.prog L 307 Tev.c_spec_ManOk∧Tev.c_spec_ManOk.hand=hnd 307:=⟨aB Tryz.prog L rfl Tryz.func115 (by kernel_rfl),rfl⟩
theorem ok308:FnOk Tryz.prog L 308 Tev.c_spec_BytesOf∧Tev.c_spec_BytesOf.hand=hnd 308:=⟨aB Tryz.prog L rfl Tryz.func166 (by kernel_rfl),rfl⟩
theorem ok309:FnOk Tryz.prog L 309 Tev.c_spec_l6PutSum∧Tev.c_spec_l6PutSum.hand=hnd 309:=⟨aB Tryz.prog L rfl Tryz.func206 (by kernel_rfl),rfl⟩
theorem ok310:FnOk Tryz.prog L 310 Tev.c_impl_PutMsg∧Tev.c_impl_PutMsg.hand=hnd 310:=⟨aB Tryz.prog L rfl Tryz.func103 (by kernel_rfl),rfl⟩
theorem ok311:FnOk Tryz.prog L 311 Tev.c_impl_MsgOk∧Tev.c_impl_MsgOk.hand=hnd 311:=⟨aB Tryz.prog L rfl Tryz.func101 (by kernel_rfl),rfl⟩
theorem ok312:FnOk Tryz.prog L 312 Tev.c_impl_PutVar∧Tev.c_impl_PutVar.hand=hnd 312:=⟨aB Tryz.prog L rfl Tryz.func141 (by kernel_rfl),rfl⟩
theorem ok313:FnOk Tryz.prog L 313 Tev.c_impl_PutMan∧Tev.c_impl_PutMan.hand=hnd 313:=⟨aB Tryz.prog L rfl Tryz.func142 (by kernel_rfl),rfl⟩
theorem ok314:FnOk Tryz.prog L 314 Tev.c_impl_putSet∧Tev.c_impl_putSet.hand=hnd 314:=⟨aB Tryz.prog L rfl Tryz.func143 (by kernel_rfl),rfl⟩
theorem ok315:FnOk Tryz.prog L 315 Tev.c_impl_PutPart∧Tev.c_impl_PutPart.hand=hnd 315:=⟨aB Tryz.prog L rfl Tryz.func144 (by kernel_rfl),rfl⟩
theorem ok316:FnOk Tryz.prog L 316 Tev.c_impl_ManOk∧Tev.c_impl_ManOk.hand=hnd 316:=⟨aB Tryz.prog L rfl Tryz.func135 (by kernel_rfl),rfl⟩
theorem ok317:FnOk Tryz.prog L 317 Tev.c_impl_Msg_isBare∧Tev.c_impl_Msg_isBare.hand=hnd 317:=⟨aB Tryz.prog L rfl Tryz.func136 (by kernel_rfl),rfl⟩
theorem ok318:FnOk Tryz.prog L 318 Tev.c_impl_isZeroMan∧Tev.c_impl_isZeroMan.hand=hnd 318:=⟨aB Tryz.prog L rfl Tryz.func187 (by kernel_rfl),rfl⟩
theorem ok319:FnOk Tryz.prog L 319 Tev.c_impl_BytesOf∧Tev.c_impl_BytesOf.hand=hnd 319:=⟨aB Tryz.prog L rfl Tryz.func184 (by kernel_rfl),rfl⟩
theorem ok320:FnOk Tryz.prog L 320 Tev.c_impl_appendVar∧Tev.c_impl_appendVar.hand=hnd 320:=⟨aB Tryz.prog L rfl Tryz.func190 (by kernel_rfl),rfl⟩
theorem ok323:FnOk Tryz.prog L 323 Tev.c_spec_GetMsg∧Tev.c_spec_GetMsg.hand=hnd 323:=⟨aB Tryz.prog L rfl Tryz.func64 (by kernel_rfl),rfl⟩
theorem ok324:FnOk Tryz.prog L 324 Tev.c_spec_GetVar∧Tev.c_spec_GetVar.hand=hnd 324:=⟨aB Tryz.prog L rfl Tryz.func87 (by kernel_rfl),rfl⟩
theorem ok325:FnOk Tryz.prog L 325 Tev.c_spec_l12Body∧Tev.c_spec_l12Body.hand=hnd 325:=⟨aB Tryz.prog L rfl Tryz.func88 (by kernel_rfl),rfl⟩
theorem ok326:FnOk Tryz.prog L 326 Tev.c_spec_GetMan∧Tev.c_spec_GetMan.hand=hnd 326:=⟨aB Tryz.prog L rfl Tryz.func112 (by kernel_rfl),rfl⟩
theorem ok327:FnOk Tryz.prog L 327 Tev.c_spec_GetPart∧Tev.c_spec_GetPart.hand=hnd 327:=⟨aB Tryz.prog L rfl Tryz.func113 (by kernel_rfl),rfl⟩
theorem ok328:FnOk Tryz.prog L 328 Tev.c_spec_l6GetSum∧Tev.c_spec_l6GetSum.hand=hnd 328:=⟨aB Tryz.prog L rfl Tryz.func165 (by kernel_rfl),rfl⟩
theorem ok329:FnOk Tryz.prog L 329 Tev.c_impl_GetMsg∧Tev.c_impl_GetMsg.hand=hnd 329:=⟨aB Tryz.prog L rfl Tryz.func75 (by kernel_rfl),rfl⟩
theorem ok330:FnOk Tryz.prog L 330 Tev.c_impl_GetVar∧Tev.c_impl_GetVar.hand=hnd 330:=⟨aB Tryz.prog L rfl Tryz.func99 (by kernel_rfl),rfl⟩
theorem ok331:FnOk Tryz.prog L 331 Tev.c_impl_readMsg∧Tev.c_impl_readMsg.hand=hnd 331:=⟨aB Tryz.prog L rfl Tryz.func100 (by kernel_rfl),rfl⟩
theorem ok332:FnOk Tryz.prog L 332 Tev.c_impl_readVar∧Tev.c_impl_readVar.hand=hnd 332:=⟨aB Tryz.prog L rfl Tryz.func131 (by kernel_rfl),rfl⟩
theorem ok333:FnOk Tryz.prog L 333 Tev.c_impl_GetMan∧Tev.c_impl_GetMan.hand=hnd 333:=⟨aB Tryz.prog L rfl Tryz.func132 (by kernel_rfl),rfl⟩
theorem ok334:FnOk Tryz.prog L 334 Tev.c_impl_readVars∧Tev.c_impl_readVars.hand=hnd 334:=⟨aB Tryz.prog L rfl Tryz.func133 (by kernel_rfl),rfl⟩
theorem ok335:FnOk Tryz.prog L 335 Tev.c_impl_GetPart∧Tev.c_impl_GetPart.hand=hnd 335:=⟨aB Tryz.prog L rfl Tryz.func134 (by kernel_rfl),rfl⟩
theorem ok346:FnOk Tryz.prog L 346 Tev.c_spec_BuildOk∧Tev.c_spec_BuildOk.hand=hnd 346:=⟨aB Tryz.prog L rfl Tryz.func175 (by kernel_rfl),rfl⟩
theorem ok350:FnOk Tryz.prog L 350 Tev.c_spec_l8Zero∧Tev.c_spec_l8Zero.hand=hnd 350:=⟨aB Tryz.prog L rfl Tryz.func209 (by kernel_rfl),rfl⟩
theorem ok360:FnOk Tryz.prog L 360 Tev.c_impl_BuildOk∧Tev.c_impl_BuildOk.hand=hnd 360:=⟨aB Tryz.prog L rfl Tryz.func195 (by kernel_rfl),rfl⟩
theorem ok361:FnOk Tryz.prog L 361 Tev.c_impl_Build_block∧Tev.c_impl_Build_block.hand=hnd 361:=⟨aB Tryz.prog L rfl Tryz.func196 (by kernel_rfl),rfl⟩
theorem ok362:FnOk Tryz.prog L 362 Tev.c_slices_ContainsFunc_byte_byte∧Tev.c_slices_ContainsFunc_byte_byte.hand=hnd 362:=⟨aB Tryz.prog L rfl Tryz.func218 (by kernel_rfl),rfl⟩
theorem ok363:FnOk Tryz.prog L 363 Tev.c_impl_BuildOk_1∧Tev.c_impl_BuildOk_1.hand=hnd 363:=⟨aB Tryz.prog L rfl Tryz.func219 (by kernel_rfl),rfl⟩
theorem ok364:FnOk Tryz.prog L 364 Tev.c_slices_IndexFunc_byte_byte∧Tev.c_slices_IndexFunc_byte_byte.hand=hnd 364:=⟨aB Tryz.prog L rfl Tryz.func230 (by kernel_rfl),rfl⟩
theorem ok367:FnOk Tryz.prog L 367 Tev.c_spec_BuildFrom∧Tev.c_spec_BuildFrom.hand=hnd 367:=⟨aB Tryz.prog L rfl Tryz.func126 (by kernel_rfl),rfl⟩
theorem ok368:FnOk Tryz.prog L 368 Tev.c_spec_BuildNew∧Tev.c_spec_BuildNew.hand=hnd 368:=⟨aB Tryz.prog L rfl Tryz.func178 (by kernel_rfl),rfl⟩
theorem ok369:FnOk Tryz.prog L 369 Tev.c_spec_l8Put∧Tev.c_spec_l8Put.hand=hnd 369:=⟨aB Tryz.prog L rfl Tryz.func180 (by kernel_rfl),rfl⟩
theorem ok370:FnOk Tryz.prog L 370 Tev.c_impl_BuildFrom∧Tev.c_impl_BuildFrom.hand=hnd 370:=⟨aB Tryz.prog L rfl Tryz.func159 (by kernel_rfl),rfl⟩
theorem ok371:FnOk Tryz.prog L 371 Tev.c_impl_BuildNew∧Tev.c_impl_BuildNew.hand=hnd 371:=⟨aB Tryz.prog L rfl Tryz.func200 (by kernel_rfl),rfl⟩
theorem ok372:FnOk Tryz.prog L 372 Tev.c_impl_Build_put∧Tev.c_impl_Build_put.hand=hnd 372:=⟨aB Tryz.prog L rfl Tryz.func202 (by kernel_rfl),rfl⟩
theorem ok416:FnOk Tryz.prog L 416 Tev.c_spec_TakePart∧Tev.c_spec_TakePart.hand=hnd 416:=⟨aB Tryz.prog L rfl Tryz.func95 (by kernel_rfl),rfl⟩
theorem ok417:FnOk Tryz.prog L 417 Tev.c_spec_l17Drop∧Tev.c_spec_l17Drop.hand=hnd 417:=⟨aB Tryz.prog L rfl Tryz.func66 (by kernel_rfl),rfl⟩
theorem ok418:FnOk Tryz.prog L 418 Tev.c_spec_PutPiece∧Tev.c_spec_PutPiece.hand=hnd 418:=⟨aB Tryz.prog L rfl Tryz.func129 (by kernel_rfl),rfl⟩
theorem ok419:FnOk Tryz.prog L 419 Tev.c_spec_Forward∧Tev.c_spec_Forward.hand=hnd 419:=⟨aB Tryz.prog L rfl Tryz.func130 (by kernel_rfl),rfl⟩
theorem ok420:FnOk Tryz.prog L 420 Tev.c_spec_PieceAt∧Tev.c_spec_PieceAt.hand=hnd 420:=⟨aB Tryz.prog L rfl Tryz.func122 (by kernel_rfl),rfl⟩
theorem ok421:FnOk Tryz.prog L 421 Tev.c_spec_PartMsg∧Tev.c_spec_PartMsg.hand=hnd 421:=⟨aB Tryz.prog L rfl Tryz.func123 (by kernel_rfl),rfl⟩
theorem ok422:FnOk Tryz.prog L 422 Tev.c_impl_TakePart∧Tev.c_impl_TakePart.hand=hnd 422:=⟨aB Tryz.prog L rfl Tryz.func109 (by kernel_rfl),rfl⟩
theorem ok423:FnOk Tryz.prog L 423 Tev.c_impl_PutPiece∧Tev.c_impl_PutPiece.hand=hnd 423:=⟨aB Tryz.prog L rfl Tryz.func162 (by kernel_rfl),rfl⟩
theorem ok424:FnOk Tryz.prog L 424 Tev.c_impl_Forward∧Tev.c_impl_Forward.hand=hnd 424:=⟨aB Tryz.prog L rfl Tryz.func163 (by kernel_rfl),rfl⟩
theorem ok425:FnOk Tryz.prog L 425 Tev.c_impl_PieceAt∧Tev.c_impl_PieceAt.hand=hnd 425:=⟨aB Tryz.prog L rfl Tryz.func154 (by kernel_rfl),rfl⟩
theorem ok426:FnOk Tryz.prog L 426 Tev.c_impl_PartMsg∧Tev.c_impl_PartMsg.hand=hnd 426:=⟨aB Tryz.prog L rfl Tryz.func155 (by kernel_rfl),rfl⟩
theorem ok427:FnOk Tryz.prog L 427 Tev.c_laws_eqAct∧Tev.c_laws_eqAct.hand=hnd 427:=⟨aB Tryz.prog L rfl Tryz.func14 (by kernel_rfl),rfl⟩
theorem ok428:FnOk Tryz.prog L 428 Tev.c_laws_markAct∧Tev.c_laws_markAct.hand=hnd 428:=⟨aB Tryz.prog L rfl Tryz.func23 (by kernel_rfl),rfl⟩
theorem ok429:FnOk Tryz.prog L 429 Tev.c_laws_heldAct∧Tev.c_laws_heldAct.hand=hnd 429:=⟨aB Tryz.prog L rfl Tryz.func24 (by kernel_rfl),rfl⟩
theorem ok430:FnOk Tryz.prog L 430 Tev.c_spec_SendParts∧Tev.c_spec_SendParts.hand=hnd 430:=⟨aB Tryz.prog L rfl Tryz.func93 (by kernel_rfl),rfl⟩
theorem ok431:FnOk Tryz.prog L 431 Tev.c_impl_SendParts∧Tev.c_impl_SendParts.hand=hnd 431:=⟨aB Tryz.prog L rfl Tryz.func106 (by kernel_rfl),rfl⟩
theorem ok432:FnOk Tryz.prog L 432 Tev.c_spec_PartsIn∧Tev.c_spec_PartsIn.hand=hnd 432:=⟨aB Tryz.prog L rfl Tryz.func121 (by kernel_rfl),rfl⟩
theorem ok450:FnOk Tryz.prog L 450 Tev.c_spec_Take∧Tev.c_spec_Take.hand=hnd 450:=⟨aB Tryz.prog L rfl Tryz.func33 (by kernel_rfl),rfl⟩
theorem ok451:FnOk Tryz.prog L 451 Tev.c_impl_Take∧Tev.c_impl_Take.hand=hnd 451:=⟨aB Tryz.prog L rfl Tryz.func43 (by kernel_rfl),rfl⟩
theorem ok452:FnOk Tryz.prog L 452 Tev.c_spec_AnswerWant∧Tev.c_spec_AnswerWant.hand=hnd 452:=⟨aB Tryz.prog L rfl Tryz.func67 (by kernel_rfl),rfl⟩
theorem ok453:FnOk Tryz.prog L 453 Tev.c_spec_TakeDown∧Tev.c_spec_TakeDown.hand=hnd 453:=⟨aB Tryz.prog L rfl Tryz.func68 (by kernel_rfl),rfl⟩
theorem ok454:FnOk Tryz.prog L 454 Tev.c_spec_TakeMan∧Tev.c_spec_TakeMan.hand=hnd 454:=⟨aB Tryz.prog L rfl Tryz.func94 (by kernel_rfl),rfl⟩
theorem ok455:FnOk Tryz.prog L 455 Tev.c_impl_AnswerWant∧Tev.c_impl_AnswerWant.hand=hnd 455:=⟨aB Tryz.prog L rfl Tryz.func77 (by kernel_rfl),rfl⟩
theorem ok456:FnOk Tryz.prog L 456 Tev.c_impl_TakeDown∧Tev.c_impl_TakeDown.hand=hnd 456:=⟨aB Tryz.prog L rfl Tryz.func78 (by kernel_rfl),rfl⟩
theorem ok457:FnOk Tryz.prog L 457 Tev.c_impl_TakeMan∧Tev.c_impl_TakeMan.hand=hnd 457:=⟨aB Tryz.prog L rfl Tryz.func108 (by kernel_rfl),rfl⟩
theorem ok458:FnOk Tryz.prog L 458 Tev.c_spec_TakeAll∧Tev.c_spec_TakeAll.hand=hnd 458:=⟨aB Tryz.prog L rfl Tryz.func8 (by kernel_rfl),rfl⟩
theorem ok459:FnOk Tryz.prog L 459 Tev.c_impl_TakeAll∧Tev.c_impl_TakeAll.hand=hnd 459:=⟨aB Tryz.prog L rfl Tryz.func13 (by kernel_rfl),rfl⟩
theorem ok520:FnOk Tryz.prog L 520 Tev.c_laws_FnExactTakeAll∧Tev.c_laws_FnExactTakeAll.hand=hnd 520:=⟨aB Tryz.prog L rfl Tryz.func3 (by kernel_rfl),rfl⟩
theorem okg0:∀ f fn,Tev.tbl0 f=some fn→FnOk Tryz.prog L f fn∧fn.hand=hnd f:=by
 intro f fn h
 unfold Tev.tbl0 at h
 split at h<;>try cases h
 ·exact ok1
 ·exact ok2
 ·exact ok9
 ·exact ok10
 ·exact ok12
 ·exact ok13
 ·exact ok14
 ·exact ok15
 ·exact ok18
 ·exact ok19
 ·exact ok20
 ·exact ok21
 ·exact ok24
 ·exact ok25
 ·exact ok26
 ·exact ok27
 ·exact ok29
 ·exact ok30
 ·exact ok31
 ·exact ok32
 ·exact ok33
 ·exact ok34
 ·exact ok35
 ·exact ok36
 ·exact ok37
 ·exact ok38
 ·exact ok39
 ·exact ok40
 ·exact ok42
 ·exact ok47
 ·exact ok48
 ·exact ok51
 ·exact ok52
 ·exact ok53
 ·exact ok54
 ·exact ok55
 ·exact ok56
 ·exact ok57
 ·exact ok58
 ·exact ok59
 ·exact ok60
 ·exact ok61
 ·exact ok62
 ·exact ok63
 ·exact ok64
 ·exact ok65
 ·exact ok68
 ·exact ok71
 ·exact ok72
 ·exact ok75
 ·exact ok76
 ·exact ok77
 ·exact ok78
 ·exact ok79
 ·exact ok80
 ·exact ok83
 ·exact ok84
 ·exact ok89
 ·exact ok90
 ·exact ok91
 ·exact ok93
 ·exact ok94
 ·exact ok102
 ·exact ok113
 ·exact ok114
 ·exact ok115
 ·exact ok116
 ·exact ok123
 ·exact ok128
 ·exact ok132
theorem okg1:∀ f fn,Tev.tbl1 f=some fn→FnOk Tryz.prog L f fn∧fn.hand=hnd f:=by
 intro f fn h
 unfold Tev.tbl1 at h
 split at h<;>try cases h
 ·exact ok134
 ·exact ok135
 ·exact ok136
 ·exact ok137
 ·exact ok140
 ·exact ok141
 ·exact ok142
 ·exact ok144
 ·exact ok146
 ·exact ok147
 ·exact ok148
 ·exact ok166
 ·exact ok167
 ·exact ok170
 ·exact ok171
 ·exact ok173
 ·exact ok174
 ·exact ok177
 ·exact ok180
 ·exact ok181
 ·exact ok182
 ·exact ok184
 ·exact ok185
 ·exact ok186
 ·exact ok191
 ·exact ok193
 ·exact ok194
 ·exact ok195
 ·exact ok196
 ·exact ok197
 ·exact ok198
 ·exact ok199
 ·exact ok200
 ·exact ok202
 ·exact ok203
 ·exact ok204
 ·exact ok205
 ·exact ok212
 ·exact ok213
 ·exact ok214
 ·exact ok215
 ·exact ok216
 ·exact ok217
 ·exact ok218
 ·exact ok232
 ·exact ok233
 ·exact ok234
 ·exact ok235
 ·exact ok236
 ·exact ok237
 ·exact ok238
 ·exact ok239
 ·exact ok240
 ·exact ok241
 ·exact ok242
 ·exact ok243
 ·exact ok244
 ·exact ok245
 ·exact ok246
 ·exact ok247
 ·exact ok248
 ·exact ok249
 ·exact ok250
 ·exact ok251
 ·exact ok252
 ·exact ok253
 ·exact ok254
 ·exact ok255
 ·exact ok256
 ·exact ok257
theorem okg2:∀ f fn,Tev.tbl2 f=some fn→FnOk Tryz.prog L f fn∧fn.hand=hnd f:=by
 intro f fn h
 unfold Tev.tbl2 at h
 split at h<;>try cases h
 ·exact ok258
 ·exact ok262
 ·exact ok263
 ·exact ok264
 ·exact ok265
 ·exact ok266
 ·exact ok267
 ·exact ok268
 ·exact ok271
 ·exact ok272
 ·exact ok285
 ·exact ok286
 ·exact ok290
 ·exact ok291
 ·exact ok295
 ·exact ok296
 ·exact ok301
 ·exact ok302
 ·exact ok303
 ·exact ok304
 ·exact ok305
 ·exact ok306
 ·exact ok307
 ·exact ok308
 ·exact ok309
 ·exact ok310
 ·exact ok311
 ·exact ok312
 ·exact ok313
 ·exact ok314
 ·exact ok315
 ·exact ok316
 ·exact ok317
 ·exact ok318
 ·exact ok319
 ·exact ok320
 ·exact ok323
 ·exact ok324
 ·exact ok325
 ·exact ok326
 ·exact ok327
 ·exact ok328
 ·exact ok329
 ·exact ok330
 ·exact ok331
 ·exact ok332
 ·exact ok333
 ·exact ok334
 ·exact ok335
 ·exact ok346
 ·exact ok350
 ·exact ok360
 ·exact ok361
 ·exact ok362
 ·exact ok363
 ·exact ok364
 ·exact ok367
 ·exact ok368
 ·exact ok369
 ·exact ok370
 ·exact ok371
 ·exact ok372
 ·exact ok416
 ·exact ok417
 ·exact ok418
 ·exact ok419
 ·exact ok420
 ·exact ok421
 ·exact ok422
 ·exact ok423
theorem okg3:∀ f fn,Tev.tbl3 f=some fn→FnOk Tryz.prog L f fn∧fn.hand=hnd f:=by
 intro f fn h
 unfold Tev.tbl3 at h
 split at h<;>try cases h
 ·exact ok424
 ·exact ok425
 ·exact ok426
 ·exact ok427
 ·exact ok428
 ·exact ok429
 ·exact ok430
 ·exact ok431
 ·exact ok432
 ·exact ok450
 ·exact ok451
 ·exact ok452
 ·exact ok453
 ·exact ok454
 ·exact ok455
 ·exact ok456
 ·exact ok457
 ·exact ok458
 ·exact ok459
 ·exact ok520
theorem ok:∀ f fn,tbl f=some fn→FnOk Tryz.prog L f fn∧fn.hand=hnd f:=by
 intro f fn h
 unfold tbl at h
 cases q0:Nat.blt f 134
 case true=>rw[q0,Tev.cif_true]at h;exact okg0 f fn h
 rw[q0,Tev.cif_false]at h
 cases q1:Nat.blt f 258
 case true=>rw[q1,Tev.cif_true]at h;exact okg1 f fn h
 rw[q1,Tev.cif_false]at h
 cases q2:Nat.blt f 424
 case true=>rw[q2,Tev.cif_true]at h;exact okg2 f fn h
 rw[q2,Tev.cif_false]at h
 exact okg3 f fn h
noncomputable def E:Tev.Env:=Tev.EV tbl hnd Tev.aL2
theorem xok117:Tev.FOK Tryz.prog L Tev.aL2 117 (hnd 117):=Tev.aLF ⟨_,_,Tryz.func150,rfl,by kernel_rfl⟩ ins_all (fun _=>rfl)
theorem xok:∀ f,tbl f=none→Tev.FOK Tryz.prog L Tev.aL2 f (hnd f):=by
 intro f _
 by_cases h117:f=117
 ·subst h117;exact xok117
 intro w ow0 args vs r hr
 have hr:Tev.aL2 f args=some r:=hr
 unfold Tev.aL2 at hr
 simp only[if_neg h117]at hr
 cases hr
theorem holds:∀ f,Tev.FOK Tryz.prog L E f (hnd f):=Tev.aN4 ok xok
theorem sys:Tev.Sys E:=⟨fun f c args r hf h=>(Tev.aN5 (F:=tbl) (hand:=hnd) (ext:=Tev.aL2) (f:=f) (fn:=c) (args:=args) (h:=hf)).trans h,fun args r h=>(Tev.aM8 (F:=tbl) (hand:=hnd) (ext:=Tev.aL2) (f:=117) (args:=args) (h:=rfl)).trans h⟩
theorem shapes:Tryz.f3.params.toList.all (fun t=>(Tev.xK Tryz.prog 12 t).isSome&&decide (t<Tryz.prog.types.size))=true:=by kernel_rfl
theorem sh24:Tev.xK Tryz.prog 12 24=some [.sl [.int .i64] 8]:=by kernel_rfl
theorem ag24:Tev.aIt Tryz.prog 24=true:=by kernel_rfl
theorem sh3:Tev.xK Tryz.prog 12 3=some [.int .i64]:=by kernel_rfl
theorem ag3:Tev.aIt Tryz.prog 3=false:=by kernel_rfl
theorem sh33:Tev.xK Tryz.prog 12 33=some [.bool, .int .i64, .int .i64, .int .i64, .int .i64, .int .i64, .sl [.int .i64, .int .i64] 16, .int .i64, .sl [.int .u8] 1, .int .i64, .sl [.int .i64, .int .i64, .int .i64, .int .i64, .int .i64] 40, .int .i64]:=by kernel_rfl
theorem ag33:Tev.aIt Tryz.prog 33=true:=by kernel_rfl
theorem sh38:Tev.xK Tryz.prog 12 38=some [.sl [.int .u8] 1, .sl [.int .u8] 1, .int .i64, .int .i64, .int .i64, .sl [.int .i64, .int .i64, .sl [.int .u8] 1, .int .i64, .int .i64, .int .i64] 64]:=by kernel_rfl
theorem ag38:Tev.aIt Tryz.prog 38=true:=by kernel_rfl
theorem sh39:Tev.xK Tryz.prog 12 39=some [.sl [.int .i64, .int .i64, .sl [.int .u8] 1] 40]:=by kernel_rfl
theorem ag39:Tev.aIt Tryz.prog 39=false:=by kernel_rfl
theorem runs (As:List Tev.A) (h:Tev.All2 (Tev.aHe Tryz.prog) Tryz.f3.params.toList As):∃ u,E 520 As=some ([.v false [.t (.bool true)]],u):=by
 rw[Tryz.params3]at h
 obtain⟨_,_,rfl,h0,t0⟩:=Tev.aR h
 obtain⟨x0,rfl,l0⟩:=Tev.aKw h0 sh24 ag24
 obtain⟨_,_,rfl,h1,t1⟩:=Tev.aR t0
 obtain⟨_,rfl,g1⟩:=Tev.aEQ h1 sh3 ag3
 obtain⟨x1,rfl,_⟩:=Tev.cE g1
 obtain⟨_,_,rfl,h2,t2⟩:=Tev.aR t1
 obtain⟨x2,rfl,l2⟩:=Tev.aKy h2 sh33 ag33
 obtain⟨_,_,rfl,h3,t3⟩:=Tev.aR t2
 obtain⟨x3,rfl,l3⟩:=Tev.aKx h3 sh38 ag38
 obtain⟨_,_,rfl,h4,t4⟩:=Tev.aR t3
 obtain⟨_,rfl,g4⟩:=Tev.aEQ h4 sh39 ag39
 obtain⟨x4,rfl,l4⟩:=Tev.aDO g4
 obtain rfl:=Tev.aMB t4
 exact⟨_,Tev.aF4 sys x0 x1 x2 x3 x4 l0 l2 l3 l4⟩
theorem lifted (os:Os) (started:os.Started) (H:Type) (enc:TypeId × Value→H) :
 ReturnsInHanded {} Tryz.checked os 3 .any (Rows.fnExactTakeAllSpec.pre6 enc Tryz.prog Tryz.f3 Rows.fnExactTakeAllRow.domain false) (Rows.fnExactTakeAllSpec.post enc Tryz.prog Tryz.f3 false true false false):=by
 refine returnsInHanded_of_change_sized (C:=Tryz.checked) own started (by kernel_rfl) Tryz.func3
  (ChangeSpec.witness6 (enc:=enc) (C:=Tryz.checked) false ⟨#[],#[.agg #[.slice none 0 0], .int .i64 0, .agg #[.bool false, .int .i64 0, .int .i64 0, .int .i64 0, .int .i64 0, .int .i64 0, .slice none 0 0, .int .i64 0, .slice none 0 0, .int .i64 0, .slice none 0 0, .int .i64 0], .agg #[.slice none 0 0, .slice none 0 0, .int .i64 0, .int .i64 0, .int .i64 0, .slice none 0 0], .slice none 0 0],[]⟩ 8 (by kernel_rfl) (by kernel_rfl) (by kernel_rfl) (by kernel_rfl)) ?_
 intro W base args ds gs before hval hW _ hsz _
 refine Tev.aJu (P:=Tryz.prog) (L:=L) (E:=E) (f0:=520) rfl (holds 520) types (by kernel_rfl) (t:=4) (by kernel_rfl) Tryz.underlying4 (fun t ht=>?_) (fun ds hd=>?_) runs hval hW hsz
 ·have:=List.all_eq_true.mp shapes t ht
  simpa using this
 ·rw[Tryz.params3]at hd
  rcases ds with _|⟨d0,_|⟨d1,_|⟨d2,_|⟨d3,_|⟨d4,_|⟨d5,r⟩⟩⟩⟩⟩⟩<;>first|exact⟨rfl,rfl,rfl⟩|cases hd
theorem over:Rows.fnExactTakeAllRow.holds Tryz.pinned (OpenSpec.ofChange Rows.fnExactTakeAllSpec) :=
 OpenClaim.holds_of_wide 3 Tryz.f3 rfl rfl rfl rfl rfl rfl rfl ⟨rfl,rfl,rfl,rfl,rfl⟩ rfl rfl rfl rfl rfl (by kernel_rfl) Tryz.func3 (by kernel_rfl)
  (of_decide_eq_true (by kernel_rfl)) (by unfold Func.isWrapper;first|(rw[if_pos (by decide +kernel)];kernel_rfl)|(rw[if_neg (by decide +kernel)];exact⟨rfl,rfl⟩))
  (fun os started H enc _=>lifted os started H enc)
theorem proved:Rows.FnExactTakeAllSaid:=over
#print axioms proved
end Go.Proofs.YtiihmlnehfnoaaaGreat.fnExactTakeAll
namespace Go.Proofs.YtiihmlnehfnoaaaGreat
theorem fnExactTakeAll_holds:Rows.FnExactTakeAllSaid:=fnExactTakeAll.proved
end Go.Proofs.YtiihmlnehfnoaaaGreat
