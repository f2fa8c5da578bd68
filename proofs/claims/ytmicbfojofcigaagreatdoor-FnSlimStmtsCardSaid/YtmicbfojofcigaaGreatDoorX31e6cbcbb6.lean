/- A part of a proof: lemmas and contracts of functions; the last text of the claim says what is proved. -/
import Derived.Test.YtmicbfojofcigaaGreatDoorX9919793f2a
import Derived.Test.YtmicbfojofcigaaGreatDoorChecked
set_option linter.unusedSectionVars false
set_option linter.unusedSimpArgs false
set_option linter.unusedVariables false
namespace Go.Proofs.YtmicbfojofcigaaGreatDoor
open Go Sg
set_option maxRecDepth 100000
theorem info0 : Tryz.prog.info? 0 = some Tryz.t0 := by unfold Tables.info?; exact Tryz.type0
theorem info1 : Tryz.prog.info? 1 = some Tryz.t1 := by unfold Tables.info?; exact Tryz.type1
theorem info2 : Tryz.prog.info? 2 = some Tryz.t2 := by unfold Tables.info?; exact Tryz.type2
theorem info3 : Tryz.prog.info? 3 = some Tryz.t3 := by unfold Tables.info?; exact Tryz.type3
theorem info4 : Tryz.prog.info? 4 = some Tryz.t4 := by unfold Tables.info?; exact Tryz.type4
theorem info5 : Tryz.prog.info? 5 = some Tryz.t5 := by unfold Tables.info?; exact Tryz.type5
theorem info6 : Tryz.prog.info? 6 = some Tryz.t6 := by unfold Tables.info?; exact Tryz.type6
theorem info7 : Tryz.prog.info? 7 = some Tryz.t7 := by unfold Tables.info?; exact Tryz.type7
theorem info8 : Tryz.prog.info? 8 = some Tryz.t8 := by unfold Tables.info?; exact Tryz.type8
theorem info9 : Tryz.prog.info? 9 = some Tryz.t9 := by unfold Tables.info?; exact Tryz.type9
theorem info10 : Tryz.prog.info? 10 = some Tryz.t10 := by unfold Tables.info?; exact Tryz.type10
theorem info11 : Tryz.prog.info? 11 = some Tryz.t11 := by unfold Tables.info?; exact Tryz.type11
theorem info12 : Tryz.prog.info? 12 = some Tryz.t12 := by unfold Tables.info?; exact Tryz.type12
theorem info14 : Tryz.prog.info? 14 = some Tryz.t14 := by unfold Tables.info?; exact Tryz.type14
theorem info16 : Tryz.prog.info? 16 = some Tryz.t16 := by unfold Tables.info?; exact Tryz.type16
theorem info17 : Tryz.prog.info? 17 = some Tryz.t17 := by unfold Tables.info?; exact Tryz.type17
theorem info19 : Tryz.prog.info? 19 = some Tryz.t19 := by unfold Tables.info?; exact Tryz.type19
theorem info20 : Tryz.prog.info? 20 = some Tryz.t20 := by unfold Tables.info?; exact Tryz.type20
theorem info22 : Tryz.prog.info? 22 = some Tryz.t22 := by unfold Tables.info?; exact Tryz.type22
theorem info23 : Tryz.prog.info? 23 = some Tryz.t23 := by unfold Tables.info?; exact Tryz.type23
theorem info24 : Tryz.prog.info? 24 = some Tryz.t24 := by unfold Tables.info?; exact Tryz.type24
theorem info25 : Tryz.prog.info? 25 = some Tryz.t25 := by unfold Tables.info?; exact Tryz.type25
theorem info26 : Tryz.prog.info? 26 = some Tryz.t26 := by unfold Tables.info?; exact Tryz.type26
theorem info27 : Tryz.prog.info? 27 = some Tryz.t27 := by unfold Tables.info?; exact Tryz.type27
theorem info28 : Tryz.prog.info? 28 = some Tryz.t28 := by unfold Tables.info?; exact Tryz.type28
theorem info29 : Tryz.prog.info? 29 = some Tryz.t29 := by unfold Tables.info?; exact Tryz.type29
theorem info30 : Tryz.prog.info? 30 = some Tryz.t30 := by unfold Tables.info?; exact Tryz.type30
theorem info31 : Tryz.prog.info? 31 = some Tryz.t31 := by unfold Tables.info?; exact Tryz.type31
theorem info32 : Tryz.prog.info? 32 = some Tryz.t32 := by unfold Tables.info?; exact Tryz.type32
theorem info33 : Tryz.prog.info? 33 = some Tryz.t33 := by unfold Tables.info?; exact Tryz.type33
theorem info34 : Tryz.prog.info? 34 = some Tryz.t34 := by unfold Tables.info?; exact Tryz.type34
theorem info35 : Tryz.prog.info? 35 = some Tryz.t35 := by unfold Tables.info?; exact Tryz.type35
theorem info36 : Tryz.prog.info? 36 = some Tryz.t36 := by unfold Tables.info?; exact Tryz.type36
theorem info38 : Tryz.prog.info? 38 = some Tryz.t38 := by unfold Tables.info?; exact Tryz.type38
theorem info39 : Tryz.prog.info? 39 = some Tryz.t39 := by unfold Tables.info?; exact Tryz.type39
theorem info40 : Tryz.prog.info? 40 = some Tryz.t40 := by unfold Tables.info?; exact Tryz.type40
theorem info41 : Tryz.prog.info? 41 = some Tryz.t41 := by unfold Tables.info?; exact Tryz.type41
theorem info42 : Tryz.prog.info? 42 = some Tryz.t42 := by unfold Tables.info?; exact Tryz.type42
theorem info44 : Tryz.prog.info? 44 = some Tryz.t44 := by unfold Tables.info?; exact Tryz.type44
theorem info45 : Tryz.prog.info? 45 = some Tryz.t45 := by unfold Tables.info?; exact Tryz.type45
theorem info46 : Tryz.prog.info? 46 = some Tryz.t46 := by unfold Tables.info?; exact Tryz.type46
theorem info47 : Tryz.prog.info? 47 = some Tryz.t47 := by unfold Tables.info?; exact Tryz.type47
theorem info48 : Tryz.prog.info? 48 = some Tryz.t48 := by unfold Tables.info?; exact Tryz.type48
theorem info49 : Tryz.prog.info? 49 = some Tryz.t49 := by unfold Tables.info?; exact Tryz.type49
theorem info50 : Tryz.prog.info? 50 = some Tryz.t50 := by unfold Tables.info?; exact Tryz.type50
theorem info51 : Tryz.prog.info? 51 = some Tryz.t51 := by unfold Tables.info?; exact Tryz.type51
theorem info52 : Tryz.prog.info? 52 = some Tryz.t52 := by unfold Tables.info?; exact Tryz.type52
theorem info53 : Tryz.prog.info? 53 = some Tryz.t53 := by unfold Tables.info?; exact Tryz.type53
theorem info54 : Tryz.prog.info? 54 = some Tryz.t54 := by unfold Tables.info?; exact Tryz.type54
theorem info57 : Tryz.prog.info? 57 = some Tryz.t57 := by unfold Tables.info?; exact Tryz.type57
theorem info58 : Tryz.prog.info? 58 = some Tryz.t58 := by unfold Tables.info?; exact Tryz.type58
theorem info59 : Tryz.prog.info? 59 = some Tryz.t59 := by unfold Tables.info?; exact Tryz.type59
theorem info60 : Tryz.prog.info? 60 = some Tryz.t60 := by unfold Tables.info?; exact Tryz.type60
theorem info61 : Tryz.prog.info? 61 = some Tryz.t61 := by unfold Tables.info?; exact Tryz.type61
theorem info62 : Tryz.prog.info? 62 = some Tryz.t62 := by unfold Tables.info?; exact Tryz.type62
theorem info63 : Tryz.prog.info? 63 = some Tryz.t63 := by unfold Tables.info?; exact Tryz.type63
theorem info64 : Tryz.prog.info? 64 = some Tryz.t64 := by unfold Tables.info?; exact Tryz.type64
theorem info66 : Tryz.prog.info? 66 = some Tryz.t66 := by unfold Tables.info?; exact Tryz.type66
theorem info68 : Tryz.prog.info? 68 = some Tryz.t68 := by unfold Tables.info?; exact Tryz.type68
theorem info70 : Tryz.prog.info? 70 = some Tryz.t70 := by unfold Tables.info?; exact Tryz.type70
theorem info74 : Tryz.prog.info? 74 = some Tryz.t74 := by unfold Tables.info?; exact Tryz.type74
theorem info75 : Tryz.prog.info? 75 = some Tryz.t75 := by unfold Tables.info?; exact Tryz.type75
theorem info76 : Tryz.prog.info? 76 = some Tryz.t76 := by unfold Tables.info?; exact Tryz.type76
theorem info77 : Tryz.prog.info? 77 = some Tryz.t77 := by unfold Tables.info?; exact Tryz.type77
theorem info78 : Tryz.prog.info? 78 = some Tryz.t78 := by unfold Tables.info?; exact Tryz.type78
theorem info79 : Tryz.prog.info? 79 = some Tryz.t79 := by unfold Tables.info?; exact Tryz.type79
theorem info81 : Tryz.prog.info? 81 = some Tryz.t81 := by unfold Tables.info?; exact Tryz.type81
theorem info83 : Tryz.prog.info? 83 = some Tryz.t83 := by unfold Tables.info?; exact Tryz.type83
theorem info85 : Tryz.prog.info? 85 = some Tryz.t85 := by unfold Tables.info?; exact Tryz.type85
theorem info86 : Tryz.prog.info? 86 = some Tryz.t86 := by unfold Tables.info?; exact Tryz.type86
theorem info87 : Tryz.prog.info? 87 = some Tryz.t87 := by unfold Tables.info?; exact Tryz.type87
theorem info88 : Tryz.prog.info? 88 = some Tryz.t88 := by unfold Tables.info?; exact Tryz.type88
theorem info89 : Tryz.prog.info? 89 = some Tryz.t89 := by unfold Tables.info?; exact Tryz.type89
theorem info90 : Tryz.prog.info? 90 = some Tryz.t90 := by unfold Tables.info?; exact Tryz.type90
theorem info91 : Tryz.prog.info? 91 = some Tryz.t91 := by unfold Tables.info?; exact Tryz.type91
theorem info92 : Tryz.prog.info? 92 = some Tryz.t92 := by unfold Tables.info?; exact Tryz.type92
theorem info94 : Tryz.prog.info? 94 = some Tryz.t94 := by unfold Tables.info?; exact Tryz.type94
theorem info95 : Tryz.prog.info? 95 = some Tryz.t95 := by unfold Tables.info?; exact Tryz.type95
theorem info96 : Tryz.prog.info? 96 = some Tryz.t96 := by unfold Tables.info?; exact Tryz.type96
theorem info97 : Tryz.prog.info? 97 = some Tryz.t97 := by unfold Tables.info?; exact Tryz.type97
theorem info98 : Tryz.prog.info? 98 = some Tryz.t98 := by unfold Tables.info?; exact Tryz.type98
theorem info99 : Tryz.prog.info? 99 = some Tryz.t99 := by unfold Tables.info?; exact Tryz.type99
theorem info100 : Tryz.prog.info? 100 = some Tryz.t100 := by unfold Tables.info?; exact Tryz.type100
theorem info101 : Tryz.prog.info? 101 = some Tryz.t101 := by unfold Tables.info?; exact Tryz.type101
theorem info102 : Tryz.prog.info? 102 = some Tryz.t102 := by unfold Tables.info?; exact Tryz.type102
theorem info103 : Tryz.prog.info? 103 = some Tryz.t103 := by unfold Tables.info?; exact Tryz.type103
theorem info104 : Tryz.prog.info? 104 = some Tryz.t104 := by unfold Tables.info?; exact Tryz.type104
theorem info105 : Tryz.prog.info? 105 = some Tryz.t105 := by unfold Tables.info?; exact Tryz.type105
theorem info106 : Tryz.prog.info? 106 = some Tryz.t106 := by unfold Tables.info?; exact Tryz.type106
theorem info107 : Tryz.prog.info? 107 = some Tryz.t107 := by unfold Tables.info?; exact Tryz.type107
theorem info108 : Tryz.prog.info? 108 = some Tryz.t108 := by unfold Tables.info?; exact Tryz.type108
theorem info109 : Tryz.prog.info? 109 = some Tryz.t109 := by unfold Tables.info?; exact Tryz.type109
theorem info110 : Tryz.prog.info? 110 = some Tryz.t110 := by unfold Tables.info?; exact Tryz.type110
theorem info111 : Tryz.prog.info? 111 = some Tryz.t111 := by unfold Tables.info?; exact Tryz.type111
theorem info112 : Tryz.prog.info? 112 = some Tryz.t112 := by unfold Tables.info?; exact Tryz.type112
theorem info113 : Tryz.prog.info? 113 = some Tryz.t113 := by unfold Tables.info?; exact Tryz.type113
theorem info114 : Tryz.prog.info? 114 = some Tryz.t114 := by unfold Tables.info?; exact Tryz.type114
theorem info115 : Tryz.prog.info? 115 = some Tryz.t115 := by unfold Tables.info?; exact Tryz.type115
theorem info116 : Tryz.prog.info? 116 = some Tryz.t116 := by unfold Tables.info?; exact Tryz.type116
theorem info117 : Tryz.prog.info? 117 = some Tryz.t117 := by unfold Tables.info?; exact Tryz.type117
theorem info118 : Tryz.prog.info? 118 = some Tryz.t118 := by unfold Tables.info?; exact Tryz.type118
theorem info119 : Tryz.prog.info? 119 = some Tryz.t119 := by unfold Tables.info?; exact Tryz.type119
theorem info120 : Tryz.prog.info? 120 = some Tryz.t120 := by unfold Tables.info?; exact Tryz.type120
theorem info121 : Tryz.prog.info? 121 = some Tryz.t121 := by unfold Tables.info?; exact Tryz.type121
theorem info122 : Tryz.prog.info? 122 = some Tryz.t122 := by unfold Tables.info?; exact Tryz.type122
theorem info123 : Tryz.prog.info? 123 = some Tryz.t123 := by unfold Tables.info?; exact Tryz.type123
theorem info124 : Tryz.prog.info? 124 = some Tryz.t124 := by unfold Tables.info?; exact Tryz.type124
theorem info125 : Tryz.prog.info? 125 = some Tryz.t125 := by unfold Tables.info?; exact Tryz.type125
theorem info126 : Tryz.prog.info? 126 = some Tryz.t126 := by unfold Tables.info?; exact Tryz.type126
theorem info127 : Tryz.prog.info? 127 = some Tryz.t127 := by unfold Tables.info?; exact Tryz.type127
theorem info128 : Tryz.prog.info? 128 = some Tryz.t128 := by unfold Tables.info?; exact Tryz.type128
theorem info129 : Tryz.prog.info? 129 = some Tryz.t129 := by unfold Tables.info?; exact Tryz.type129
theorem info131 : Tryz.prog.info? 131 = some Tryz.t131 := by unfold Tables.info?; exact Tryz.type131
theorem info132 : Tryz.prog.info? 132 = some Tryz.t132 := by unfold Tables.info?; exact Tryz.type132
theorem info133 : Tryz.prog.info? 133 = some Tryz.t133 := by unfold Tables.info?; exact Tryz.type133
theorem info135 : Tryz.prog.info? 135 = some Tryz.t135 := by unfold Tables.info?; exact Tryz.type135
theorem info137 : Tryz.prog.info? 137 = some Tryz.t137 := by unfold Tables.info?; exact Tryz.type137
theorem info138 : Tryz.prog.info? 138 = some Tryz.t138 := by unfold Tables.info?; exact Tryz.type138
theorem info139 : Tryz.prog.info? 139 = some Tryz.t139 := by unfold Tables.info?; exact Tryz.type139
theorem info140 : Tryz.prog.info? 140 = some Tryz.t140 := by unfold Tables.info?; exact Tryz.type140
theorem info141 : Tryz.prog.info? 141 = some Tryz.t141 := by unfold Tables.info?; exact Tryz.type141
theorem info142 : Tryz.prog.info? 142 = some Tryz.t142 := by unfold Tables.info?; exact Tryz.type142
theorem info144 : Tryz.prog.info? 144 = some Tryz.t144 := by unfold Tables.info?; exact Tryz.type144
theorem info145 : Tryz.prog.info? 145 = some Tryz.t145 := by unfold Tables.info?; exact Tryz.type145
theorem info146 : Tryz.prog.info? 146 = some Tryz.t146 := by unfold Tables.info?; exact Tryz.type146
theorem info147 : Tryz.prog.info? 147 = some Tryz.t147 := by unfold Tables.info?; exact Tryz.type147
theorem info148 : Tryz.prog.info? 148 = some Tryz.t148 := by unfold Tables.info?; exact Tryz.type148
theorem info149 : Tryz.prog.info? 149 = some Tryz.t149 := by unfold Tables.info?; exact Tryz.type149
theorem info151 : Tryz.prog.info? 151 = some Tryz.t151 := by unfold Tables.info?; exact Tryz.type151
theorem info152 : Tryz.prog.info? 152 = some Tryz.t152 := by unfold Tables.info?; exact Tryz.type152
theorem info153 : Tryz.prog.info? 153 = some Tryz.t153 := by unfold Tables.info?; exact Tryz.type153
theorem info154 : Tryz.prog.info? 154 = some Tryz.t154 := by unfold Tables.info?; exact Tryz.type154
theorem info155 : Tryz.prog.info? 155 = some Tryz.t155 := by unfold Tables.info?; exact Tryz.type155
theorem info157 : Tryz.prog.info? 157 = some Tryz.t157 := by unfold Tables.info?; exact Tryz.type157
theorem info158 : Tryz.prog.info? 158 = some Tryz.t158 := by unfold Tables.info?; exact Tryz.type158
theorem info159 : Tryz.prog.info? 159 = some Tryz.t159 := by unfold Tables.info?; exact Tryz.type159
theorem info162 : Tryz.prog.info? 162 = some Tryz.t162 := by unfold Tables.info?; exact Tryz.type162
theorem info163 : Tryz.prog.info? 163 = some Tryz.t163 := by unfold Tables.info?; exact Tryz.type163
theorem info164 : Tryz.prog.info? 164 = some Tryz.t164 := by unfold Tables.info?; exact Tryz.type164
theorem info165 : Tryz.prog.info? 165 = some Tryz.t165 := by unfold Tables.info?; exact Tryz.type165
theorem info167 : Tryz.prog.info? 167 = some Tryz.t167 := by unfold Tables.info?; exact Tryz.type167
theorem info170 : Tryz.prog.info? 170 = some Tryz.t170 := by unfold Tables.info?; exact Tryz.type170
theorem info171 : Tryz.prog.info? 171 = some Tryz.t171 := by unfold Tables.info?; exact Tryz.type171
theorem info173 : Tryz.prog.info? 173 = some Tryz.t173 := by unfold Tables.info?; exact Tryz.type173
theorem info174 : Tryz.prog.info? 174 = some Tryz.t174 := by unfold Tables.info?; exact Tryz.type174
theorem info175 : Tryz.prog.info? 175 = some Tryz.t175 := by unfold Tables.info?; exact Tryz.type175
theorem info176 : Tryz.prog.info? 176 = some Tryz.t176 := by unfold Tables.info?; exact Tryz.type176
theorem info178 : Tryz.prog.info? 178 = some Tryz.t178 := by unfold Tables.info?; exact Tryz.type178
theorem info184 : Tryz.prog.info? 184 = some Tryz.t184 := by unfold Tables.info?; exact Tryz.type184
theorem info186 : Tryz.prog.info? 186 = some Tryz.t186 := by unfold Tables.info?; exact Tryz.type186
theorem info187 : Tryz.prog.info? 187 = some Tryz.t187 := by unfold Tables.info?; exact Tryz.type187
theorem info188 : Tryz.prog.info? 188 = some Tryz.t188 := by unfold Tables.info?; exact Tryz.type188
theorem info189 : Tryz.prog.info? 189 = some Tryz.t189 := by unfold Tables.info?; exact Tryz.type189
theorem info191 : Tryz.prog.info? 191 = some Tryz.t191 := by unfold Tables.info?; exact Tryz.type191
theorem info192 : Tryz.prog.info? 192 = some Tryz.t192 := by unfold Tables.info?; exact Tryz.type192
theorem info194 : Tryz.prog.info? 194 = some Tryz.t194 := by unfold Tables.info?; exact Tryz.type194
theorem info196 : Tryz.prog.info? 196 = some Tryz.t196 := by unfold Tables.info?; exact Tryz.type196
theorem info197 : Tryz.prog.info? 197 = some Tryz.t197 := by unfold Tables.info?; exact Tryz.type197
theorem info198 : Tryz.prog.info? 198 = some Tryz.t198 := by unfold Tables.info?; exact Tryz.type198
theorem info199 : Tryz.prog.info? 199 = some Tryz.t199 := by unfold Tables.info?; exact Tryz.type199
theorem info200 : Tryz.prog.info? 200 = some Tryz.t200 := by unfold Tables.info?; exact Tryz.type200
theorem info201 : Tryz.prog.info? 201 = some Tryz.t201 := by unfold Tables.info?; exact Tryz.type201
theorem info202 : Tryz.prog.info? 202 = some Tryz.t202 := by unfold Tables.info?; exact Tryz.type202
theorem info203 : Tryz.prog.info? 203 = some Tryz.t203 := by unfold Tables.info?; exact Tryz.type203
theorem info204 : Tryz.prog.info? 204 = some Tryz.t204 := by unfold Tables.info?; exact Tryz.type204
theorem info207 : Tryz.prog.info? 207 = some Tryz.t207 := by unfold Tables.info?; exact Tryz.type207
theorem info209 : Tryz.prog.info? 209 = some Tryz.t209 := by unfold Tables.info?; exact Tryz.type209
theorem info210 : Tryz.prog.info? 210 = some Tryz.t210 := by unfold Tables.info?; exact Tryz.type210
theorem info211 : Tryz.prog.info? 211 = some Tryz.t211 := by unfold Tables.info?; exact Tryz.type211
theorem info215 : Tryz.prog.info? 215 = some Tryz.t215 := by unfold Tables.info?; exact Tryz.type215
theorem info216 : Tryz.prog.info? 216 = some Tryz.t216 := by unfold Tables.info?; exact Tryz.type216
theorem info217 : Tryz.prog.info? 217 = some Tryz.t217 := by unfold Tables.info?; exact Tryz.type217
theorem info218 : Tryz.prog.info? 218 = some Tryz.t218 := by unfold Tables.info?; exact Tryz.type218
theorem info219 : Tryz.prog.info? 219 = some Tryz.t219 := by unfold Tables.info?; exact Tryz.type219
theorem info223 : Tryz.prog.info? 223 = some Tryz.t223 := by unfold Tables.info?; exact Tryz.type223
theorem info228 : Tryz.prog.info? 228 = some Tryz.t228 := by unfold Tables.info?; exact Tryz.type228
theorem info229 : Tryz.prog.info? 229 = some Tryz.t229 := by unfold Tables.info?; exact Tryz.type229
theorem info232 : Tryz.prog.info? 232 = some Tryz.t232 := by unfold Tables.info?; exact Tryz.type232
theorem info234 : Tryz.prog.info? 234 = some Tryz.t234 := by unfold Tables.info?; exact Tryz.type234
theorem info238 : Tryz.prog.info? 238 = some Tryz.t238 := by unfold Tables.info?; exact Tryz.type238
theorem info240 : Tryz.prog.info? 240 = some Tryz.t240 := by unfold Tables.info?; exact Tryz.type240
theorem info244 : Tryz.prog.info? 244 = some Tryz.t244 := by unfold Tables.info?; exact Tryz.type244
theorem info245 : Tryz.prog.info? 245 = some Tryz.t245 := by unfold Tables.info?; exact Tryz.type245
theorem info247 : Tryz.prog.info? 247 = some Tryz.t247 := by unfold Tables.info?; exact Tryz.type247
@[go_sem] theorem has1 : (Tryz.prog.info? 1).isSome = true := by rw [info1]; rfl
@[go_sem] theorem cellsOf1 : Tryz.prog.cellsOf 1 = 1 := by unfold Program.cellsOf; rw [info1]; rfl
@[go_sem] theorem bytesOf1 : bytesOf Tryz.prog 1 = 8 := by unfold bytesOf; rw [info1]; rfl
@[go_sem] theorem takeVar1 (cs : List PV) : takeVar Tryz.prog 1 cs = cs[0]? := by unfold takeVar isAggT; rw [Tryz.underlying1, info1]
@[go_sem] theorem partA1 (cs : List PV) (k : Nat) : partA Tryz.prog 1 cs k = cs[k]? := by unfold partA isAggT; rw [Tryz.underlying1, info1]
@[go_sem] theorem zeroA1 : zeroA Tryz.prog 1 = some .nilfn := by unfold zeroA; rw [info1]; rfl
@[go_sem] theorem zeroOk1 : zeroOk Tryz.prog 1 = true := by unfold zeroOk; rw [zeroA1, cellsOf1]; rfl
attribute [go_sem] Tryz.underlying1
@[go_sem] theorem has2 : (Tryz.prog.info? 2).isSome = true := by rw [info2]; rfl
@[go_sem] theorem cellsOf2 : Tryz.prog.cellsOf 2 = 1 := by unfold Program.cellsOf; rw [info2]; rfl
@[go_sem] theorem bytesOf2 : bytesOf Tryz.prog 2 = 8 := by unfold bytesOf; rw [info2]; rfl
@[go_sem] theorem takeVar2 (cs : List PV) : takeVar Tryz.prog 2 cs = cs[0]? := by unfold takeVar isAggT; rw [Tryz.underlying2, info2]
@[go_sem] theorem partA2 (cs : List PV) (k : Nat) : partA Tryz.prog 2 cs k = cs[k]? := by unfold partA isAggT; rw [Tryz.underlying2, info2]
@[go_sem] theorem zeroA2 : zeroA Tryz.prog 2 = some (.int IntKind.i64 0) := by unfold zeroA; rw [info2]; rfl
@[go_sem] theorem zeroOk2 : zeroOk Tryz.prog 2 = true := by unfold zeroOk; rw [zeroA2, cellsOf2]; rfl
attribute [go_sem] Tryz.underlying2
@[go_sem] theorem has3 : (Tryz.prog.info? 3).isSome = true := by rw [info3]; rfl
@[go_sem] theorem cellsOf3 : Tryz.prog.cellsOf 3 = 1 := by unfold Program.cellsOf; rw [info3]; rfl
@[go_sem] theorem bytesOf3 : bytesOf Tryz.prog 3 = 8 := by unfold bytesOf; rw [info3]; rfl
@[go_sem] theorem takeVar3 (cs : List PV) : takeVar Tryz.prog 3 cs = cs[0]? := by unfold takeVar isAggT; rw [Tryz.underlying3, info3]
@[go_sem] theorem partA3 (cs : List PV) (k : Nat) : partA Tryz.prog 3 cs k = cs[k]? := by unfold partA isAggT; rw [Tryz.underlying3, info3]
@[go_sem] theorem zeroA3 : zeroA Tryz.prog 3 = some (.int IntKind.i64 0) := by unfold zeroA; rw [info3]; rfl
@[go_sem] theorem zeroOk3 : zeroOk Tryz.prog 3 = true := by unfold zeroOk; rw [zeroA3, cellsOf3]; rfl
attribute [go_sem] Tryz.underlying3
@[go_sem] theorem has4 : (Tryz.prog.info? 4).isSome = true := by rw [info4]; rfl
@[go_sem] theorem cellsOf4 : Tryz.prog.cellsOf 4 = 1 := by unfold Program.cellsOf; rw [info4]; rfl
@[go_sem] theorem bytesOf4 : bytesOf Tryz.prog 4 = 1 := by unfold bytesOf; rw [info4]; rfl
@[go_sem] theorem takeVar4 (cs : List PV) : takeVar Tryz.prog 4 cs = cs[0]? := by unfold takeVar isAggT; rw [Tryz.underlying4, info4]
@[go_sem] theorem partA4 (cs : List PV) (k : Nat) : partA Tryz.prog 4 cs k = cs[k]? := by unfold partA isAggT; rw [Tryz.underlying4, info4]
@[go_sem] theorem zeroA4 : zeroA Tryz.prog 4 = some (.bool false) := by unfold zeroA; rw [info4]; rfl
@[go_sem] theorem zeroOk4 : zeroOk Tryz.prog 4 = true := by unfold zeroOk; rw [zeroA4, cellsOf4]; rfl
attribute [go_sem] Tryz.underlying4
@[go_sem] theorem has5 : (Tryz.prog.info? 5).isSome = true := by rw [info5]; rfl
@[go_sem] theorem cellsOf5 : Tryz.prog.cellsOf 5 = 1 := by unfold Program.cellsOf; rw [info5]; rfl
@[go_sem] theorem bytesOf5 : bytesOf Tryz.prog 5 = 1 := by unfold bytesOf; rw [info5]; rfl
@[go_sem] theorem takeVar5 (cs : List PV) : takeVar Tryz.prog 5 cs = cs[0]? := by unfold takeVar isAggT; rw [Tryz.underlying5, info5]
@[go_sem] theorem partA5 (cs : List PV) (k : Nat) : partA Tryz.prog 5 cs k = cs[k]? := by unfold partA isAggT; rw [Tryz.underlying5, info5]
@[go_sem] theorem zeroA5 : zeroA Tryz.prog 5 = some (.int IntKind.u8 0) := by unfold zeroA; rw [info5]; rfl
@[go_sem] theorem zeroOk5 : zeroOk Tryz.prog 5 = true := by unfold zeroOk; rw [zeroA5, cellsOf5]; rfl
attribute [go_sem] Tryz.underlying5
@[go_sem] theorem has6 : (Tryz.prog.info? 6).isSome = true := by rw [info6]; rfl
@[go_sem] theorem cellsOf6 : Tryz.prog.cellsOf 6 = 1 := by unfold Program.cellsOf; rw [info6]; rfl
@[go_sem] theorem bytesOf6 : bytesOf Tryz.prog 6 = 1 := by unfold bytesOf; rw [info6]; rfl
@[go_sem] theorem takeVar6 (cs : List PV) : takeVar Tryz.prog 6 cs = cs[0]? := by unfold takeVar isAggT; rw [Tryz.underlying6, info6]
@[go_sem] theorem partA6 (cs : List PV) (k : Nat) : partA Tryz.prog 6 cs k = cs[k]? := by unfold partA isAggT; rw [Tryz.underlying6, info6]
@[go_sem] theorem zeroA6 : zeroA Tryz.prog 6 = some (.int IntKind.u8 0) := by unfold zeroA; rw [info6]; rfl
@[go_sem] theorem zeroOk6 : zeroOk Tryz.prog 6 = true := by unfold zeroOk; rw [zeroA6, cellsOf6]; rfl
attribute [go_sem] Tryz.underlying6
@[go_sem] theorem has7 : (Tryz.prog.info? 7).isSome = true := by rw [info7]; rfl
@[go_sem] theorem cellsOf7 : Tryz.prog.cellsOf 7 = 4 := by unfold Program.cellsOf; rw [info7]; rfl
@[go_sem] theorem bytesOf7 : bytesOf Tryz.prog 7 = 24 := by unfold bytesOf; rw [info7]; rfl
@[go_sem] theorem takeVar7 (cs : List PV) : takeVar Tryz.prog 7 cs = if 4 ≤ cs.length then some (.agg (cs.take 4)) else none := by unfold takeVar isAggT; rw [Tryz.underlying7, info7]; rfl
@[go_sem] theorem partA7 (cs : List PV) (k : Nat) : partA Tryz.prog 7 cs k = if k + 4 ≤ cs.length then some (.agg ((cs.drop k).take 4)) else none := by unfold partA isAggT; rw [Tryz.underlying7, info7]; rfl
@[go_sem] theorem zeroA7 : zeroA Tryz.prog 7 = some (.agg [(.int IntKind.i64 0), (.int IntKind.i64 0), (.bool false), (.int IntKind.u8 0)]) := by unfold zeroA; rw [info7]; rfl
@[go_sem] theorem zeroOk7 : zeroOk Tryz.prog 7 = true := by unfold zeroOk; rw [zeroA7, cellsOf7]; rfl
@[go_sem] theorem field7_0 : fieldInfo Tryz.prog 7 0 = some (0, 2) := by unfold fieldInfo; rw [Tryz.underlying7]; show (match Tryz.prog.info? 2 with | some i => if i.size = 0 then none else some (0, 2) | none => none) = _; rw [info2]; rfl
@[go_sem] theorem field7_1 : fieldInfo Tryz.prog 7 1 = some (1, 3) := by unfold fieldInfo; rw [Tryz.underlying7]; show (match Tryz.prog.info? 3 with | some i => if i.size = 0 then none else some (1, 3) | none => none) = _; rw [info3]; rfl
@[go_sem] theorem field7_2 : fieldInfo Tryz.prog 7 2 = some (2, 4) := by unfold fieldInfo; rw [Tryz.underlying7]; show (match Tryz.prog.info? 4 with | some i => if i.size = 0 then none else some (2, 4) | none => none) = _; rw [info4]; rfl
@[go_sem] theorem field7_3 : fieldInfo Tryz.prog 7 3 = some (3, 6) := by unfold fieldInfo; rw [Tryz.underlying7]; show (match Tryz.prog.info? 6 with | some i => if i.size = 0 then none else some (3, 6) | none => none) = _; rw [info6]; rfl
attribute [go_sem] Tryz.underlying7
@[go_sem] theorem has8 : (Tryz.prog.info? 8).isSome = true := by rw [info8]; rfl
@[go_sem] theorem cellsOf8 : Tryz.prog.cellsOf 8 = 4 := by unfold Program.cellsOf; rw [info8]; rfl
@[go_sem] theorem bytesOf8 : bytesOf Tryz.prog 8 = 24 := by unfold bytesOf; rw [info8]; rfl
@[go_sem] theorem takeVar8 (cs : List PV) : takeVar Tryz.prog 8 cs = if 4 ≤ cs.length then some (.agg (cs.take 4)) else none := by unfold takeVar isAggT; rw [Tryz.underlying8, info8]; rfl
@[go_sem] theorem partA8 (cs : List PV) (k : Nat) : partA Tryz.prog 8 cs k = if k + 4 ≤ cs.length then some (.agg ((cs.drop k).take 4)) else none := by unfold partA isAggT; rw [Tryz.underlying8, info8]; rfl
@[go_sem] theorem zeroA8 : zeroA Tryz.prog 8 = some (.agg [(.int IntKind.i64 0), (.int IntKind.i64 0), (.bool false), (.int IntKind.u8 0)]) := by unfold zeroA; rw [info8]; rfl
@[go_sem] theorem zeroOk8 : zeroOk Tryz.prog 8 = true := by unfold zeroOk; rw [zeroA8, cellsOf8]; rfl
@[go_sem] theorem field8_0 : fieldInfo Tryz.prog 8 0 = some (0, 2) := by unfold fieldInfo; rw [Tryz.underlying8]; show (match Tryz.prog.info? 2 with | some i => if i.size = 0 then none else some (0, 2) | none => none) = _; rw [info2]; rfl
@[go_sem] theorem field8_1 : fieldInfo Tryz.prog 8 1 = some (1, 3) := by unfold fieldInfo; rw [Tryz.underlying8]; show (match Tryz.prog.info? 3 with | some i => if i.size = 0 then none else some (1, 3) | none => none) = _; rw [info3]; rfl
@[go_sem] theorem field8_2 : fieldInfo Tryz.prog 8 2 = some (2, 4) := by unfold fieldInfo; rw [Tryz.underlying8]; show (match Tryz.prog.info? 4 with | some i => if i.size = 0 then none else some (2, 4) | none => none) = _; rw [info4]; rfl
@[go_sem] theorem field8_3 : fieldInfo Tryz.prog 8 3 = some (3, 6) := by unfold fieldInfo; rw [Tryz.underlying8]; show (match Tryz.prog.info? 6 with | some i => if i.size = 0 then none else some (3, 6) | none => none) = _; rw [info6]; rfl
attribute [go_sem] Tryz.underlying8
@[go_sem] theorem has9 : (Tryz.prog.info? 9).isSome = true := by rw [info9]; rfl
@[go_sem] theorem cellsOf9 : Tryz.prog.cellsOf 9 = 1 := by unfold Program.cellsOf; rw [info9]; rfl
@[go_sem] theorem bytesOf9 : bytesOf Tryz.prog 9 = 16 := by unfold bytesOf; rw [info9]; rfl
@[go_sem] theorem takeVar9 (cs : List PV) : takeVar Tryz.prog 9 cs = cs[0]? := by unfold takeVar isAggT; rw [Tryz.underlying9, info9]
@[go_sem] theorem partA9 (cs : List PV) (k : Nat) : partA Tryz.prog 9 cs k = cs[k]? := by unfold partA isAggT; rw [Tryz.underlying9, info9]
@[go_sem] theorem zeroA9 : zeroA Tryz.prog 9 = some (.str ({ data := #[] })) := by unfold zeroA; rw [info9]; rfl
@[go_sem] theorem zeroOk9 : zeroOk Tryz.prog 9 = true := by unfold zeroOk; rw [zeroA9, cellsOf9]; rfl
attribute [go_sem] Tryz.underlying9
@[go_sem] theorem has10 : (Tryz.prog.info? 10).isSome = true := by rw [info10]; rfl
@[go_sem] theorem cellsOf10 : Tryz.prog.cellsOf 10 = 1 := by unfold Program.cellsOf; rw [info10]; rfl
@[go_sem] theorem bytesOf10 : bytesOf Tryz.prog 10 = 16 := by unfold bytesOf; rw [info10]; rfl
@[go_sem] theorem takeVar10 (cs : List PV) : takeVar Tryz.prog 10 cs = cs[0]? := by unfold takeVar isAggT; rw [Tryz.underlying10, info10]
@[go_sem] theorem partA10 (cs : List PV) (k : Nat) : partA Tryz.prog 10 cs k = cs[k]? := by unfold partA isAggT; rw [Tryz.underlying10, info10]
@[go_sem] theorem zeroA10 : zeroA Tryz.prog 10 = some (.str ({ data := #[] })) := by unfold zeroA; rw [info10]; rfl
@[go_sem] theorem zeroOk10 : zeroOk Tryz.prog 10 = true := by unfold zeroOk; rw [zeroA10, cellsOf10]; rfl
attribute [go_sem] Tryz.underlying10
@[go_sem] theorem has11 : (Tryz.prog.info? 11).isSome = true := by rw [info11]; rfl
@[go_sem] theorem cellsOf11 : Tryz.prog.cellsOf 11 = 1 := by unfold Program.cellsOf; rw [info11]; rfl
@[go_sem] theorem bytesOf11 : bytesOf Tryz.prog 11 = 16 := by unfold bytesOf; rw [info11]; rfl
@[go_sem] theorem takeVar11 (cs : List PV) : takeVar Tryz.prog 11 cs = cs[0]? := by unfold takeVar isAggT; rw [Tryz.underlying11, info11]
@[go_sem] theorem partA11 (cs : List PV) (k : Nat) : partA Tryz.prog 11 cs k = cs[k]? := by unfold partA isAggT; rw [Tryz.underlying11, info11]
@[go_sem] theorem zeroA11 : zeroA Tryz.prog 11 = some (.str ({ data := #[] })) := by unfold zeroA; rw [info11]; rfl
@[go_sem] theorem zeroOk11 : zeroOk Tryz.prog 11 = true := by unfold zeroOk; rw [zeroA11, cellsOf11]; rfl
attribute [go_sem] Tryz.underlying11
@[go_sem] theorem has12 : (Tryz.prog.info? 12).isSome = true := by rw [info12]; rfl
@[go_sem] theorem cellsOf12 : Tryz.prog.cellsOf 12 = 1 := by unfold Program.cellsOf; rw [info12]; rfl
@[go_sem] theorem bytesOf12 : bytesOf Tryz.prog 12 = 8 := by unfold bytesOf; rw [info12]; rfl
@[go_sem] theorem takeVar12 (cs : List PV) : takeVar Tryz.prog 12 cs = cs[0]? := by unfold takeVar isAggT; rw [Tryz.underlying12, info12]
@[go_sem] theorem partA12 (cs : List PV) (k : Nat) : partA Tryz.prog 12 cs k = cs[k]? := by unfold partA isAggT; rw [Tryz.underlying12, info12]
@[go_sem] theorem zeroA12 : zeroA Tryz.prog 12 = some (.int IntKind.u64 0) := by unfold zeroA; rw [info12]; rfl
@[go_sem] theorem zeroOk12 : zeroOk Tryz.prog 12 = true := by unfold zeroOk; rw [zeroA12, cellsOf12]; rfl
attribute [go_sem] Tryz.underlying12
@[go_sem] theorem has14 : (Tryz.prog.info? 14).isSome = true := by rw [info14]; rfl
@[go_sem] theorem cellsOf14 : Tryz.prog.cellsOf 14 = 2 := by unfold Program.cellsOf; rw [info14]; rfl
@[go_sem] theorem bytesOf14 : bytesOf Tryz.prog 14 = 24 := by unfold bytesOf; rw [info14]; rfl
@[go_sem] theorem takeVar14 (cs : List PV) : takeVar Tryz.prog 14 cs = if 2 ≤ cs.length then some (.agg (cs.take 2)) else none := by unfold takeVar isAggT; rw [Tryz.underlying14, info14]; rfl
@[go_sem] theorem partA14 (cs : List PV) (k : Nat) : partA Tryz.prog 14 cs k = if k + 2 ≤ cs.length then some (.agg ((cs.drop k).take 2)) else none := by unfold partA isAggT; rw [Tryz.underlying14, info14]; rfl
@[go_sem] theorem zeroA14 : zeroA Tryz.prog 14 = some (.agg [(.str ({ data := #[] })), (.int IntKind.u64 0)]) := by unfold zeroA; rw [info14]; rfl
@[go_sem] theorem zeroOk14 : zeroOk Tryz.prog 14 = true := by unfold zeroOk; rw [zeroA14, cellsOf14]; rfl
@[go_sem] theorem field14_0 : fieldInfo Tryz.prog 14 0 = some (0, 9) := by unfold fieldInfo; rw [Tryz.underlying14]; show (match Tryz.prog.info? 9 with | some i => if i.size = 0 then none else some (0, 9) | none => none) = _; rw [info9]; rfl
@[go_sem] theorem field14_1 : fieldInfo Tryz.prog 14 1 = some (1, 12) := by unfold fieldInfo; rw [Tryz.underlying14]; show (match Tryz.prog.info? 12 with | some i => if i.size = 0 then none else some (1, 12) | none => none) = _; rw [info12]; rfl
attribute [go_sem] Tryz.underlying14
@[go_sem] theorem has16 : (Tryz.prog.info? 16).isSome = true := by rw [info16]; rfl
@[go_sem] theorem cellsOf16 : Tryz.prog.cellsOf 16 = 1 := by unfold Program.cellsOf; rw [info16]; rfl
@[go_sem] theorem bytesOf16 : bytesOf Tryz.prog 16 = 8 := by unfold bytesOf; rw [info16]; rfl
@[go_sem] theorem takeVar16 (cs : List PV) : takeVar Tryz.prog 16 cs = cs[0]? := by unfold takeVar isAggT; rw [Tryz.underlying16, info16]
@[go_sem] theorem partA16 (cs : List PV) (k : Nat) : partA Tryz.prog 16 cs k = cs[k]? := by unfold partA isAggT; rw [Tryz.underlying16, info16]
@[go_sem] theorem zeroA16 : zeroA Tryz.prog 16 = some .nilp := by unfold zeroA; rw [info16]; rfl
@[go_sem] theorem zeroOk16 : zeroOk Tryz.prog 16 = true := by unfold zeroOk; rw [zeroA16, cellsOf16]; rfl
attribute [go_sem] Tryz.underlying16
@[go_sem] theorem has17 : (Tryz.prog.info? 17).isSome = true := by rw [info17]; rfl
@[go_sem] theorem cellsOf17 : Tryz.prog.cellsOf 17 = 1 := by unfold Program.cellsOf; rw [info17]; rfl
@[go_sem] theorem has19 : (Tryz.prog.info? 19).isSome = true := by rw [info19]; rfl
@[go_sem] theorem cellsOf19 : Tryz.prog.cellsOf 19 = 1 := by unfold Program.cellsOf; rw [info19]; rfl
@[go_sem] theorem bytesOf19 : bytesOf Tryz.prog 19 = 8 := by unfold bytesOf; rw [info19]; rfl
@[go_sem] theorem takeVar19 (cs : List PV) : takeVar Tryz.prog 19 cs = if 1 ≤ cs.length then some (.agg (cs.take 1)) else none := by unfold takeVar isAggT; rw [Tryz.underlying19, info19]; rfl
@[go_sem] theorem partA19 (cs : List PV) (k : Nat) : partA Tryz.prog 19 cs k = if k + 1 ≤ cs.length then some (.agg ((cs.drop k).take 1)) else none := by unfold partA isAggT; rw [Tryz.underlying19, info19]; rfl
@[go_sem] theorem zeroA19 : zeroA Tryz.prog 19 = some (.agg [.nilp]) := by unfold zeroA; rw [info19]; rfl
@[go_sem] theorem zeroOk19 : zeroOk Tryz.prog 19 = true := by unfold zeroOk; rw [zeroA19, cellsOf19]; rfl
@[go_sem] theorem field19_0 : fieldInfo Tryz.prog 19 0 = some (0, 17) := by unfold fieldInfo; rw [Tryz.underlying19]; show (match Tryz.prog.info? 17 with | some i => if i.size = 0 then none else some (0, 17) | none => none) = _; rw [info17]; rfl
attribute [go_sem] Tryz.underlying19
@[go_sem] theorem has20 : (Tryz.prog.info? 20).isSome = true := by rw [info20]; rfl
@[go_sem] theorem cellsOf20 : Tryz.prog.cellsOf 20 = 1 := by unfold Program.cellsOf; rw [info20]; rfl
@[go_sem] theorem bytesOf20 : bytesOf Tryz.prog 20 = 16 := by unfold bytesOf; rw [info20]; rfl
@[go_sem] theorem takeVar20 (cs : List PV) : takeVar Tryz.prog 20 cs = cs[0]? := by unfold takeVar isAggT; rw [Tryz.underlying20, info20]
@[go_sem] theorem partA20 (cs : List PV) (k : Nat) : partA Tryz.prog 20 cs k = cs[k]? := by unfold partA isAggT; rw [Tryz.underlying20, info20]
@[go_sem] theorem zeroA20 : zeroA Tryz.prog 20 = some .nilif := by unfold zeroA; rw [info20]; rfl
@[go_sem] theorem zeroOk20 : zeroOk Tryz.prog 20 = true := by unfold zeroOk; rw [zeroA20, cellsOf20]; rfl
attribute [go_sem] Tryz.underlying20
@[go_sem] theorem has22 : (Tryz.prog.info? 22).isSome = true := by rw [info22]; rfl
@[go_sem] theorem cellsOf22 : Tryz.prog.cellsOf 22 = 1 := by unfold Program.cellsOf; rw [info22]; rfl
@[go_sem] theorem bytesOf22 : bytesOf Tryz.prog 22 = 24 := by unfold bytesOf; rw [info22]; rfl
@[go_sem] theorem takeVar22 (cs : List PV) : takeVar Tryz.prog 22 cs = cs[0]? := by unfold takeVar isAggT; rw [Tryz.underlying22, info22]
@[go_sem] theorem partA22 (cs : List PV) (k : Nat) : partA Tryz.prog 22 cs k = cs[k]? := by unfold partA isAggT; rw [Tryz.underlying22, info22]
@[go_sem] theorem zeroA22 : zeroA Tryz.prog 22 = some .emp := by unfold zeroA; rw [info22]; rfl
@[go_sem] theorem zeroOk22 : zeroOk Tryz.prog 22 = true := by unfold zeroOk; rw [zeroA22, cellsOf22]; rfl
attribute [go_sem] Tryz.underlying22
@[go_sem] theorem has23 : (Tryz.prog.info? 23).isSome = true := by rw [info23]; rfl
@[go_sem] theorem cellsOf23 : Tryz.prog.cellsOf 23 = 1 := by unfold Program.cellsOf; rw [info23]; rfl
@[go_sem] theorem bytesOf23 : bytesOf Tryz.prog 23 = 24 := by unfold bytesOf; rw [info23]; rfl
@[go_sem] theorem takeVar23 (cs : List PV) : takeVar Tryz.prog 23 cs = cs[0]? := by unfold takeVar isAggT; rw [Tryz.underlying23, info23]
@[go_sem] theorem partA23 (cs : List PV) (k : Nat) : partA Tryz.prog 23 cs k = cs[k]? := by unfold partA isAggT; rw [Tryz.underlying23, info23]
@[go_sem] theorem zeroA23 : zeroA Tryz.prog 23 = some .emp := by unfold zeroA; rw [info23]; rfl
@[go_sem] theorem zeroOk23 : zeroOk Tryz.prog 23 = true := by unfold zeroOk; rw [zeroA23, cellsOf23]; rfl
attribute [go_sem] Tryz.underlying23
@[go_sem] theorem has24 : (Tryz.prog.info? 24).isSome = true := by rw [info24]; rfl
@[go_sem] theorem cellsOf24 : Tryz.prog.cellsOf 24 = 1 := by unfold Program.cellsOf; rw [info24]; rfl
@[go_sem] theorem bytesOf24 : bytesOf Tryz.prog 24 = 8 := by unfold bytesOf; rw [info24]; rfl
@[go_sem] theorem takeVar24 (cs : List PV) : takeVar Tryz.prog 24 cs = cs[0]? := by unfold takeVar isAggT; rw [Tryz.underlying24, info24]
@[go_sem] theorem partA24 (cs : List PV) (k : Nat) : partA Tryz.prog 24 cs k = cs[k]? := by unfold partA isAggT; rw [Tryz.underlying24, info24]
@[go_sem] theorem zeroA24 : zeroA Tryz.prog 24 = some .nilfn := by unfold zeroA; rw [info24]; rfl
@[go_sem] theorem zeroOk24 : zeroOk Tryz.prog 24 = true := by unfold zeroOk; rw [zeroA24, cellsOf24]; rfl
attribute [go_sem] Tryz.underlying24
@[go_sem] theorem has25 : (Tryz.prog.info? 25).isSome = true := by rw [info25]; rfl
@[go_sem] theorem cellsOf25 : Tryz.prog.cellsOf 25 = 1 := by unfold Program.cellsOf; rw [info25]; rfl
@[go_sem] theorem bytesOf25 : bytesOf Tryz.prog 25 = 8 := by unfold bytesOf; rw [info25]; rfl
@[go_sem] theorem takeVar25 (cs : List PV) : takeVar Tryz.prog 25 cs = cs[0]? := by unfold takeVar isAggT; rw [Tryz.underlying25, info25]
@[go_sem] theorem partA25 (cs : List PV) (k : Nat) : partA Tryz.prog 25 cs k = cs[k]? := by unfold partA isAggT; rw [Tryz.underlying25, info25]
@[go_sem] theorem zeroA25 : zeroA Tryz.prog 25 = some .nilfn := by unfold zeroA; rw [info25]; rfl
@[go_sem] theorem zeroOk25 : zeroOk Tryz.prog 25 = true := by unfold zeroOk; rw [zeroA25, cellsOf25]; rfl
attribute [go_sem] Tryz.underlying25
@[go_sem] theorem has26 : (Tryz.prog.info? 26).isSome = true := by rw [info26]; rfl
@[go_sem] theorem cellsOf26 : Tryz.prog.cellsOf 26 = 1 := by unfold Program.cellsOf; rw [info26]; rfl
@[go_sem] theorem bytesOf26 : bytesOf Tryz.prog 26 = 8 := by unfold bytesOf; rw [info26]; rfl
@[go_sem] theorem takeVar26 (cs : List PV) : takeVar Tryz.prog 26 cs = cs[0]? := by unfold takeVar isAggT; rw [Tryz.underlying26, info26]
@[go_sem] theorem partA26 (cs : List PV) (k : Nat) : partA Tryz.prog 26 cs k = cs[k]? := by unfold partA isAggT; rw [Tryz.underlying26, info26]
@[go_sem] theorem zeroA26 : zeroA Tryz.prog 26 = some .nilfn := by unfold zeroA; rw [info26]; rfl
@[go_sem] theorem zeroOk26 : zeroOk Tryz.prog 26 = true := by unfold zeroOk; rw [zeroA26, cellsOf26]; rfl
attribute [go_sem] Tryz.underlying26
@[go_sem] theorem has27 : (Tryz.prog.info? 27).isSome = true := by rw [info27]; rfl
@[go_sem] theorem cellsOf27 : Tryz.prog.cellsOf 27 = 1 := by unfold Program.cellsOf; rw [info27]; rfl
@[go_sem] theorem bytesOf27 : bytesOf Tryz.prog 27 = 8 := by unfold bytesOf; rw [info27]; rfl
@[go_sem] theorem takeVar27 (cs : List PV) : takeVar Tryz.prog 27 cs = cs[0]? := by unfold takeVar isAggT; rw [Tryz.underlying27, info27]
@[go_sem] theorem partA27 (cs : List PV) (k : Nat) : partA Tryz.prog 27 cs k = cs[k]? := by unfold partA isAggT; rw [Tryz.underlying27, info27]
@[go_sem] theorem zeroA27 : zeroA Tryz.prog 27 = some .nilfn := by unfold zeroA; rw [info27]; rfl
@[go_sem] theorem zeroOk27 : zeroOk Tryz.prog 27 = true := by unfold zeroOk; rw [zeroA27, cellsOf27]; rfl
attribute [go_sem] Tryz.underlying27
@[go_sem] theorem has28 : (Tryz.prog.info? 28).isSome = true := by rw [info28]; rfl
@[go_sem] theorem cellsOf28 : Tryz.prog.cellsOf 28 = 2 := by unfold Program.cellsOf; rw [info28]; rfl
@[go_sem] theorem bytesOf28 : bytesOf Tryz.prog 28 = 16 := by unfold bytesOf; rw [info28]; rfl
@[go_sem] theorem takeVar28 (cs : List PV) : takeVar Tryz.prog 28 cs = if 2 ≤ cs.length then some (.agg (cs.take 2)) else none := by unfold takeVar isAggT; rw [Tryz.underlying28, info28]; rfl
@[go_sem] theorem partA28 (cs : List PV) (k : Nat) : partA Tryz.prog 28 cs k = if k + 2 ≤ cs.length then some (.agg ((cs.drop k).take 2)) else none := by unfold partA isAggT; rw [Tryz.underlying28, info28]; rfl
@[go_sem] theorem zeroA28 : zeroA Tryz.prog 28 = some (.agg [(.int IntKind.i64 0), (.int IntKind.i64 0)]) := by unfold zeroA; rw [info28]; rfl
@[go_sem] theorem zeroOk28 : zeroOk Tryz.prog 28 = true := by unfold zeroOk; rw [zeroA28, cellsOf28]; rfl
@[go_sem] theorem field28_0 : fieldInfo Tryz.prog 28 0 = some (0, 3) := by unfold fieldInfo; rw [Tryz.underlying28]; show (match Tryz.prog.info? 3 with | some i => if i.size = 0 then none else some (0, 3) | none => none) = _; rw [info3]; rfl
@[go_sem] theorem field28_1 : fieldInfo Tryz.prog 28 1 = some (1, 3) := by unfold fieldInfo; rw [Tryz.underlying28]; show (match Tryz.prog.info? 3 with | some i => if i.size = 0 then none else some (1, 3) | none => none) = _; rw [info3]; rfl
attribute [go_sem] Tryz.underlying28
@[go_sem] theorem has29 : (Tryz.prog.info? 29).isSome = true := by rw [info29]; rfl
@[go_sem] theorem cellsOf29 : Tryz.prog.cellsOf 29 = 2 := by unfold Program.cellsOf; rw [info29]; rfl
@[go_sem] theorem bytesOf29 : bytesOf Tryz.prog 29 = 16 := by unfold bytesOf; rw [info29]; rfl
@[go_sem] theorem takeVar29 (cs : List PV) : takeVar Tryz.prog 29 cs = if 2 ≤ cs.length then some (.agg (cs.take 2)) else none := by unfold takeVar isAggT; rw [Tryz.underlying29, info29]; rfl
@[go_sem] theorem partA29 (cs : List PV) (k : Nat) : partA Tryz.prog 29 cs k = if k + 2 ≤ cs.length then some (.agg ((cs.drop k).take 2)) else none := by unfold partA isAggT; rw [Tryz.underlying29, info29]; rfl
@[go_sem] theorem zeroA29 : zeroA Tryz.prog 29 = some (.agg [(.int IntKind.i64 0), (.int IntKind.i64 0)]) := by unfold zeroA; rw [info29]; rfl
@[go_sem] theorem zeroOk29 : zeroOk Tryz.prog 29 = true := by unfold zeroOk; rw [zeroA29, cellsOf29]; rfl
@[go_sem] theorem field29_0 : fieldInfo Tryz.prog 29 0 = some (0, 3) := by unfold fieldInfo; rw [Tryz.underlying29]; show (match Tryz.prog.info? 3 with | some i => if i.size = 0 then none else some (0, 3) | none => none) = _; rw [info3]; rfl
@[go_sem] theorem field29_1 : fieldInfo Tryz.prog 29 1 = some (1, 3) := by unfold fieldInfo; rw [Tryz.underlying29]; show (match Tryz.prog.info? 3 with | some i => if i.size = 0 then none else some (1, 3) | none => none) = _; rw [info3]; rfl
attribute [go_sem] Tryz.underlying29
@[go_sem] theorem has30 : (Tryz.prog.info? 30).isSome = true := by rw [info30]; rfl
@[go_sem] theorem cellsOf30 : Tryz.prog.cellsOf 30 = 1 := by unfold Program.cellsOf; rw [info30]; rfl
@[go_sem] theorem bytesOf30 : bytesOf Tryz.prog 30 = 8 := by unfold bytesOf; rw [info30]; rfl
@[go_sem] theorem takeVar30 (cs : List PV) : takeVar Tryz.prog 30 cs = cs[0]? := by unfold takeVar isAggT; rw [Tryz.underlying30, info30]
@[go_sem] theorem partA30 (cs : List PV) (k : Nat) : partA Tryz.prog 30 cs k = cs[k]? := by unfold partA isAggT; rw [Tryz.underlying30, info30]
@[go_sem] theorem zeroA30 : zeroA Tryz.prog 30 = some .nilfn := by unfold zeroA; rw [info30]; rfl
@[go_sem] theorem zeroOk30 : zeroOk Tryz.prog 30 = true := by unfold zeroOk; rw [zeroA30, cellsOf30]; rfl
attribute [go_sem] Tryz.underlying30
@[go_sem] theorem has31 : (Tryz.prog.info? 31).isSome = true := by rw [info31]; rfl
@[go_sem] theorem cellsOf31 : Tryz.prog.cellsOf 31 = 1 := by unfold Program.cellsOf; rw [info31]; rfl
@[go_sem] theorem bytesOf31 : bytesOf Tryz.prog 31 = 24 := by unfold bytesOf; rw [info31]; rfl
@[go_sem] theorem takeVar31 (cs : List PV) : takeVar Tryz.prog 31 cs = cs[0]? := by unfold takeVar isAggT; rw [Tryz.underlying31, info31]
@[go_sem] theorem partA31 (cs : List PV) (k : Nat) : partA Tryz.prog 31 cs k = cs[k]? := by unfold partA isAggT; rw [Tryz.underlying31, info31]
@[go_sem] theorem zeroA31 : zeroA Tryz.prog 31 = some .emp := by unfold zeroA; rw [info31]; rfl
@[go_sem] theorem zeroOk31 : zeroOk Tryz.prog 31 = true := by unfold zeroOk; rw [zeroA31, cellsOf31]; rfl
attribute [go_sem] Tryz.underlying31
@[go_sem] theorem has32 : (Tryz.prog.info? 32).isSome = true := by rw [info32]; rfl
@[go_sem] theorem cellsOf32 : Tryz.prog.cellsOf 32 = 3 := by unfold Program.cellsOf; rw [info32]; rfl
@[go_sem] theorem bytesOf32 : bytesOf Tryz.prog 32 = 72 := by unfold bytesOf; rw [info32]; rfl
@[go_sem] theorem takeVar32 (cs : List PV) : takeVar Tryz.prog 32 cs = if 3 ≤ cs.length then some (.agg (cs.take 3)) else none := by unfold takeVar isAggT; rw [Tryz.underlying32, info32]; rfl
@[go_sem] theorem partA32 (cs : List PV) (k : Nat) : partA Tryz.prog 32 cs k = if k + 3 ≤ cs.length then some (.agg ((cs.drop k).take 3)) else none := by unfold partA isAggT; rw [Tryz.underlying32, info32]; rfl
@[go_sem] theorem zeroA32 : zeroA Tryz.prog 32 = some (.agg [.emp, .emp, .emp]) := by unfold zeroA; rw [info32]; rfl
@[go_sem] theorem zeroOk32 : zeroOk Tryz.prog 32 = true := by unfold zeroOk; rw [zeroA32, cellsOf32]; rfl
@[go_sem] theorem field32_0 : fieldInfo Tryz.prog 32 0 = some (0, 31) := by unfold fieldInfo; rw [Tryz.underlying32]; show (match Tryz.prog.info? 31 with | some i => if i.size = 0 then none else some (0, 31) | none => none) = _; rw [info31]; rfl
@[go_sem] theorem field32_1 : fieldInfo Tryz.prog 32 1 = some (1, 31) := by unfold fieldInfo; rw [Tryz.underlying32]; show (match Tryz.prog.info? 31 with | some i => if i.size = 0 then none else some (1, 31) | none => none) = _; rw [info31]; rfl
@[go_sem] theorem field32_2 : fieldInfo Tryz.prog 32 2 = some (2, 31) := by unfold fieldInfo; rw [Tryz.underlying32]; show (match Tryz.prog.info? 31 with | some i => if i.size = 0 then none else some (2, 31) | none => none) = _; rw [info31]; rfl
attribute [go_sem] Tryz.underlying32
@[go_sem] theorem has33 : (Tryz.prog.info? 33).isSome = true := by rw [info33]; rfl
@[go_sem] theorem cellsOf33 : Tryz.prog.cellsOf 33 = 3 := by unfold Program.cellsOf; rw [info33]; rfl
@[go_sem] theorem bytesOf33 : bytesOf Tryz.prog 33 = 72 := by unfold bytesOf; rw [info33]; rfl
@[go_sem] theorem takeVar33 (cs : List PV) : takeVar Tryz.prog 33 cs = if 3 ≤ cs.length then some (.agg (cs.take 3)) else none := by unfold takeVar isAggT; rw [Tryz.underlying33, info33]; rfl
@[go_sem] theorem partA33 (cs : List PV) (k : Nat) : partA Tryz.prog 33 cs k = if k + 3 ≤ cs.length then some (.agg ((cs.drop k).take 3)) else none := by unfold partA isAggT; rw [Tryz.underlying33, info33]; rfl
@[go_sem] theorem zeroA33 : zeroA Tryz.prog 33 = some (.agg [.emp, .emp, .emp]) := by unfold zeroA; rw [info33]; rfl
@[go_sem] theorem zeroOk33 : zeroOk Tryz.prog 33 = true := by unfold zeroOk; rw [zeroA33, cellsOf33]; rfl
@[go_sem] theorem field33_0 : fieldInfo Tryz.prog 33 0 = some (0, 31) := by unfold fieldInfo; rw [Tryz.underlying33]; show (match Tryz.prog.info? 31 with | some i => if i.size = 0 then none else some (0, 31) | none => none) = _; rw [info31]; rfl
@[go_sem] theorem field33_1 : fieldInfo Tryz.prog 33 1 = some (1, 31) := by unfold fieldInfo; rw [Tryz.underlying33]; show (match Tryz.prog.info? 31 with | some i => if i.size = 0 then none else some (1, 31) | none => none) = _; rw [info31]; rfl
@[go_sem] theorem field33_2 : fieldInfo Tryz.prog 33 2 = some (2, 31) := by unfold fieldInfo; rw [Tryz.underlying33]; show (match Tryz.prog.info? 31 with | some i => if i.size = 0 then none else some (2, 31) | none => none) = _; rw [info31]; rfl
attribute [go_sem] Tryz.underlying33
@[go_sem] theorem has35 : (Tryz.prog.info? 35).isSome = true := by rw [info35]; rfl
@[go_sem] theorem cellsOf35 : Tryz.prog.cellsOf 35 = 1 := by unfold Program.cellsOf; rw [info35]; rfl
@[go_sem] theorem bytesOf35 : bytesOf Tryz.prog 35 = 8 := by unfold bytesOf; rw [info35]; rfl
@[go_sem] theorem takeVar35 (cs : List PV) : takeVar Tryz.prog 35 cs = cs[0]? := by unfold takeVar isAggT; rw [Tryz.underlying35, info35]
@[go_sem] theorem partA35 (cs : List PV) (k : Nat) : partA Tryz.prog 35 cs k = cs[k]? := by unfold partA isAggT; rw [Tryz.underlying35, info35]
@[go_sem] theorem zeroA35 : zeroA Tryz.prog 35 = some .nilfn := by unfold zeroA; rw [info35]; rfl
@[go_sem] theorem zeroOk35 : zeroOk Tryz.prog 35 = true := by unfold zeroOk; rw [zeroA35, cellsOf35]; rfl
attribute [go_sem] Tryz.underlying35
@[go_sem] theorem has38 : (Tryz.prog.info? 38).isSome = true := by rw [info38]; rfl
@[go_sem] theorem cellsOf38 : Tryz.prog.cellsOf 38 = 1 := by unfold Program.cellsOf; rw [info38]; rfl
@[go_sem] theorem bytesOf38 : bytesOf Tryz.prog 38 = 8 := by unfold bytesOf; rw [info38]; rfl
@[go_sem] theorem takeVar38 (cs : List PV) : takeVar Tryz.prog 38 cs = cs[0]? := by unfold takeVar isAggT; rw [Tryz.underlying38, info38]
@[go_sem] theorem partA38 (cs : List PV) (k : Nat) : partA Tryz.prog 38 cs k = cs[k]? := by unfold partA isAggT; rw [Tryz.underlying38, info38]
@[go_sem] theorem zeroA38 : zeroA Tryz.prog 38 = some .nilfn := by unfold zeroA; rw [info38]; rfl
@[go_sem] theorem zeroOk38 : zeroOk Tryz.prog 38 = true := by unfold zeroOk; rw [zeroA38, cellsOf38]; rfl
attribute [go_sem] Tryz.underlying38
@[go_sem] theorem has39 : (Tryz.prog.info? 39).isSome = true := by rw [info39]; rfl
@[go_sem] theorem cellsOf39 : Tryz.prog.cellsOf 39 = 1 := by unfold Program.cellsOf; rw [info39]; rfl
@[go_sem] theorem bytesOf39 : bytesOf Tryz.prog 39 = 8 := by unfold bytesOf; rw [info39]; rfl
@[go_sem] theorem takeVar39 (cs : List PV) : takeVar Tryz.prog 39 cs = cs[0]? := by unfold takeVar isAggT; rw [Tryz.underlying39, info39]
@[go_sem] theorem partA39 (cs : List PV) (k : Nat) : partA Tryz.prog 39 cs k = cs[k]? := by unfold partA isAggT; rw [Tryz.underlying39, info39]
@[go_sem] theorem zeroA39 : zeroA Tryz.prog 39 = some .nilfn := by unfold zeroA; rw [info39]; rfl
@[go_sem] theorem zeroOk39 : zeroOk Tryz.prog 39 = true := by unfold zeroOk; rw [zeroA39, cellsOf39]; rfl
attribute [go_sem] Tryz.underlying39
@[go_sem] theorem has40 : (Tryz.prog.info? 40).isSome = true := by rw [info40]; rfl
@[go_sem] theorem cellsOf40 : Tryz.prog.cellsOf 40 = 1 := by unfold Program.cellsOf; rw [info40]; rfl
@[go_sem] theorem bytesOf40 : bytesOf Tryz.prog 40 = 8 := by unfold bytesOf; rw [info40]; rfl
@[go_sem] theorem takeVar40 (cs : List PV) : takeVar Tryz.prog 40 cs = cs[0]? := by unfold takeVar isAggT; rw [Tryz.underlying40, info40]
@[go_sem] theorem partA40 (cs : List PV) (k : Nat) : partA Tryz.prog 40 cs k = cs[k]? := by unfold partA isAggT; rw [Tryz.underlying40, info40]
@[go_sem] theorem zeroA40 : zeroA Tryz.prog 40 = some .nilfn := by unfold zeroA; rw [info40]; rfl
@[go_sem] theorem zeroOk40 : zeroOk Tryz.prog 40 = true := by unfold zeroOk; rw [zeroA40, cellsOf40]; rfl
attribute [go_sem] Tryz.underlying40
@[go_sem] theorem has41 : (Tryz.prog.info? 41).isSome = true := by rw [info41]; rfl
@[go_sem] theorem cellsOf41 : Tryz.prog.cellsOf 41 = 1 := by unfold Program.cellsOf; rw [info41]; rfl
@[go_sem] theorem bytesOf41 : bytesOf Tryz.prog 41 = 24 := by unfold bytesOf; rw [info41]; rfl
@[go_sem] theorem takeVar41 (cs : List PV) : takeVar Tryz.prog 41 cs = cs[0]? := by unfold takeVar isAggT; rw [Tryz.underlying41, info41]
@[go_sem] theorem partA41 (cs : List PV) (k : Nat) : partA Tryz.prog 41 cs k = cs[k]? := by unfold partA isAggT; rw [Tryz.underlying41, info41]
@[go_sem] theorem zeroA41 : zeroA Tryz.prog 41 = some .emp := by unfold zeroA; rw [info41]; rfl
@[go_sem] theorem zeroOk41 : zeroOk Tryz.prog 41 = true := by unfold zeroOk; rw [zeroA41, cellsOf41]; rfl
attribute [go_sem] Tryz.underlying41
@[go_sem] theorem has42 : (Tryz.prog.info? 42).isSome = true := by rw [info42]; rfl
@[go_sem] theorem cellsOf42 : Tryz.prog.cellsOf 42 = 1 := by unfold Program.cellsOf; rw [info42]; rfl
@[go_sem] theorem bytesOf42 : bytesOf Tryz.prog 42 = 8 := by unfold bytesOf; rw [info42]; rfl
@[go_sem] theorem takeVar42 (cs : List PV) : takeVar Tryz.prog 42 cs = cs[0]? := by unfold takeVar isAggT; rw [Tryz.underlying42, info42]
@[go_sem] theorem partA42 (cs : List PV) (k : Nat) : partA Tryz.prog 42 cs k = cs[k]? := by unfold partA isAggT; rw [Tryz.underlying42, info42]
@[go_sem] theorem zeroA42 : zeroA Tryz.prog 42 = some .nilfn := by unfold zeroA; rw [info42]; rfl
@[go_sem] theorem zeroOk42 : zeroOk Tryz.prog 42 = true := by unfold zeroOk; rw [zeroA42, cellsOf42]; rfl
attribute [go_sem] Tryz.underlying42
@[go_sem] theorem has44 : (Tryz.prog.info? 44).isSome = true := by rw [info44]; rfl
@[go_sem] theorem cellsOf44 : Tryz.prog.cellsOf 44 = 1 := by unfold Program.cellsOf; rw [info44]; rfl
@[go_sem] theorem bytesOf44 : bytesOf Tryz.prog 44 = 8 := by unfold bytesOf; rw [info44]; rfl
@[go_sem] theorem takeVar44 (cs : List PV) : takeVar Tryz.prog 44 cs = cs[0]? := by unfold takeVar isAggT; rw [Tryz.underlying44, info44]
@[go_sem] theorem partA44 (cs : List PV) (k : Nat) : partA Tryz.prog 44 cs k = cs[k]? := by unfold partA isAggT; rw [Tryz.underlying44, info44]
@[go_sem] theorem zeroA44 : zeroA Tryz.prog 44 = some .nilfn := by unfold zeroA; rw [info44]; rfl
@[go_sem] theorem zeroOk44 : zeroOk Tryz.prog 44 = true := by unfold zeroOk; rw [zeroA44, cellsOf44]; rfl
attribute [go_sem] Tryz.underlying44
@[go_sem] theorem has45 : (Tryz.prog.info? 45).isSome = true := by rw [info45]; rfl
@[go_sem] theorem cellsOf45 : Tryz.prog.cellsOf 45 = 1 := by unfold Program.cellsOf; rw [info45]; rfl
@[go_sem] theorem bytesOf45 : bytesOf Tryz.prog 45 = 8 := by unfold bytesOf; rw [info45]; rfl
@[go_sem] theorem takeVar45 (cs : List PV) : takeVar Tryz.prog 45 cs = cs[0]? := by unfold takeVar isAggT; rw [Tryz.underlying45, info45]
@[go_sem] theorem partA45 (cs : List PV) (k : Nat) : partA Tryz.prog 45 cs k = cs[k]? := by unfold partA isAggT; rw [Tryz.underlying45, info45]
@[go_sem] theorem zeroA45 : zeroA Tryz.prog 45 = some .nilfn := by unfold zeroA; rw [info45]; rfl
@[go_sem] theorem zeroOk45 : zeroOk Tryz.prog 45 = true := by unfold zeroOk; rw [zeroA45, cellsOf45]; rfl
attribute [go_sem] Tryz.underlying45
@[go_sem] theorem has46 : (Tryz.prog.info? 46).isSome = true := by rw [info46]; rfl
@[go_sem] theorem cellsOf46 : Tryz.prog.cellsOf 46 = 1 := by unfold Program.cellsOf; rw [info46]; rfl
@[go_sem] theorem bytesOf46 : bytesOf Tryz.prog 46 = 8 := by unfold bytesOf; rw [info46]; rfl
@[go_sem] theorem takeVar46 (cs : List PV) : takeVar Tryz.prog 46 cs = cs[0]? := by unfold takeVar isAggT; rw [Tryz.underlying46, info46]
@[go_sem] theorem partA46 (cs : List PV) (k : Nat) : partA Tryz.prog 46 cs k = cs[k]? := by unfold partA isAggT; rw [Tryz.underlying46, info46]
@[go_sem] theorem zeroA46 : zeroA Tryz.prog 46 = some .nilfn := by unfold zeroA; rw [info46]; rfl
@[go_sem] theorem zeroOk46 : zeroOk Tryz.prog 46 = true := by unfold zeroOk; rw [zeroA46, cellsOf46]; rfl
attribute [go_sem] Tryz.underlying46
@[go_sem] theorem has47 : (Tryz.prog.info? 47).isSome = true := by rw [info47]; rfl
@[go_sem] theorem cellsOf47 : Tryz.prog.cellsOf 47 = 1 := by unfold Program.cellsOf; rw [info47]; rfl
@[go_sem] theorem bytesOf47 : bytesOf Tryz.prog 47 = 8 := by unfold bytesOf; rw [info47]; rfl
@[go_sem] theorem takeVar47 (cs : List PV) : takeVar Tryz.prog 47 cs = cs[0]? := by unfold takeVar isAggT; rw [Tryz.underlying47, info47]
@[go_sem] theorem partA47 (cs : List PV) (k : Nat) : partA Tryz.prog 47 cs k = cs[k]? := by unfold partA isAggT; rw [Tryz.underlying47, info47]
@[go_sem] theorem zeroA47 : zeroA Tryz.prog 47 = some .nilfn := by unfold zeroA; rw [info47]; rfl
@[go_sem] theorem zeroOk47 : zeroOk Tryz.prog 47 = true := by unfold zeroOk; rw [zeroA47, cellsOf47]; rfl
attribute [go_sem] Tryz.underlying47
@[go_sem] theorem has48 : (Tryz.prog.info? 48).isSome = true := by rw [info48]; rfl
@[go_sem] theorem cellsOf48 : Tryz.prog.cellsOf 48 = 1 := by unfold Program.cellsOf; rw [info48]; rfl
@[go_sem] theorem bytesOf48 : bytesOf Tryz.prog 48 = 24 := by unfold bytesOf; rw [info48]; rfl
@[go_sem] theorem takeVar48 (cs : List PV) : takeVar Tryz.prog 48 cs = cs[0]? := by unfold takeVar isAggT; rw [Tryz.underlying48, info48]
@[go_sem] theorem partA48 (cs : List PV) (k : Nat) : partA Tryz.prog 48 cs k = cs[k]? := by unfold partA isAggT; rw [Tryz.underlying48, info48]
@[go_sem] theorem zeroA48 : zeroA Tryz.prog 48 = some .emp := by unfold zeroA; rw [info48]; rfl
@[go_sem] theorem zeroOk48 : zeroOk Tryz.prog 48 = true := by unfold zeroOk; rw [zeroA48, cellsOf48]; rfl
attribute [go_sem] Tryz.underlying48
@[go_sem] theorem has49 : (Tryz.prog.info? 49).isSome = true := by rw [info49]; rfl
@[go_sem] theorem cellsOf49 : Tryz.prog.cellsOf 49 = 5 := by unfold Program.cellsOf; rw [info49]; rfl
@[go_sem] theorem bytesOf49 : bytesOf Tryz.prog 49 = 56 := by unfold bytesOf; rw [info49]; rfl
@[go_sem] theorem takeVar49 (cs : List PV) : takeVar Tryz.prog 49 cs = if 5 ≤ cs.length then some (.agg (cs.take 5)) else none := by unfold takeVar isAggT; rw [Tryz.underlying49, info49]; rfl
@[go_sem] theorem partA49 (cs : List PV) (k : Nat) : partA Tryz.prog 49 cs k = if k + 5 ≤ cs.length then some (.agg ((cs.drop k).take 5)) else none := by unfold partA isAggT; rw [Tryz.underlying49, info49]; rfl
@[go_sem] theorem zeroA49 : zeroA Tryz.prog 49 = some (.agg [(.int IntKind.i64 0), (.int IntKind.i64 0), (.int IntKind.i64 0), (.int IntKind.i64 0), .emp]) := by unfold zeroA; rw [info49]; rfl
@[go_sem] theorem zeroOk49 : zeroOk Tryz.prog 49 = true := by unfold zeroOk; rw [zeroA49, cellsOf49]; rfl
@[go_sem] theorem field49_0 : fieldInfo Tryz.prog 49 0 = some (0, 3) := by unfold fieldInfo; rw [Tryz.underlying49]; show (match Tryz.prog.info? 3 with | some i => if i.size = 0 then none else some (0, 3) | none => none) = _; rw [info3]; rfl
@[go_sem] theorem field49_1 : fieldInfo Tryz.prog 49 1 = some (1, 3) := by unfold fieldInfo; rw [Tryz.underlying49]; show (match Tryz.prog.info? 3 with | some i => if i.size = 0 then none else some (1, 3) | none => none) = _; rw [info3]; rfl
@[go_sem] theorem field49_2 : fieldInfo Tryz.prog 49 2 = some (2, 29) := by unfold fieldInfo; rw [Tryz.underlying49]; show (match Tryz.prog.info? 29 with | some i => if i.size = 0 then none else some (2, 29) | none => none) = _; rw [info29]; rfl
@[go_sem] theorem field49_3 : fieldInfo Tryz.prog 49 3 = some (4, 48) := by unfold fieldInfo; rw [Tryz.underlying49]; show (match Tryz.prog.info? 48 with | some i => if i.size = 0 then none else some (4, 48) | none => none) = _; rw [info48]; rfl
attribute [go_sem] Tryz.underlying49
@[go_sem] theorem has50 : (Tryz.prog.info? 50).isSome = true := by rw [info50]; rfl
@[go_sem] theorem cellsOf50 : Tryz.prog.cellsOf 50 = 5 := by unfold Program.cellsOf; rw [info50]; rfl
@[go_sem] theorem bytesOf50 : bytesOf Tryz.prog 50 = 56 := by unfold bytesOf; rw [info50]; rfl
@[go_sem] theorem takeVar50 (cs : List PV) : takeVar Tryz.prog 50 cs = if 5 ≤ cs.length then some (.agg (cs.take 5)) else none := by unfold takeVar isAggT; rw [Tryz.underlying50, info50]; rfl
@[go_sem] theorem partA50 (cs : List PV) (k : Nat) : partA Tryz.prog 50 cs k = if k + 5 ≤ cs.length then some (.agg ((cs.drop k).take 5)) else none := by unfold partA isAggT; rw [Tryz.underlying50, info50]; rfl
@[go_sem] theorem zeroA50 : zeroA Tryz.prog 50 = some (.agg [(.int IntKind.i64 0), (.int IntKind.i64 0), (.int IntKind.i64 0), (.int IntKind.i64 0), .emp]) := by unfold zeroA; rw [info50]; rfl
@[go_sem] theorem zeroOk50 : zeroOk Tryz.prog 50 = true := by unfold zeroOk; rw [zeroA50, cellsOf50]; rfl
@[go_sem] theorem field50_0 : fieldInfo Tryz.prog 50 0 = some (0, 3) := by unfold fieldInfo; rw [Tryz.underlying50]; show (match Tryz.prog.info? 3 with | some i => if i.size = 0 then none else some (0, 3) | none => none) = _; rw [info3]; rfl
@[go_sem] theorem field50_1 : fieldInfo Tryz.prog 50 1 = some (1, 3) := by unfold fieldInfo; rw [Tryz.underlying50]; show (match Tryz.prog.info? 3 with | some i => if i.size = 0 then none else some (1, 3) | none => none) = _; rw [info3]; rfl
@[go_sem] theorem field50_2 : fieldInfo Tryz.prog 50 2 = some (2, 29) := by unfold fieldInfo; rw [Tryz.underlying50]; show (match Tryz.prog.info? 29 with | some i => if i.size = 0 then none else some (2, 29) | none => none) = _; rw [info29]; rfl
@[go_sem] theorem field50_3 : fieldInfo Tryz.prog 50 3 = some (4, 48) := by unfold fieldInfo; rw [Tryz.underlying50]; show (match Tryz.prog.info? 48 with | some i => if i.size = 0 then none else some (4, 48) | none => none) = _; rw [info48]; rfl
attribute [go_sem] Tryz.underlying50
@[go_sem] theorem has51 : (Tryz.prog.info? 51).isSome = true := by rw [info51]; rfl
@[go_sem] theorem cellsOf51 : Tryz.prog.cellsOf 51 = 10 := by unfold Program.cellsOf; rw [info51]; rfl
@[go_sem] theorem bytesOf51 : bytesOf Tryz.prog 51 = 128 := by unfold bytesOf; rw [info51]; rfl
@[go_sem] theorem takeVar51 (cs : List PV) : takeVar Tryz.prog 51 cs = if 10 ≤ cs.length then some (.agg (cs.take 10)) else none := by unfold takeVar isAggT; rw [Tryz.underlying51, info51]; rfl
@[go_sem] theorem partA51 (cs : List PV) (k : Nat) : partA Tryz.prog 51 cs k = if k + 10 ≤ cs.length then some (.agg ((cs.drop k).take 10)) else none := by unfold partA isAggT; rw [Tryz.underlying51, info51]; rfl
@[go_sem] theorem zeroA51 : zeroA Tryz.prog 51 = some (.agg [(.int IntKind.i64 0), (.int IntKind.i64 0), (.int IntKind.i64 0), (.int IntKind.i64 0), (.int IntKind.i64 0), (.int IntKind.i64 0), (.int IntKind.i64 0), .emp, .emp, .emp]) := by unfold zeroA; rw [info51]; rfl
@[go_sem] theorem zeroOk51 : zeroOk Tryz.prog 51 = true := by unfold zeroOk; rw [zeroA51, cellsOf51]; rfl
@[go_sem] theorem field51_0 : fieldInfo Tryz.prog 51 0 = some (0, 3) := by unfold fieldInfo; rw [Tryz.underlying51]; show (match Tryz.prog.info? 3 with | some i => if i.size = 0 then none else some (0, 3) | none => none) = _; rw [info3]; rfl
@[go_sem] theorem field51_1 : fieldInfo Tryz.prog 51 1 = some (1, 29) := by unfold fieldInfo; rw [Tryz.underlying51]; show (match Tryz.prog.info? 29 with | some i => if i.size = 0 then none else some (1, 29) | none => none) = _; rw [info29]; rfl
@[go_sem] theorem field51_2 : fieldInfo Tryz.prog 51 2 = some (3, 50) := by unfold fieldInfo; rw [Tryz.underlying51]; show (match Tryz.prog.info? 50 with | some i => if i.size = 0 then none else some (3, 50) | none => none) = _; rw [info50]; rfl
@[go_sem] theorem field51_3 : fieldInfo Tryz.prog 51 3 = some (8, 23) := by unfold fieldInfo; rw [Tryz.underlying51]; show (match Tryz.prog.info? 23 with | some i => if i.size = 0 then none else some (8, 23) | none => none) = _; rw [info23]; rfl
@[go_sem] theorem field51_4 : fieldInfo Tryz.prog 51 4 = some (9, 23) := by unfold fieldInfo; rw [Tryz.underlying51]; show (match Tryz.prog.info? 23 with | some i => if i.size = 0 then none else some (9, 23) | none => none) = _; rw [info23]; rfl
attribute [go_sem] Tryz.underlying51
@[go_sem] theorem has52 : (Tryz.prog.info? 52).isSome = true := by rw [info52]; rfl
@[go_sem] theorem cellsOf52 : Tryz.prog.cellsOf 52 = 10 := by unfold Program.cellsOf; rw [info52]; rfl
@[go_sem] theorem bytesOf52 : bytesOf Tryz.prog 52 = 128 := by unfold bytesOf; rw [info52]; rfl
@[go_sem] theorem takeVar52 (cs : List PV) : takeVar Tryz.prog 52 cs = if 10 ≤ cs.length then some (.agg (cs.take 10)) else none := by unfold takeVar isAggT; rw [Tryz.underlying52, info52]; rfl
@[go_sem] theorem partA52 (cs : List PV) (k : Nat) : partA Tryz.prog 52 cs k = if k + 10 ≤ cs.length then some (.agg ((cs.drop k).take 10)) else none := by unfold partA isAggT; rw [Tryz.underlying52, info52]; rfl
@[go_sem] theorem zeroA52 : zeroA Tryz.prog 52 = some (.agg [(.int IntKind.i64 0), (.int IntKind.i64 0), (.int IntKind.i64 0), (.int IntKind.i64 0), (.int IntKind.i64 0), (.int IntKind.i64 0), (.int IntKind.i64 0), .emp, .emp, .emp]) := by unfold zeroA; rw [info52]; rfl
@[go_sem] theorem zeroOk52 : zeroOk Tryz.prog 52 = true := by unfold zeroOk; rw [zeroA52, cellsOf52]; rfl
@[go_sem] theorem field52_0 : fieldInfo Tryz.prog 52 0 = some (0, 3) := by unfold fieldInfo; rw [Tryz.underlying52]; show (match Tryz.prog.info? 3 with | some i => if i.size = 0 then none else some (0, 3) | none => none) = _; rw [info3]; rfl
@[go_sem] theorem field52_1 : fieldInfo Tryz.prog 52 1 = some (1, 29) := by unfold fieldInfo; rw [Tryz.underlying52]; show (match Tryz.prog.info? 29 with | some i => if i.size = 0 then none else some (1, 29) | none => none) = _; rw [info29]; rfl
@[go_sem] theorem field52_2 : fieldInfo Tryz.prog 52 2 = some (3, 50) := by unfold fieldInfo; rw [Tryz.underlying52]; show (match Tryz.prog.info? 50 with | some i => if i.size = 0 then none else some (3, 50) | none => none) = _; rw [info50]; rfl
@[go_sem] theorem field52_3 : fieldInfo Tryz.prog 52 3 = some (8, 23) := by unfold fieldInfo; rw [Tryz.underlying52]; show (match Tryz.prog.info? 23 with | some i => if i.size = 0 then none else some (8, 23) | none => none) = _; rw [info23]; rfl
@[go_sem] theorem field52_4 : fieldInfo Tryz.prog 52 4 = some (9, 23) := by unfold fieldInfo; rw [Tryz.underlying52]; show (match Tryz.prog.info? 23 with | some i => if i.size = 0 then none else some (9, 23) | none => none) = _; rw [info23]; rfl
attribute [go_sem] Tryz.underlying52
@[go_sem] theorem has53 : (Tryz.prog.info? 53).isSome = true := by rw [info53]; rfl
@[go_sem] theorem cellsOf53 : Tryz.prog.cellsOf 53 = 1 := by unfold Program.cellsOf; rw [info53]; rfl
@[go_sem] theorem bytesOf53 : bytesOf Tryz.prog 53 = 8 := by unfold bytesOf; rw [info53]; rfl
@[go_sem] theorem takeVar53 (cs : List PV) : takeVar Tryz.prog 53 cs = cs[0]? := by unfold takeVar isAggT; rw [Tryz.underlying53, info53]
@[go_sem] theorem partA53 (cs : List PV) (k : Nat) : partA Tryz.prog 53 cs k = cs[k]? := by unfold partA isAggT; rw [Tryz.underlying53, info53]
@[go_sem] theorem zeroA53 : zeroA Tryz.prog 53 = some .nilfn := by unfold zeroA; rw [info53]; rfl
@[go_sem] theorem zeroOk53 : zeroOk Tryz.prog 53 = true := by unfold zeroOk; rw [zeroA53, cellsOf53]; rfl
attribute [go_sem] Tryz.underlying53
@[go_sem] theorem has54 : (Tryz.prog.info? 54).isSome = true := by rw [info54]; rfl
@[go_sem] theorem cellsOf54 : Tryz.prog.cellsOf 54 = 1 := by unfold Program.cellsOf; rw [info54]; rfl
@[go_sem] theorem bytesOf54 : bytesOf Tryz.prog 54 = 8 := by unfold bytesOf; rw [info54]; rfl
@[go_sem] theorem takeVar54 (cs : List PV) : takeVar Tryz.prog 54 cs = cs[0]? := by unfold takeVar isAggT; rw [Tryz.underlying54, info54]
@[go_sem] theorem partA54 (cs : List PV) (k : Nat) : partA Tryz.prog 54 cs k = cs[k]? := by unfold partA isAggT; rw [Tryz.underlying54, info54]
@[go_sem] theorem zeroA54 : zeroA Tryz.prog 54 = some .nilp := by unfold zeroA; rw [info54]; rfl
@[go_sem] theorem zeroOk54 : zeroOk Tryz.prog 54 = true := by unfold zeroOk; rw [zeroA54, cellsOf54]; rfl
attribute [go_sem] Tryz.underlying54
@[go_sem] theorem has57 : (Tryz.prog.info? 57).isSome = true := by rw [info57]; rfl
@[go_sem] theorem cellsOf57 : Tryz.prog.cellsOf 57 = 1 := by unfold Program.cellsOf; rw [info57]; rfl
@[go_sem] theorem bytesOf57 : bytesOf Tryz.prog 57 = 8 := by unfold bytesOf; rw [info57]; rfl
@[go_sem] theorem takeVar57 (cs : List PV) : takeVar Tryz.prog 57 cs = cs[0]? := by unfold takeVar isAggT; rw [Tryz.underlying57, info57]
@[go_sem] theorem partA57 (cs : List PV) (k : Nat) : partA Tryz.prog 57 cs k = cs[k]? := by unfold partA isAggT; rw [Tryz.underlying57, info57]
@[go_sem] theorem zeroA57 : zeroA Tryz.prog 57 = some .nilfn := by unfold zeroA; rw [info57]; rfl
@[go_sem] theorem zeroOk57 : zeroOk Tryz.prog 57 = true := by unfold zeroOk; rw [zeroA57, cellsOf57]; rfl
attribute [go_sem] Tryz.underlying57
@[go_sem] theorem has58 : (Tryz.prog.info? 58).isSome = true := by rw [info58]; rfl
@[go_sem] theorem cellsOf58 : Tryz.prog.cellsOf 58 = 1 := by unfold Program.cellsOf; rw [info58]; rfl
@[go_sem] theorem bytesOf58 : bytesOf Tryz.prog 58 = 8 := by unfold bytesOf; rw [info58]; rfl
@[go_sem] theorem takeVar58 (cs : List PV) : takeVar Tryz.prog 58 cs = cs[0]? := by unfold takeVar isAggT; rw [Tryz.underlying58, info58]
@[go_sem] theorem partA58 (cs : List PV) (k : Nat) : partA Tryz.prog 58 cs k = cs[k]? := by unfold partA isAggT; rw [Tryz.underlying58, info58]
@[go_sem] theorem zeroA58 : zeroA Tryz.prog 58 = some .nilfn := by unfold zeroA; rw [info58]; rfl
@[go_sem] theorem zeroOk58 : zeroOk Tryz.prog 58 = true := by unfold zeroOk; rw [zeroA58, cellsOf58]; rfl
attribute [go_sem] Tryz.underlying58
@[go_sem] theorem has59 : (Tryz.prog.info? 59).isSome = true := by rw [info59]; rfl
@[go_sem] theorem cellsOf59 : Tryz.prog.cellsOf 59 = 1 := by unfold Program.cellsOf; rw [info59]; rfl
@[go_sem] theorem bytesOf59 : bytesOf Tryz.prog 59 = 8 := by unfold bytesOf; rw [info59]; rfl
@[go_sem] theorem takeVar59 (cs : List PV) : takeVar Tryz.prog 59 cs = cs[0]? := by unfold takeVar isAggT; rw [Tryz.underlying59, info59]
@[go_sem] theorem partA59 (cs : List PV) (k : Nat) : partA Tryz.prog 59 cs k = cs[k]? := by unfold partA isAggT; rw [Tryz.underlying59, info59]
@[go_sem] theorem zeroA59 : zeroA Tryz.prog 59 = some .nilfn := by unfold zeroA; rw [info59]; rfl
@[go_sem] theorem zeroOk59 : zeroOk Tryz.prog 59 = true := by unfold zeroOk; rw [zeroA59, cellsOf59]; rfl
attribute [go_sem] Tryz.underlying59
@[go_sem] theorem has60 : (Tryz.prog.info? 60).isSome = true := by rw [info60]; rfl
@[go_sem] theorem cellsOf60 : Tryz.prog.cellsOf 60 = 1 := by unfold Program.cellsOf; rw [info60]; rfl
@[go_sem] theorem bytesOf60 : bytesOf Tryz.prog 60 = 8 := by unfold bytesOf; rw [info60]; rfl
@[go_sem] theorem takeVar60 (cs : List PV) : takeVar Tryz.prog 60 cs = cs[0]? := by unfold takeVar isAggT; rw [Tryz.underlying60, info60]
@[go_sem] theorem partA60 (cs : List PV) (k : Nat) : partA Tryz.prog 60 cs k = cs[k]? := by unfold partA isAggT; rw [Tryz.underlying60, info60]
@[go_sem] theorem zeroA60 : zeroA Tryz.prog 60 = some .nilfn := by unfold zeroA; rw [info60]; rfl
@[go_sem] theorem zeroOk60 : zeroOk Tryz.prog 60 = true := by unfold zeroOk; rw [zeroA60, cellsOf60]; rfl
attribute [go_sem] Tryz.underlying60
@[go_sem] theorem has61 : (Tryz.prog.info? 61).isSome = true := by rw [info61]; rfl
@[go_sem] theorem cellsOf61 : Tryz.prog.cellsOf 61 = 1 := by unfold Program.cellsOf; rw [info61]; rfl
@[go_sem] theorem bytesOf61 : bytesOf Tryz.prog 61 = 8 := by unfold bytesOf; rw [info61]; rfl
@[go_sem] theorem takeVar61 (cs : List PV) : takeVar Tryz.prog 61 cs = cs[0]? := by unfold takeVar isAggT; rw [Tryz.underlying61, info61]
@[go_sem] theorem partA61 (cs : List PV) (k : Nat) : partA Tryz.prog 61 cs k = cs[k]? := by unfold partA isAggT; rw [Tryz.underlying61, info61]
@[go_sem] theorem zeroA61 : zeroA Tryz.prog 61 = some .nilfn := by unfold zeroA; rw [info61]; rfl
@[go_sem] theorem zeroOk61 : zeroOk Tryz.prog 61 = true := by unfold zeroOk; rw [zeroA61, cellsOf61]; rfl
attribute [go_sem] Tryz.underlying61
@[go_sem] theorem has62 : (Tryz.prog.info? 62).isSome = true := by rw [info62]; rfl
@[go_sem] theorem cellsOf62 : Tryz.prog.cellsOf 62 = 1 := by unfold Program.cellsOf; rw [info62]; rfl
@[go_sem] theorem bytesOf62 : bytesOf Tryz.prog 62 = 8 := by unfold bytesOf; rw [info62]; rfl
@[go_sem] theorem takeVar62 (cs : List PV) : takeVar Tryz.prog 62 cs = cs[0]? := by unfold takeVar isAggT; rw [Tryz.underlying62, info62]
@[go_sem] theorem partA62 (cs : List PV) (k : Nat) : partA Tryz.prog 62 cs k = cs[k]? := by unfold partA isAggT; rw [Tryz.underlying62, info62]
@[go_sem] theorem zeroA62 : zeroA Tryz.prog 62 = some .nilfn := by unfold zeroA; rw [info62]; rfl
@[go_sem] theorem zeroOk62 : zeroOk Tryz.prog 62 = true := by unfold zeroOk; rw [zeroA62, cellsOf62]; rfl
attribute [go_sem] Tryz.underlying62
@[go_sem] theorem has63 : (Tryz.prog.info? 63).isSome = true := by rw [info63]; rfl
@[go_sem] theorem cellsOf63 : Tryz.prog.cellsOf 63 = 1 := by unfold Program.cellsOf; rw [info63]; rfl
@[go_sem] theorem bytesOf63 : bytesOf Tryz.prog 63 = 8 := by unfold bytesOf; rw [info63]; rfl
@[go_sem] theorem takeVar63 (cs : List PV) : takeVar Tryz.prog 63 cs = cs[0]? := by unfold takeVar isAggT; rw [Tryz.underlying63, info63]
@[go_sem] theorem partA63 (cs : List PV) (k : Nat) : partA Tryz.prog 63 cs k = cs[k]? := by unfold partA isAggT; rw [Tryz.underlying63, info63]
@[go_sem] theorem zeroA63 : zeroA Tryz.prog 63 = some .nilp := by unfold zeroA; rw [info63]; rfl
@[go_sem] theorem zeroOk63 : zeroOk Tryz.prog 63 = true := by unfold zeroOk; rw [zeroA63, cellsOf63]; rfl
attribute [go_sem] Tryz.underlying63
@[go_sem] theorem has66 : (Tryz.prog.info? 66).isSome = true := by rw [info66]; rfl
@[go_sem] theorem cellsOf66 : Tryz.prog.cellsOf 66 = 1 := by unfold Program.cellsOf; rw [info66]; rfl
@[go_sem] theorem bytesOf66 : bytesOf Tryz.prog 66 = 8 := by unfold bytesOf; rw [info66]; rfl
@[go_sem] theorem takeVar66 (cs : List PV) : takeVar Tryz.prog 66 cs = cs[0]? := by unfold takeVar isAggT; rw [Tryz.underlying66, info66]
@[go_sem] theorem partA66 (cs : List PV) (k : Nat) : partA Tryz.prog 66 cs k = cs[k]? := by unfold partA isAggT; rw [Tryz.underlying66, info66]
@[go_sem] theorem zeroA66 : zeroA Tryz.prog 66 = some .nilp := by unfold zeroA; rw [info66]; rfl
@[go_sem] theorem zeroOk66 : zeroOk Tryz.prog 66 = true := by unfold zeroOk; rw [zeroA66, cellsOf66]; rfl
attribute [go_sem] Tryz.underlying66
@[go_sem] theorem has68 : (Tryz.prog.info? 68).isSome = true := by rw [info68]; rfl
@[go_sem] theorem cellsOf68 : Tryz.prog.cellsOf 68 = 2 := by unfold Program.cellsOf; rw [info68]; rfl
@[go_sem] theorem bytesOf68 : bytesOf Tryz.prog 68 = 16 := by unfold bytesOf; rw [info68]; rfl
@[go_sem] theorem takeVar68 (cs : List PV) : takeVar Tryz.prog 68 cs = if 2 ≤ cs.length then some (.agg (cs.take 2)) else none := by unfold takeVar isAggT; rw [Tryz.underlying68, info68]; rfl
@[go_sem] theorem partA68 (cs : List PV) (k : Nat) : partA Tryz.prog 68 cs k = if k + 2 ≤ cs.length then some (.agg ((cs.drop k).take 2)) else none := by unfold partA isAggT; rw [Tryz.underlying68, info68]; rfl
@[go_sem] theorem zeroA68 : zeroA Tryz.prog 68 = some (.agg [.nilp, (.int IntKind.i64 0)]) := by unfold zeroA; rw [info68]; rfl
@[go_sem] theorem zeroOk68 : zeroOk Tryz.prog 68 = true := by unfold zeroOk; rw [zeroA68, cellsOf68]; rfl
@[go_sem] theorem field68_0 : fieldInfo Tryz.prog 68 0 = some (0, 63) := by unfold fieldInfo; rw [Tryz.underlying68]; show (match Tryz.prog.info? 63 with | some i => if i.size = 0 then none else some (0, 63) | none => none) = _; rw [info63]; rfl
@[go_sem] theorem field68_1 : fieldInfo Tryz.prog 68 1 = some (1, 3) := by unfold fieldInfo; rw [Tryz.underlying68]; show (match Tryz.prog.info? 3 with | some i => if i.size = 0 then none else some (1, 3) | none => none) = _; rw [info3]; rfl
attribute [go_sem] Tryz.underlying68
@[go_sem] theorem has70 : (Tryz.prog.info? 70).isSome = true := by rw [info70]; rfl
@[go_sem] theorem cellsOf70 : Tryz.prog.cellsOf 70 = 1 := by unfold Program.cellsOf; rw [info70]; rfl
@[go_sem] theorem bytesOf70 : bytesOf Tryz.prog 70 = 16 := by unfold bytesOf; rw [info70]; rfl
@[go_sem] theorem takeVar70 (cs : List PV) : takeVar Tryz.prog 70 cs = cs[0]? := by unfold takeVar isAggT; rw [Tryz.underlying70, info70]
@[go_sem] theorem partA70 (cs : List PV) (k : Nat) : partA Tryz.prog 70 cs k = cs[k]? := by unfold partA isAggT; rw [Tryz.underlying70, info70]
@[go_sem] theorem zeroA70 : zeroA Tryz.prog 70 = some .nilif := by unfold zeroA; rw [info70]; rfl
@[go_sem] theorem zeroOk70 : zeroOk Tryz.prog 70 = true := by unfold zeroOk; rw [zeroA70, cellsOf70]; rfl
attribute [go_sem] Tryz.underlying70
@[go_sem] theorem has74 : (Tryz.prog.info? 74).isSome = true := by rw [info74]; rfl
@[go_sem] theorem cellsOf74 : Tryz.prog.cellsOf 74 = 1 := by unfold Program.cellsOf; rw [info74]; rfl
@[go_sem] theorem bytesOf74 : bytesOf Tryz.prog 74 = 8 := by unfold bytesOf; rw [info74]; rfl
@[go_sem] theorem takeVar74 (cs : List PV) : takeVar Tryz.prog 74 cs = cs[0]? := by unfold takeVar isAggT; rw [Tryz.underlying74, info74]
@[go_sem] theorem partA74 (cs : List PV) (k : Nat) : partA Tryz.prog 74 cs k = cs[k]? := by unfold partA isAggT; rw [Tryz.underlying74, info74]
@[go_sem] theorem zeroA74 : zeroA Tryz.prog 74 = some .nilfn := by unfold zeroA; rw [info74]; rfl
@[go_sem] theorem zeroOk74 : zeroOk Tryz.prog 74 = true := by unfold zeroOk; rw [zeroA74, cellsOf74]; rfl
attribute [go_sem] Tryz.underlying74
@[go_sem] theorem has75 : (Tryz.prog.info? 75).isSome = true := by rw [info75]; rfl
@[go_sem] theorem cellsOf75 : Tryz.prog.cellsOf 75 = 1 := by unfold Program.cellsOf; rw [info75]; rfl
@[go_sem] theorem bytesOf75 : bytesOf Tryz.prog 75 = 8 := by unfold bytesOf; rw [info75]; rfl
@[go_sem] theorem takeVar75 (cs : List PV) : takeVar Tryz.prog 75 cs = cs[0]? := by unfold takeVar isAggT; rw [Tryz.underlying75, info75]
@[go_sem] theorem partA75 (cs : List PV) (k : Nat) : partA Tryz.prog 75 cs k = cs[k]? := by unfold partA isAggT; rw [Tryz.underlying75, info75]
@[go_sem] theorem zeroA75 : zeroA Tryz.prog 75 = some .nilp := by unfold zeroA; rw [info75]; rfl
@[go_sem] theorem zeroOk75 : zeroOk Tryz.prog 75 = true := by unfold zeroOk; rw [zeroA75, cellsOf75]; rfl
attribute [go_sem] Tryz.underlying75
@[go_sem] theorem has76 : (Tryz.prog.info? 76).isSome = true := by rw [info76]; rfl
@[go_sem] theorem cellsOf76 : Tryz.prog.cellsOf 76 = 1 := by unfold Program.cellsOf; rw [info76]; rfl
@[go_sem] theorem bytesOf76 : bytesOf Tryz.prog 76 = 8 := by unfold bytesOf; rw [info76]; rfl
@[go_sem] theorem takeVar76 (cs : List PV) : takeVar Tryz.prog 76 cs = cs[0]? := by unfold takeVar isAggT; rw [Tryz.underlying76, info76]
@[go_sem] theorem partA76 (cs : List PV) (k : Nat) : partA Tryz.prog 76 cs k = cs[k]? := by unfold partA isAggT; rw [Tryz.underlying76, info76]
@[go_sem] theorem zeroA76 : zeroA Tryz.prog 76 = some .nilp := by unfold zeroA; rw [info76]; rfl
@[go_sem] theorem zeroOk76 : zeroOk Tryz.prog 76 = true := by unfold zeroOk; rw [zeroA76, cellsOf76]; rfl
attribute [go_sem] Tryz.underlying76
@[go_sem] theorem has77 : (Tryz.prog.info? 77).isSome = true := by rw [info77]; rfl
@[go_sem] theorem cellsOf77 : Tryz.prog.cellsOf 77 = 1 := by unfold Program.cellsOf; rw [info77]; rfl
@[go_sem] theorem bytesOf77 : bytesOf Tryz.prog 77 = 24 := by unfold bytesOf; rw [info77]; rfl
@[go_sem] theorem takeVar77 (cs : List PV) : takeVar Tryz.prog 77 cs = if 1 ≤ cs.length then some (.agg (cs.take 1)) else none := by unfold takeVar isAggT; rw [Tryz.underlying77, info77]; rfl
@[go_sem] theorem partA77 (cs : List PV) (k : Nat) : partA Tryz.prog 77 cs k = if k + 1 ≤ cs.length then some (.agg ((cs.drop k).take 1)) else none := by unfold partA isAggT; rw [Tryz.underlying77, info77]; rfl
@[go_sem] theorem zeroA77 : zeroA Tryz.prog 77 = some (.agg [.emp]) := by unfold zeroA; rw [info77]; rfl
@[go_sem] theorem zeroOk77 : zeroOk Tryz.prog 77 = true := by unfold zeroOk; rw [zeroA77, cellsOf77]; rfl
@[go_sem] theorem field77_0 : fieldInfo Tryz.prog 77 0 = some (0, 41) := by unfold fieldInfo; rw [Tryz.underlying77]; show (match Tryz.prog.info? 41 with | some i => if i.size = 0 then none else some (0, 41) | none => none) = _; rw [info41]; rfl
attribute [go_sem] Tryz.underlying77
@[go_sem] theorem has78 : (Tryz.prog.info? 78).isSome = true := by rw [info78]; rfl
@[go_sem] theorem cellsOf78 : Tryz.prog.cellsOf 78 = 1 := by unfold Program.cellsOf; rw [info78]; rfl
@[go_sem] theorem bytesOf78 : bytesOf Tryz.prog 78 = 24 := by unfold bytesOf; rw [info78]; rfl
@[go_sem] theorem takeVar78 (cs : List PV) : takeVar Tryz.prog 78 cs = if 1 ≤ cs.length then some (.agg (cs.take 1)) else none := by unfold takeVar isAggT; rw [Tryz.underlying78, info78]; rfl
@[go_sem] theorem partA78 (cs : List PV) (k : Nat) : partA Tryz.prog 78 cs k = if k + 1 ≤ cs.length then some (.agg ((cs.drop k).take 1)) else none := by unfold partA isAggT; rw [Tryz.underlying78, info78]; rfl
@[go_sem] theorem zeroA78 : zeroA Tryz.prog 78 = some (.agg [.emp]) := by unfold zeroA; rw [info78]; rfl
@[go_sem] theorem zeroOk78 : zeroOk Tryz.prog 78 = true := by unfold zeroOk; rw [zeroA78, cellsOf78]; rfl
@[go_sem] theorem field78_0 : fieldInfo Tryz.prog 78 0 = some (0, 41) := by unfold fieldInfo; rw [Tryz.underlying78]; show (match Tryz.prog.info? 41 with | some i => if i.size = 0 then none else some (0, 41) | none => none) = _; rw [info41]; rfl
attribute [go_sem] Tryz.underlying78
@[go_sem] theorem has79 : (Tryz.prog.info? 79).isSome = true := by rw [info79]; rfl
@[go_sem] theorem cellsOf79 : Tryz.prog.cellsOf 79 = 1 := by unfold Program.cellsOf; rw [info79]; rfl
@[go_sem] theorem bytesOf79 : bytesOf Tryz.prog 79 = 8 := by unfold bytesOf; rw [info79]; rfl
@[go_sem] theorem takeVar79 (cs : List PV) : takeVar Tryz.prog 79 cs = cs[0]? := by unfold takeVar isAggT; rw [Tryz.underlying79, info79]
@[go_sem] theorem partA79 (cs : List PV) (k : Nat) : partA Tryz.prog 79 cs k = cs[k]? := by unfold partA isAggT; rw [Tryz.underlying79, info79]
@[go_sem] theorem zeroA79 : zeroA Tryz.prog 79 = some .nilfn := by unfold zeroA; rw [info79]; rfl
@[go_sem] theorem zeroOk79 : zeroOk Tryz.prog 79 = true := by unfold zeroOk; rw [zeroA79, cellsOf79]; rfl
attribute [go_sem] Tryz.underlying79
@[go_sem] theorem has81 : (Tryz.prog.info? 81).isSome = true := by rw [info81]; rfl
@[go_sem] theorem cellsOf81 : Tryz.prog.cellsOf 81 = 4 := by unfold Program.cellsOf; rw [info81]; rfl
@[go_sem] theorem bytesOf81 : bytesOf Tryz.prog 81 = 32 := by unfold bytesOf; rw [info81]; rfl
@[go_sem] theorem takeVar81 (cs : List PV) : takeVar Tryz.prog 81 cs = if 4 ≤ cs.length then some (.agg (cs.take 4)) else none := by unfold takeVar isAggT; rw [Tryz.underlying81, info81]; rfl
@[go_sem] theorem partA81 (cs : List PV) (k : Nat) : partA Tryz.prog 81 cs k = if k + 4 ≤ cs.length then some (.agg ((cs.drop k).take 4)) else none := by unfold partA isAggT; rw [Tryz.underlying81, info81]; rfl
@[go_sem] theorem zeroA81 : zeroA Tryz.prog 81 = some (.agg [(.int IntKind.i64 0), (.int IntKind.i64 0), (.int IntKind.i64 0), (.int IntKind.i64 0)]) := by unfold zeroA; rw [info81]; rfl
@[go_sem] theorem zeroOk81 : zeroOk Tryz.prog 81 = true := by unfold zeroOk; rw [zeroA81, cellsOf81]; rfl
@[go_sem] theorem field81_0 : fieldInfo Tryz.prog 81 0 = some (0, 3) := by unfold fieldInfo; rw [Tryz.underlying81]; show (match Tryz.prog.info? 3 with | some i => if i.size = 0 then none else some (0, 3) | none => none) = _; rw [info3]; rfl
@[go_sem] theorem field81_1 : fieldInfo Tryz.prog 81 1 = some (1, 3) := by unfold fieldInfo; rw [Tryz.underlying81]; show (match Tryz.prog.info? 3 with | some i => if i.size = 0 then none else some (1, 3) | none => none) = _; rw [info3]; rfl
@[go_sem] theorem field81_2 : fieldInfo Tryz.prog 81 2 = some (2, 29) := by unfold fieldInfo; rw [Tryz.underlying81]; show (match Tryz.prog.info? 29 with | some i => if i.size = 0 then none else some (2, 29) | none => none) = _; rw [info29]; rfl
attribute [go_sem] Tryz.underlying81
@[go_sem] theorem has85 : (Tryz.prog.info? 85).isSome = true := by rw [info85]; rfl
@[go_sem] theorem cellsOf85 : Tryz.prog.cellsOf 85 = 1 := by unfold Program.cellsOf; rw [info85]; rfl
@[go_sem] theorem bytesOf85 : bytesOf Tryz.prog 85 = 8 := by unfold bytesOf; rw [info85]; rfl
@[go_sem] theorem takeVar85 (cs : List PV) : takeVar Tryz.prog 85 cs = cs[0]? := by unfold takeVar isAggT; rw [Tryz.underlying85, info85]
@[go_sem] theorem partA85 (cs : List PV) (k : Nat) : partA Tryz.prog 85 cs k = cs[k]? := by unfold partA isAggT; rw [Tryz.underlying85, info85]
@[go_sem] theorem zeroA85 : zeroA Tryz.prog 85 = some .nilp := by unfold zeroA; rw [info85]; rfl
@[go_sem] theorem zeroOk85 : zeroOk Tryz.prog 85 = true := by unfold zeroOk; rw [zeroA85, cellsOf85]; rfl
attribute [go_sem] Tryz.underlying85
@[go_sem] theorem has86 : (Tryz.prog.info? 86).isSome = true := by rw [info86]; rfl
@[go_sem] theorem cellsOf86 : Tryz.prog.cellsOf 86 = 12 := by unfold Program.cellsOf; rw [info86]; rfl
@[go_sem] theorem bytesOf86 : bytesOf Tryz.prog 86 = 96 := by unfold bytesOf; rw [info86]; rfl
@[go_sem] theorem takeVar86 (cs : List PV) : takeVar Tryz.prog 86 cs = if 12 ≤ cs.length then some (.agg (cs.take 12)) else none := by unfold takeVar isAggT; rw [Tryz.underlying86, info86]; rfl
@[go_sem] theorem partA86 (cs : List PV) (k : Nat) : partA Tryz.prog 86 cs k = if k + 12 ≤ cs.length then some (.agg ((cs.drop k).take 12)) else none := by unfold partA isAggT; rw [Tryz.underlying86, info86]; rfl
@[go_sem] theorem zeroA86 : zeroA Tryz.prog 86 = some (.agg [(.int IntKind.i64 0), (.int IntKind.i64 0), (.int IntKind.i64 0), (.int IntKind.i64 0), (.int IntKind.i64 0), (.int IntKind.i64 0), (.int IntKind.i64 0), (.int IntKind.i64 0), (.int IntKind.i64 0), (.int IntKind.i64 0), (.int IntKind.i64 0), (.int IntKind.i64 0)]) := by unfold zeroA; rw [info86]; rfl
@[go_sem] theorem zeroOk86 : zeroOk Tryz.prog 86 = true := by unfold zeroOk; rw [zeroA86, cellsOf86]; rfl
attribute [go_sem] Tryz.underlying86
@[go_sem] theorem has87 : (Tryz.prog.info? 87).isSome = true := by rw [info87]; rfl
@[go_sem] theorem cellsOf87 : Tryz.prog.cellsOf 87 = 16 := by unfold Program.cellsOf; rw [info87]; rfl
@[go_sem] theorem bytesOf87 : bytesOf Tryz.prog 87 = 128 := by unfold bytesOf; rw [info87]; rfl
@[go_sem] theorem takeVar87 (cs : List PV) : takeVar Tryz.prog 87 cs = if 16 ≤ cs.length then some (.agg (cs.take 16)) else none := by unfold takeVar isAggT; rw [Tryz.underlying87, info87]; rfl
@[go_sem] theorem partA87 (cs : List PV) (k : Nat) : partA Tryz.prog 87 cs k = if k + 16 ≤ cs.length then some (.agg ((cs.drop k).take 16)) else none := by unfold partA isAggT; rw [Tryz.underlying87, info87]; rfl
@[go_sem] theorem zeroA87 : zeroA Tryz.prog 87 = some (.agg [.nilp, (.int IntKind.i64 0), (.int IntKind.i64 0), (.int IntKind.i64 0), (.int IntKind.i64 0), (.int IntKind.i64 0), (.int IntKind.i64 0), (.int IntKind.i64 0), (.int IntKind.i64 0), (.int IntKind.i64 0), (.int IntKind.i64 0), (.int IntKind.i64 0), (.int IntKind.i64 0), (.int IntKind.i64 0), (.int IntKind.i64 0), (.int IntKind.i64 0)]) := by unfold zeroA; rw [info87]; rfl
@[go_sem] theorem zeroOk87 : zeroOk Tryz.prog 87 = true := by unfold zeroOk; rw [zeroA87, cellsOf87]; rfl
@[go_sem] theorem field87_0 : fieldInfo Tryz.prog 87 0 = some (0, 63) := by unfold fieldInfo; rw [Tryz.underlying87]; show (match Tryz.prog.info? 63 with | some i => if i.size = 0 then none else some (0, 63) | none => none) = _; rw [info63]; rfl
@[go_sem] theorem field87_1 : fieldInfo Tryz.prog 87 1 = some (1, 86) := by unfold fieldInfo; rw [Tryz.underlying87]; show (match Tryz.prog.info? 86 with | some i => if i.size = 0 then none else some (1, 86) | none => none) = _; rw [info86]; rfl
@[go_sem] theorem field87_2 : fieldInfo Tryz.prog 87 2 = some (13, 3) := by unfold fieldInfo; rw [Tryz.underlying87]; show (match Tryz.prog.info? 3 with | some i => if i.size = 0 then none else some (13, 3) | none => none) = _; rw [info3]; rfl
@[go_sem] theorem field87_3 : fieldInfo Tryz.prog 87 3 = some (14, 3) := by unfold fieldInfo; rw [Tryz.underlying87]; show (match Tryz.prog.info? 3 with | some i => if i.size = 0 then none else some (14, 3) | none => none) = _; rw [info3]; rfl
@[go_sem] theorem field87_4 : fieldInfo Tryz.prog 87 4 = some (15, 3) := by unfold fieldInfo; rw [Tryz.underlying87]; show (match Tryz.prog.info? 3 with | some i => if i.size = 0 then none else some (15, 3) | none => none) = _; rw [info3]; rfl
attribute [go_sem] Tryz.underlying87
@[go_sem] theorem has88 : (Tryz.prog.info? 88).isSome = true := by rw [info88]; rfl
@[go_sem] theorem cellsOf88 : Tryz.prog.cellsOf 88 = 16 := by unfold Program.cellsOf; rw [info88]; rfl
@[go_sem] theorem bytesOf88 : bytesOf Tryz.prog 88 = 128 := by unfold bytesOf; rw [info88]; rfl
@[go_sem] theorem takeVar88 (cs : List PV) : takeVar Tryz.prog 88 cs = if 16 ≤ cs.length then some (.agg (cs.take 16)) else none := by unfold takeVar isAggT; rw [Tryz.underlying88, info88]; rfl
@[go_sem] theorem partA88 (cs : List PV) (k : Nat) : partA Tryz.prog 88 cs k = if k + 16 ≤ cs.length then some (.agg ((cs.drop k).take 16)) else none := by unfold partA isAggT; rw [Tryz.underlying88, info88]; rfl
@[go_sem] theorem zeroA88 : zeroA Tryz.prog 88 = some (.agg [.nilp, (.int IntKind.i64 0), (.int IntKind.i64 0), (.int IntKind.i64 0), (.int IntKind.i64 0), (.int IntKind.i64 0), (.int IntKind.i64 0), (.int IntKind.i64 0), (.int IntKind.i64 0), (.int IntKind.i64 0), (.int IntKind.i64 0), (.int IntKind.i64 0), (.int IntKind.i64 0), (.int IntKind.i64 0), (.int IntKind.i64 0), (.int IntKind.i64 0)]) := by unfold zeroA; rw [info88]; rfl
@[go_sem] theorem zeroOk88 : zeroOk Tryz.prog 88 = true := by unfold zeroOk; rw [zeroA88, cellsOf88]; rfl
@[go_sem] theorem field88_0 : fieldInfo Tryz.prog 88 0 = some (0, 63) := by unfold fieldInfo; rw [Tryz.underlying88]; show (match Tryz.prog.info? 63 with | some i => if i.size = 0 then none else some (0, 63) | none => none) = _; rw [info63]; rfl
@[go_sem] theorem field88_1 : fieldInfo Tryz.prog 88 1 = some (1, 86) := by unfold fieldInfo; rw [Tryz.underlying88]; show (match Tryz.prog.info? 86 with | some i => if i.size = 0 then none else some (1, 86) | none => none) = _; rw [info86]; rfl
@[go_sem] theorem field88_2 : fieldInfo Tryz.prog 88 2 = some (13, 3) := by unfold fieldInfo; rw [Tryz.underlying88]; show (match Tryz.prog.info? 3 with | some i => if i.size = 0 then none else some (13, 3) | none => none) = _; rw [info3]; rfl
@[go_sem] theorem field88_3 : fieldInfo Tryz.prog 88 3 = some (14, 3) := by unfold fieldInfo; rw [Tryz.underlying88]; show (match Tryz.prog.info? 3 with | some i => if i.size = 0 then none else some (14, 3) | none => none) = _; rw [info3]; rfl
@[go_sem] theorem field88_4 : fieldInfo Tryz.prog 88 4 = some (15, 3) := by unfold fieldInfo; rw [Tryz.underlying88]; show (match Tryz.prog.info? 3 with | some i => if i.size = 0 then none else some (15, 3) | none => none) = _; rw [info3]; rfl
attribute [go_sem] Tryz.underlying88
@[go_sem] theorem has89 : (Tryz.prog.info? 89).isSome = true := by rw [info89]; rfl
@[go_sem] theorem cellsOf89 : Tryz.prog.cellsOf 89 = 1 := by unfold Program.cellsOf; rw [info89]; rfl
@[go_sem] theorem bytesOf89 : bytesOf Tryz.prog 89 = 24 := by unfold bytesOf; rw [info89]; rfl
@[go_sem] theorem takeVar89 (cs : List PV) : takeVar Tryz.prog 89 cs = cs[0]? := by unfold takeVar isAggT; rw [Tryz.underlying89, info89]
@[go_sem] theorem partA89 (cs : List PV) (k : Nat) : partA Tryz.prog 89 cs k = cs[k]? := by unfold partA isAggT; rw [Tryz.underlying89, info89]
@[go_sem] theorem zeroA89 : zeroA Tryz.prog 89 = some .emp := by unfold zeroA; rw [info89]; rfl
@[go_sem] theorem zeroOk89 : zeroOk Tryz.prog 89 = true := by unfold zeroOk; rw [zeroA89, cellsOf89]; rfl
attribute [go_sem] Tryz.underlying89
@[go_sem] theorem has90 : (Tryz.prog.info? 90).isSome = true := by rw [info90]; rfl
@[go_sem] theorem cellsOf90 : Tryz.prog.cellsOf 90 = 1 := by unfold Program.cellsOf; rw [info90]; rfl
@[go_sem] theorem bytesOf90 : bytesOf Tryz.prog 90 = 8 := by unfold bytesOf; rw [info90]; rfl
@[go_sem] theorem takeVar90 (cs : List PV) : takeVar Tryz.prog 90 cs = cs[0]? := by unfold takeVar isAggT; rw [Tryz.underlying90, info90]
@[go_sem] theorem partA90 (cs : List PV) (k : Nat) : partA Tryz.prog 90 cs k = cs[k]? := by unfold partA isAggT; rw [Tryz.underlying90, info90]
@[go_sem] theorem zeroA90 : zeroA Tryz.prog 90 = some .nilfn := by unfold zeroA; rw [info90]; rfl
@[go_sem] theorem zeroOk90 : zeroOk Tryz.prog 90 = true := by unfold zeroOk; rw [zeroA90, cellsOf90]; rfl
attribute [go_sem] Tryz.underlying90
@[go_sem] theorem has91 : (Tryz.prog.info? 91).isSome = true := by rw [info91]; rfl
@[go_sem] theorem cellsOf91 : Tryz.prog.cellsOf 91 = 1 := by unfold Program.cellsOf; rw [info91]; rfl
@[go_sem] theorem bytesOf91 : bytesOf Tryz.prog 91 = 8 := by unfold bytesOf; rw [info91]; rfl
@[go_sem] theorem takeVar91 (cs : List PV) : takeVar Tryz.prog 91 cs = cs[0]? := by unfold takeVar isAggT; rw [Tryz.underlying91, info91]
@[go_sem] theorem partA91 (cs : List PV) (k : Nat) : partA Tryz.prog 91 cs k = cs[k]? := by unfold partA isAggT; rw [Tryz.underlying91, info91]
@[go_sem] theorem zeroA91 : zeroA Tryz.prog 91 = some .nilfn := by unfold zeroA; rw [info91]; rfl
@[go_sem] theorem zeroOk91 : zeroOk Tryz.prog 91 = true := by unfold zeroOk; rw [zeroA91, cellsOf91]; rfl
attribute [go_sem] Tryz.underlying91
@[go_sem] theorem has92 : (Tryz.prog.info? 92).isSome = true := by rw [info92]; rfl
@[go_sem] theorem cellsOf92 : Tryz.prog.cellsOf 92 = 1 := by unfold Program.cellsOf; rw [info92]; rfl
@[go_sem] theorem bytesOf92 : bytesOf Tryz.prog 92 = 8 := by unfold bytesOf; rw [info92]; rfl
@[go_sem] theorem takeVar92 (cs : List PV) : takeVar Tryz.prog 92 cs = cs[0]? := by unfold takeVar isAggT; rw [Tryz.underlying92, info92]
@[go_sem] theorem partA92 (cs : List PV) (k : Nat) : partA Tryz.prog 92 cs k = cs[k]? := by unfold partA isAggT; rw [Tryz.underlying92, info92]
@[go_sem] theorem zeroA92 : zeroA Tryz.prog 92 = some .nilfn := by unfold zeroA; rw [info92]; rfl
@[go_sem] theorem zeroOk92 : zeroOk Tryz.prog 92 = true := by unfold zeroOk; rw [zeroA92, cellsOf92]; rfl
attribute [go_sem] Tryz.underlying92
@[go_sem] theorem has94 : (Tryz.prog.info? 94).isSome = true := by rw [info94]; rfl
@[go_sem] theorem cellsOf94 : Tryz.prog.cellsOf 94 = 1 := by unfold Program.cellsOf; rw [info94]; rfl
@[go_sem] theorem bytesOf94 : bytesOf Tryz.prog 94 = 8 := by unfold bytesOf; rw [info94]; rfl
@[go_sem] theorem takeVar94 (cs : List PV) : takeVar Tryz.prog 94 cs = cs[0]? := by unfold takeVar isAggT; rw [Tryz.underlying94, info94]
@[go_sem] theorem partA94 (cs : List PV) (k : Nat) : partA Tryz.prog 94 cs k = cs[k]? := by unfold partA isAggT; rw [Tryz.underlying94, info94]
@[go_sem] theorem zeroA94 : zeroA Tryz.prog 94 = some .nilfn := by unfold zeroA; rw [info94]; rfl
@[go_sem] theorem zeroOk94 : zeroOk Tryz.prog 94 = true := by unfold zeroOk; rw [zeroA94, cellsOf94]; rfl
attribute [go_sem] Tryz.underlying94
@[go_sem] theorem has95 : (Tryz.prog.info? 95).isSome = true := by rw [info95]; rfl
@[go_sem] theorem cellsOf95 : Tryz.prog.cellsOf 95 = 1 := by unfold Program.cellsOf; rw [info95]; rfl
@[go_sem] theorem bytesOf95 : bytesOf Tryz.prog 95 = 8 := by unfold bytesOf; rw [info95]; rfl
@[go_sem] theorem takeVar95 (cs : List PV) : takeVar Tryz.prog 95 cs = cs[0]? := by unfold takeVar isAggT; rw [Tryz.underlying95, info95]
@[go_sem] theorem partA95 (cs : List PV) (k : Nat) : partA Tryz.prog 95 cs k = cs[k]? := by unfold partA isAggT; rw [Tryz.underlying95, info95]
@[go_sem] theorem zeroA95 : zeroA Tryz.prog 95 = some .nilfn := by unfold zeroA; rw [info95]; rfl
@[go_sem] theorem zeroOk95 : zeroOk Tryz.prog 95 = true := by unfold zeroOk; rw [zeroA95, cellsOf95]; rfl
attribute [go_sem] Tryz.underlying95
@[go_sem] theorem has96 : (Tryz.prog.info? 96).isSome = true := by rw [info96]; rfl
@[go_sem] theorem cellsOf96 : Tryz.prog.cellsOf 96 = 1 := by unfold Program.cellsOf; rw [info96]; rfl
@[go_sem] theorem bytesOf96 : bytesOf Tryz.prog 96 = 8 := by unfold bytesOf; rw [info96]; rfl
@[go_sem] theorem takeVar96 (cs : List PV) : takeVar Tryz.prog 96 cs = cs[0]? := by unfold takeVar isAggT; rw [Tryz.underlying96, info96]
@[go_sem] theorem partA96 (cs : List PV) (k : Nat) : partA Tryz.prog 96 cs k = cs[k]? := by unfold partA isAggT; rw [Tryz.underlying96, info96]
@[go_sem] theorem zeroA96 : zeroA Tryz.prog 96 = some .nilfn := by unfold zeroA; rw [info96]; rfl
@[go_sem] theorem zeroOk96 : zeroOk Tryz.prog 96 = true := by unfold zeroOk; rw [zeroA96, cellsOf96]; rfl
attribute [go_sem] Tryz.underlying96
@[go_sem] theorem has97 : (Tryz.prog.info? 97).isSome = true := by rw [info97]; rfl
@[go_sem] theorem cellsOf97 : Tryz.prog.cellsOf 97 = 1 := by unfold Program.cellsOf; rw [info97]; rfl
@[go_sem] theorem bytesOf97 : bytesOf Tryz.prog 97 = 8 := by unfold bytesOf; rw [info97]; rfl
@[go_sem] theorem takeVar97 (cs : List PV) : takeVar Tryz.prog 97 cs = cs[0]? := by unfold takeVar isAggT; rw [Tryz.underlying97, info97]
@[go_sem] theorem partA97 (cs : List PV) (k : Nat) : partA Tryz.prog 97 cs k = cs[k]? := by unfold partA isAggT; rw [Tryz.underlying97, info97]
@[go_sem] theorem zeroA97 : zeroA Tryz.prog 97 = some .nilfn := by unfold zeroA; rw [info97]; rfl
@[go_sem] theorem zeroOk97 : zeroOk Tryz.prog 97 = true := by unfold zeroOk; rw [zeroA97, cellsOf97]; rfl
attribute [go_sem] Tryz.underlying97
@[go_sem] theorem has98 : (Tryz.prog.info? 98).isSome = true := by rw [info98]; rfl
@[go_sem] theorem cellsOf98 : Tryz.prog.cellsOf 98 = 1 := by unfold Program.cellsOf; rw [info98]; rfl
@[go_sem] theorem bytesOf98 : bytesOf Tryz.prog 98 = 8 := by unfold bytesOf; rw [info98]; rfl
@[go_sem] theorem takeVar98 (cs : List PV) : takeVar Tryz.prog 98 cs = cs[0]? := by unfold takeVar isAggT; rw [Tryz.underlying98, info98]
@[go_sem] theorem partA98 (cs : List PV) (k : Nat) : partA Tryz.prog 98 cs k = cs[k]? := by unfold partA isAggT; rw [Tryz.underlying98, info98]
@[go_sem] theorem zeroA98 : zeroA Tryz.prog 98 = some .nilfn := by unfold zeroA; rw [info98]; rfl
@[go_sem] theorem zeroOk98 : zeroOk Tryz.prog 98 = true := by unfold zeroOk; rw [zeroA98, cellsOf98]; rfl
attribute [go_sem] Tryz.underlying98
@[go_sem] theorem has99 : (Tryz.prog.info? 99).isSome = true := by rw [info99]; rfl
@[go_sem] theorem cellsOf99 : Tryz.prog.cellsOf 99 = 2 := by unfold Program.cellsOf; rw [info99]; rfl
@[go_sem] theorem bytesOf99 : bytesOf Tryz.prog 99 = 32 := by unfold bytesOf; rw [info99]; rfl
@[go_sem] theorem takeVar99 (cs : List PV) : takeVar Tryz.prog 99 cs = if 2 ≤ cs.length then some (.agg (cs.take 2)) else none := by unfold takeVar isAggT; rw [Tryz.underlying99, info99]; rfl
@[go_sem] theorem partA99 (cs : List PV) (k : Nat) : partA Tryz.prog 99 cs k = if k + 2 ≤ cs.length then some (.agg ((cs.drop k).take 2)) else none := by unfold partA isAggT; rw [Tryz.underlying99, info99]; rfl
@[go_sem] theorem zeroA99 : zeroA Tryz.prog 99 = some (.agg [.emp, (.int IntKind.i64 0)]) := by unfold zeroA; rw [info99]; rfl
@[go_sem] theorem zeroOk99 : zeroOk Tryz.prog 99 = true := by unfold zeroOk; rw [zeroA99, cellsOf99]; rfl
@[go_sem] theorem field99_0 : fieldInfo Tryz.prog 99 0 = some (0, 22) := by unfold fieldInfo; rw [Tryz.underlying99]; show (match Tryz.prog.info? 22 with | some i => if i.size = 0 then none else some (0, 22) | none => none) = _; rw [info22]; rfl
@[go_sem] theorem field99_1 : fieldInfo Tryz.prog 99 1 = some (1, 3) := by unfold fieldInfo; rw [Tryz.underlying99]; show (match Tryz.prog.info? 3 with | some i => if i.size = 0 then none else some (1, 3) | none => none) = _; rw [info3]; rfl
attribute [go_sem] Tryz.underlying99
@[go_sem] theorem has100 : (Tryz.prog.info? 100).isSome = true := by rw [info100]; rfl
@[go_sem] theorem cellsOf100 : Tryz.prog.cellsOf 100 = 2 := by unfold Program.cellsOf; rw [info100]; rfl
@[go_sem] theorem bytesOf100 : bytesOf Tryz.prog 100 = 32 := by unfold bytesOf; rw [info100]; rfl
@[go_sem] theorem takeVar100 (cs : List PV) : takeVar Tryz.prog 100 cs = if 2 ≤ cs.length then some (.agg (cs.take 2)) else none := by unfold takeVar isAggT; rw [Tryz.underlying100, info100]; rfl
@[go_sem] theorem partA100 (cs : List PV) (k : Nat) : partA Tryz.prog 100 cs k = if k + 2 ≤ cs.length then some (.agg ((cs.drop k).take 2)) else none := by unfold partA isAggT; rw [Tryz.underlying100, info100]; rfl
@[go_sem] theorem zeroA100 : zeroA Tryz.prog 100 = some (.agg [.emp, (.int IntKind.i64 0)]) := by unfold zeroA; rw [info100]; rfl
@[go_sem] theorem zeroOk100 : zeroOk Tryz.prog 100 = true := by unfold zeroOk; rw [zeroA100, cellsOf100]; rfl
@[go_sem] theorem field100_0 : fieldInfo Tryz.prog 100 0 = some (0, 22) := by unfold fieldInfo; rw [Tryz.underlying100]; show (match Tryz.prog.info? 22 with | some i => if i.size = 0 then none else some (0, 22) | none => none) = _; rw [info22]; rfl
@[go_sem] theorem field100_1 : fieldInfo Tryz.prog 100 1 = some (1, 3) := by unfold fieldInfo; rw [Tryz.underlying100]; show (match Tryz.prog.info? 3 with | some i => if i.size = 0 then none else some (1, 3) | none => none) = _; rw [info3]; rfl
attribute [go_sem] Tryz.underlying100
@[go_sem] theorem has101 : (Tryz.prog.info? 101).isSome = true := by rw [info101]; rfl
@[go_sem] theorem cellsOf101 : Tryz.prog.cellsOf 101 = 1 := by unfold Program.cellsOf; rw [info101]; rfl
@[go_sem] theorem bytesOf101 : bytesOf Tryz.prog 101 = 8 := by unfold bytesOf; rw [info101]; rfl
@[go_sem] theorem takeVar101 (cs : List PV) : takeVar Tryz.prog 101 cs = cs[0]? := by unfold takeVar isAggT; rw [Tryz.underlying101, info101]
@[go_sem] theorem partA101 (cs : List PV) (k : Nat) : partA Tryz.prog 101 cs k = cs[k]? := by unfold partA isAggT; rw [Tryz.underlying101, info101]
@[go_sem] theorem zeroA101 : zeroA Tryz.prog 101 = some .nilfn := by unfold zeroA; rw [info101]; rfl
@[go_sem] theorem zeroOk101 : zeroOk Tryz.prog 101 = true := by unfold zeroOk; rw [zeroA101, cellsOf101]; rfl
attribute [go_sem] Tryz.underlying101
@[go_sem] theorem has102 : (Tryz.prog.info? 102).isSome = true := by rw [info102]; rfl
@[go_sem] theorem cellsOf102 : Tryz.prog.cellsOf 102 = 1 := by unfold Program.cellsOf; rw [info102]; rfl
@[go_sem] theorem bytesOf102 : bytesOf Tryz.prog 102 = 16 := by unfold bytesOf; rw [info102]; rfl
@[go_sem] theorem takeVar102 (cs : List PV) : takeVar Tryz.prog 102 cs = cs[0]? := by unfold takeVar isAggT; rw [Tryz.underlying102, info102]
@[go_sem] theorem partA102 (cs : List PV) (k : Nat) : partA Tryz.prog 102 cs k = cs[k]? := by unfold partA isAggT; rw [Tryz.underlying102, info102]
@[go_sem] theorem zeroA102 : zeroA Tryz.prog 102 = some .nilif := by unfold zeroA; rw [info102]; rfl
@[go_sem] theorem zeroOk102 : zeroOk Tryz.prog 102 = true := by unfold zeroOk; rw [zeroA102, cellsOf102]; rfl
attribute [go_sem] Tryz.underlying102
@[go_sem] theorem has103 : (Tryz.prog.info? 103).isSome = true := by rw [info103]; rfl
@[go_sem] theorem cellsOf103 : Tryz.prog.cellsOf 103 = 1 := by unfold Program.cellsOf; rw [info103]; rfl
@[go_sem] theorem bytesOf103 : bytesOf Tryz.prog 103 = 16 := by unfold bytesOf; rw [info103]; rfl
@[go_sem] theorem takeVar103 (cs : List PV) : takeVar Tryz.prog 103 cs = cs[0]? := by unfold takeVar isAggT; rw [Tryz.underlying103, info103]
@[go_sem] theorem partA103 (cs : List PV) (k : Nat) : partA Tryz.prog 103 cs k = cs[k]? := by unfold partA isAggT; rw [Tryz.underlying103, info103]
@[go_sem] theorem zeroA103 : zeroA Tryz.prog 103 = some .nilif := by unfold zeroA; rw [info103]; rfl
@[go_sem] theorem zeroOk103 : zeroOk Tryz.prog 103 = true := by unfold zeroOk; rw [zeroA103, cellsOf103]; rfl
attribute [go_sem] Tryz.underlying103
@[go_sem] theorem has105 : (Tryz.prog.info? 105).isSome = true := by rw [info105]; rfl
@[go_sem] theorem cellsOf105 : Tryz.prog.cellsOf 105 = 1 := by unfold Program.cellsOf; rw [info105]; rfl
@[go_sem] theorem bytesOf105 : bytesOf Tryz.prog 105 = 16 := by unfold bytesOf; rw [info105]; rfl
@[go_sem] theorem takeVar105 (cs : List PV) : takeVar Tryz.prog 105 cs = cs[0]? := by unfold takeVar isAggT; rw [Tryz.underlying105, info105]
@[go_sem] theorem partA105 (cs : List PV) (k : Nat) : partA Tryz.prog 105 cs k = cs[k]? := by unfold partA isAggT; rw [Tryz.underlying105, info105]
@[go_sem] theorem zeroA105 : zeroA Tryz.prog 105 = some .nilif := by unfold zeroA; rw [info105]; rfl
@[go_sem] theorem zeroOk105 : zeroOk Tryz.prog 105 = true := by unfold zeroOk; rw [zeroA105, cellsOf105]; rfl
attribute [go_sem] Tryz.underlying105
@[go_sem] theorem has106 : (Tryz.prog.info? 106).isSome = true := by rw [info106]; rfl
@[go_sem] theorem cellsOf106 : Tryz.prog.cellsOf 106 = 1 := by unfold Program.cellsOf; rw [info106]; rfl
@[go_sem] theorem bytesOf106 : bytesOf Tryz.prog 106 = 16 := by unfold bytesOf; rw [info106]; rfl
@[go_sem] theorem takeVar106 (cs : List PV) : takeVar Tryz.prog 106 cs = cs[0]? := by unfold takeVar isAggT; rw [Tryz.underlying106, info106]
@[go_sem] theorem partA106 (cs : List PV) (k : Nat) : partA Tryz.prog 106 cs k = cs[k]? := by unfold partA isAggT; rw [Tryz.underlying106, info106]
@[go_sem] theorem zeroA106 : zeroA Tryz.prog 106 = some .nilif := by unfold zeroA; rw [info106]; rfl
@[go_sem] theorem zeroOk106 : zeroOk Tryz.prog 106 = true := by unfold zeroOk; rw [zeroA106, cellsOf106]; rfl
attribute [go_sem] Tryz.underlying106
@[go_sem] theorem has107 : (Tryz.prog.info? 107).isSome = true := by rw [info107]; rfl
@[go_sem] theorem cellsOf107 : Tryz.prog.cellsOf 107 = 1 := by unfold Program.cellsOf; rw [info107]; rfl
@[go_sem] theorem bytesOf107 : bytesOf Tryz.prog 107 = 8 := by unfold bytesOf; rw [info107]; rfl
@[go_sem] theorem takeVar107 (cs : List PV) : takeVar Tryz.prog 107 cs = cs[0]? := by unfold takeVar isAggT; rw [Tryz.underlying107, info107]
@[go_sem] theorem partA107 (cs : List PV) (k : Nat) : partA Tryz.prog 107 cs k = cs[k]? := by unfold partA isAggT; rw [Tryz.underlying107, info107]
@[go_sem] theorem zeroA107 : zeroA Tryz.prog 107 = some .nilfn := by unfold zeroA; rw [info107]; rfl
@[go_sem] theorem zeroOk107 : zeroOk Tryz.prog 107 = true := by unfold zeroOk; rw [zeroA107, cellsOf107]; rfl
attribute [go_sem] Tryz.underlying107
@[go_sem] theorem has108 : (Tryz.prog.info? 108).isSome = true := by rw [info108]; rfl
@[go_sem] theorem cellsOf108 : Tryz.prog.cellsOf 108 = 1 := by unfold Program.cellsOf; rw [info108]; rfl
@[go_sem] theorem bytesOf108 : bytesOf Tryz.prog 108 = 8 := by unfold bytesOf; rw [info108]; rfl
@[go_sem] theorem takeVar108 (cs : List PV) : takeVar Tryz.prog 108 cs = cs[0]? := by unfold takeVar isAggT; rw [Tryz.underlying108, info108]
@[go_sem] theorem partA108 (cs : List PV) (k : Nat) : partA Tryz.prog 108 cs k = cs[k]? := by unfold partA isAggT; rw [Tryz.underlying108, info108]
@[go_sem] theorem zeroA108 : zeroA Tryz.prog 108 = some .nilfn := by unfold zeroA; rw [info108]; rfl
@[go_sem] theorem zeroOk108 : zeroOk Tryz.prog 108 = true := by unfold zeroOk; rw [zeroA108, cellsOf108]; rfl
attribute [go_sem] Tryz.underlying108
@[go_sem] theorem has109 : (Tryz.prog.info? 109).isSome = true := by rw [info109]; rfl
@[go_sem] theorem cellsOf109 : Tryz.prog.cellsOf 109 = 1 := by unfold Program.cellsOf; rw [info109]; rfl
@[go_sem] theorem bytesOf109 : bytesOf Tryz.prog 109 = 8 := by unfold bytesOf; rw [info109]; rfl
@[go_sem] theorem takeVar109 (cs : List PV) : takeVar Tryz.prog 109 cs = cs[0]? := by unfold takeVar isAggT; rw [Tryz.underlying109, info109]
@[go_sem] theorem partA109 (cs : List PV) (k : Nat) : partA Tryz.prog 109 cs k = cs[k]? := by unfold partA isAggT; rw [Tryz.underlying109, info109]
@[go_sem] theorem zeroA109 : zeroA Tryz.prog 109 = some .nilfn := by unfold zeroA; rw [info109]; rfl
@[go_sem] theorem zeroOk109 : zeroOk Tryz.prog 109 = true := by unfold zeroOk; rw [zeroA109, cellsOf109]; rfl
attribute [go_sem] Tryz.underlying109
@[go_sem] theorem has110 : (Tryz.prog.info? 110).isSome = true := by rw [info110]; rfl
@[go_sem] theorem cellsOf110 : Tryz.prog.cellsOf 110 = 1 := by unfold Program.cellsOf; rw [info110]; rfl
@[go_sem] theorem bytesOf110 : bytesOf Tryz.prog 110 = 8 := by unfold bytesOf; rw [info110]; rfl
@[go_sem] theorem takeVar110 (cs : List PV) : takeVar Tryz.prog 110 cs = cs[0]? := by unfold takeVar isAggT; rw [Tryz.underlying110, info110]
@[go_sem] theorem partA110 (cs : List PV) (k : Nat) : partA Tryz.prog 110 cs k = cs[k]? := by unfold partA isAggT; rw [Tryz.underlying110, info110]
@[go_sem] theorem zeroA110 : zeroA Tryz.prog 110 = some .nilfn := by unfold zeroA; rw [info110]; rfl
@[go_sem] theorem zeroOk110 : zeroOk Tryz.prog 110 = true := by unfold zeroOk; rw [zeroA110, cellsOf110]; rfl
attribute [go_sem] Tryz.underlying110
@[go_sem] theorem has111 : (Tryz.prog.info? 111).isSome = true := by rw [info111]; rfl
@[go_sem] theorem cellsOf111 : Tryz.prog.cellsOf 111 = 1 := by unfold Program.cellsOf; rw [info111]; rfl
@[go_sem] theorem bytesOf111 : bytesOf Tryz.prog 111 = 8 := by unfold bytesOf; rw [info111]; rfl
@[go_sem] theorem takeVar111 (cs : List PV) : takeVar Tryz.prog 111 cs = cs[0]? := by unfold takeVar isAggT; rw [Tryz.underlying111, info111]
@[go_sem] theorem partA111 (cs : List PV) (k : Nat) : partA Tryz.prog 111 cs k = cs[k]? := by unfold partA isAggT; rw [Tryz.underlying111, info111]
@[go_sem] theorem zeroA111 : zeroA Tryz.prog 111 = some .nilfn := by unfold zeroA; rw [info111]; rfl
@[go_sem] theorem zeroOk111 : zeroOk Tryz.prog 111 = true := by unfold zeroOk; rw [zeroA111, cellsOf111]; rfl
attribute [go_sem] Tryz.underlying111
@[go_sem] theorem has112 : (Tryz.prog.info? 112).isSome = true := by rw [info112]; rfl
@[go_sem] theorem cellsOf112 : Tryz.prog.cellsOf 112 = 1 := by unfold Program.cellsOf; rw [info112]; rfl
@[go_sem] theorem bytesOf112 : bytesOf Tryz.prog 112 = 8 := by unfold bytesOf; rw [info112]; rfl
@[go_sem] theorem takeVar112 (cs : List PV) : takeVar Tryz.prog 112 cs = cs[0]? := by unfold takeVar isAggT; rw [Tryz.underlying112, info112]
@[go_sem] theorem partA112 (cs : List PV) (k : Nat) : partA Tryz.prog 112 cs k = cs[k]? := by unfold partA isAggT; rw [Tryz.underlying112, info112]
@[go_sem] theorem zeroA112 : zeroA Tryz.prog 112 = some .nilfn := by unfold zeroA; rw [info112]; rfl
@[go_sem] theorem zeroOk112 : zeroOk Tryz.prog 112 = true := by unfold zeroOk; rw [zeroA112, cellsOf112]; rfl
attribute [go_sem] Tryz.underlying112
@[go_sem] theorem has113 : (Tryz.prog.info? 113).isSome = true := by rw [info113]; rfl
@[go_sem] theorem cellsOf113 : Tryz.prog.cellsOf 113 = 1 := by unfold Program.cellsOf; rw [info113]; rfl
@[go_sem] theorem bytesOf113 : bytesOf Tryz.prog 113 = 8 := by unfold bytesOf; rw [info113]; rfl
@[go_sem] theorem takeVar113 (cs : List PV) : takeVar Tryz.prog 113 cs = cs[0]? := by unfold takeVar isAggT; rw [Tryz.underlying113, info113]
@[go_sem] theorem partA113 (cs : List PV) (k : Nat) : partA Tryz.prog 113 cs k = cs[k]? := by unfold partA isAggT; rw [Tryz.underlying113, info113]
@[go_sem] theorem zeroA113 : zeroA Tryz.prog 113 = some .nilfn := by unfold zeroA; rw [info113]; rfl
@[go_sem] theorem zeroOk113 : zeroOk Tryz.prog 113 = true := by unfold zeroOk; rw [zeroA113, cellsOf113]; rfl
attribute [go_sem] Tryz.underlying113
@[go_sem] theorem has114 : (Tryz.prog.info? 114).isSome = true := by rw [info114]; rfl
@[go_sem] theorem cellsOf114 : Tryz.prog.cellsOf 114 = 1 := by unfold Program.cellsOf; rw [info114]; rfl
@[go_sem] theorem bytesOf114 : bytesOf Tryz.prog 114 = 8 := by unfold bytesOf; rw [info114]; rfl
@[go_sem] theorem takeVar114 (cs : List PV) : takeVar Tryz.prog 114 cs = cs[0]? := by unfold takeVar isAggT; rw [Tryz.underlying114, info114]
@[go_sem] theorem partA114 (cs : List PV) (k : Nat) : partA Tryz.prog 114 cs k = cs[k]? := by unfold partA isAggT; rw [Tryz.underlying114, info114]
@[go_sem] theorem zeroA114 : zeroA Tryz.prog 114 = some .nilfn := by unfold zeroA; rw [info114]; rfl
@[go_sem] theorem zeroOk114 : zeroOk Tryz.prog 114 = true := by unfold zeroOk; rw [zeroA114, cellsOf114]; rfl
attribute [go_sem] Tryz.underlying114
@[go_sem] theorem has115 : (Tryz.prog.info? 115).isSome = true := by rw [info115]; rfl
@[go_sem] theorem cellsOf115 : Tryz.prog.cellsOf 115 = 1 := by unfold Program.cellsOf; rw [info115]; rfl
@[go_sem] theorem bytesOf115 : bytesOf Tryz.prog 115 = 8 := by unfold bytesOf; rw [info115]; rfl
@[go_sem] theorem takeVar115 (cs : List PV) : takeVar Tryz.prog 115 cs = cs[0]? := by unfold takeVar isAggT; rw [Tryz.underlying115, info115]
@[go_sem] theorem partA115 (cs : List PV) (k : Nat) : partA Tryz.prog 115 cs k = cs[k]? := by unfold partA isAggT; rw [Tryz.underlying115, info115]
@[go_sem] theorem zeroA115 : zeroA Tryz.prog 115 = some .nilfn := by unfold zeroA; rw [info115]; rfl
@[go_sem] theorem zeroOk115 : zeroOk Tryz.prog 115 = true := by unfold zeroOk; rw [zeroA115, cellsOf115]; rfl
attribute [go_sem] Tryz.underlying115
@[go_sem] theorem has116 : (Tryz.prog.info? 116).isSome = true := by rw [info116]; rfl
@[go_sem] theorem cellsOf116 : Tryz.prog.cellsOf 116 = 1 := by unfold Program.cellsOf; rw [info116]; rfl
@[go_sem] theorem bytesOf116 : bytesOf Tryz.prog 116 = 8 := by unfold bytesOf; rw [info116]; rfl
@[go_sem] theorem takeVar116 (cs : List PV) : takeVar Tryz.prog 116 cs = cs[0]? := by unfold takeVar isAggT; rw [Tryz.underlying116, info116]
@[go_sem] theorem partA116 (cs : List PV) (k : Nat) : partA Tryz.prog 116 cs k = cs[k]? := by unfold partA isAggT; rw [Tryz.underlying116, info116]
@[go_sem] theorem zeroA116 : zeroA Tryz.prog 116 = some .nilfn := by unfold zeroA; rw [info116]; rfl
@[go_sem] theorem zeroOk116 : zeroOk Tryz.prog 116 = true := by unfold zeroOk; rw [zeroA116, cellsOf116]; rfl
attribute [go_sem] Tryz.underlying116
@[go_sem] theorem has117 : (Tryz.prog.info? 117).isSome = true := by rw [info117]; rfl
@[go_sem] theorem cellsOf117 : Tryz.prog.cellsOf 117 = 1 := by unfold Program.cellsOf; rw [info117]; rfl
@[go_sem] theorem bytesOf117 : bytesOf Tryz.prog 117 = 8 := by unfold bytesOf; rw [info117]; rfl
@[go_sem] theorem takeVar117 (cs : List PV) : takeVar Tryz.prog 117 cs = cs[0]? := by unfold takeVar isAggT; rw [Tryz.underlying117, info117]
@[go_sem] theorem partA117 (cs : List PV) (k : Nat) : partA Tryz.prog 117 cs k = cs[k]? := by unfold partA isAggT; rw [Tryz.underlying117, info117]
@[go_sem] theorem zeroA117 : zeroA Tryz.prog 117 = some .nilfn := by unfold zeroA; rw [info117]; rfl
@[go_sem] theorem zeroOk117 : zeroOk Tryz.prog 117 = true := by unfold zeroOk; rw [zeroA117, cellsOf117]; rfl
attribute [go_sem] Tryz.underlying117
@[go_sem] theorem has118 : (Tryz.prog.info? 118).isSome = true := by rw [info118]; rfl
@[go_sem] theorem cellsOf118 : Tryz.prog.cellsOf 118 = 6 := by unfold Program.cellsOf; rw [info118]; rfl
@[go_sem] theorem bytesOf118 : bytesOf Tryz.prog 118 = 48 := by unfold bytesOf; rw [info118]; rfl
@[go_sem] theorem takeVar118 (cs : List PV) : takeVar Tryz.prog 118 cs = if 6 ≤ cs.length then some (.agg (cs.take 6)) else none := by unfold takeVar isAggT; rw [Tryz.underlying118, info118]; rfl
@[go_sem] theorem partA118 (cs : List PV) (k : Nat) : partA Tryz.prog 118 cs k = if k + 6 ≤ cs.length then some (.agg ((cs.drop k).take 6)) else none := by unfold partA isAggT; rw [Tryz.underlying118, info118]; rfl
@[go_sem] theorem zeroA118 : zeroA Tryz.prog 118 = some (.agg [(.int IntKind.i64 0), (.int IntKind.i64 0), (.int IntKind.i64 0), (.int IntKind.i64 0), (.int IntKind.i64 0), (.int IntKind.i64 0)]) := by unfold zeroA; rw [info118]; rfl
@[go_sem] theorem zeroOk118 : zeroOk Tryz.prog 118 = true := by unfold zeroOk; rw [zeroA118, cellsOf118]; rfl
attribute [go_sem] Tryz.underlying118
@[go_sem] theorem has119 : (Tryz.prog.info? 119).isSome = true := by rw [info119]; rfl
@[go_sem] theorem cellsOf119 : Tryz.prog.cellsOf 119 = 6 := by unfold Program.cellsOf; rw [info119]; rfl
@[go_sem] theorem bytesOf119 : bytesOf Tryz.prog 119 = 48 := by unfold bytesOf; rw [info119]; rfl
@[go_sem] theorem takeVar119 (cs : List PV) : takeVar Tryz.prog 119 cs = if 6 ≤ cs.length then some (.agg (cs.take 6)) else none := by unfold takeVar isAggT; rw [Tryz.underlying119, info119]; rfl
@[go_sem] theorem partA119 (cs : List PV) (k : Nat) : partA Tryz.prog 119 cs k = if k + 6 ≤ cs.length then some (.agg ((cs.drop k).take 6)) else none := by unfold partA isAggT; rw [Tryz.underlying119, info119]; rfl
@[go_sem] theorem zeroA119 : zeroA Tryz.prog 119 = some (.agg [(.int IntKind.i64 0), (.int IntKind.i64 0), (.int IntKind.i64 0), (.int IntKind.i64 0), (.int IntKind.i64 0), (.int IntKind.i64 0)]) := by unfold zeroA; rw [info119]; rfl
@[go_sem] theorem zeroOk119 : zeroOk Tryz.prog 119 = true := by unfold zeroOk; rw [zeroA119, cellsOf119]; rfl
attribute [go_sem] Tryz.underlying119
@[go_sem] theorem has120 : (Tryz.prog.info? 120).isSome = true := by rw [info120]; rfl
@[go_sem] theorem cellsOf120 : Tryz.prog.cellsOf 120 = 18 := by unfold Program.cellsOf; rw [info120]; rfl
@[go_sem] theorem bytesOf120 : bytesOf Tryz.prog 120 = 144 := by unfold bytesOf; rw [info120]; rfl
@[go_sem] theorem takeVar120 (cs : List PV) : takeVar Tryz.prog 120 cs = if 18 ≤ cs.length then some (.agg (cs.take 18)) else none := by unfold takeVar isAggT; rw [Tryz.underlying120, info120]; rfl
@[go_sem] theorem partA120 (cs : List PV) (k : Nat) : partA Tryz.prog 120 cs k = if k + 18 ≤ cs.length then some (.agg ((cs.drop k).take 18)) else none := by unfold partA isAggT; rw [Tryz.underlying120, info120]; rfl
@[go_sem] theorem zeroA120 : zeroA Tryz.prog 120 = some (.agg [(.int IntKind.i64 0), (.int IntKind.i64 0), (.int IntKind.i64 0), (.int IntKind.i64 0), (.int IntKind.i64 0), (.int IntKind.i64 0), (.int IntKind.i64 0), (.int IntKind.i64 0), (.int IntKind.i64 0), (.int IntKind.i64 0), (.int IntKind.i64 0), (.int IntKind.i64 0), (.int IntKind.i64 0), (.int IntKind.i64 0), (.int IntKind.i64 0), (.int IntKind.i64 0), (.int IntKind.i64 0), (.int IntKind.i64 0)]) := by unfold zeroA; rw [info120]; rfl
@[go_sem] theorem zeroOk120 : zeroOk Tryz.prog 120 = true := by unfold zeroOk; rw [zeroA120, cellsOf120]; rfl
attribute [go_sem] Tryz.underlying120
@[go_sem] theorem has121 : (Tryz.prog.info? 121).isSome = true := by rw [info121]; rfl
@[go_sem] theorem cellsOf121 : Tryz.prog.cellsOf 121 = 18 := by unfold Program.cellsOf; rw [info121]; rfl
@[go_sem] theorem bytesOf121 : bytesOf Tryz.prog 121 = 144 := by unfold bytesOf; rw [info121]; rfl
@[go_sem] theorem takeVar121 (cs : List PV) : takeVar Tryz.prog 121 cs = if 18 ≤ cs.length then some (.agg (cs.take 18)) else none := by unfold takeVar isAggT; rw [Tryz.underlying121, info121]; rfl
@[go_sem] theorem partA121 (cs : List PV) (k : Nat) : partA Tryz.prog 121 cs k = if k + 18 ≤ cs.length then some (.agg ((cs.drop k).take 18)) else none := by unfold partA isAggT; rw [Tryz.underlying121, info121]; rfl
@[go_sem] theorem zeroA121 : zeroA Tryz.prog 121 = some (.agg [(.int IntKind.i64 0), (.int IntKind.i64 0), (.int IntKind.i64 0), (.int IntKind.i64 0), (.int IntKind.i64 0), (.int IntKind.i64 0), (.int IntKind.i64 0), (.int IntKind.i64 0), (.int IntKind.i64 0), (.int IntKind.i64 0), (.int IntKind.i64 0), (.int IntKind.i64 0), (.int IntKind.i64 0), (.int IntKind.i64 0), (.int IntKind.i64 0), (.int IntKind.i64 0), (.int IntKind.i64 0), (.int IntKind.i64 0)]) := by unfold zeroA; rw [info121]; rfl
@[go_sem] theorem zeroOk121 : zeroOk Tryz.prog 121 = true := by unfold zeroOk; rw [zeroA121, cellsOf121]; rfl
@[go_sem] theorem field121_0 : fieldInfo Tryz.prog 121 0 = some (0, 120) := by unfold fieldInfo; rw [Tryz.underlying121]; show (match Tryz.prog.info? 120 with | some i => if i.size = 0 then none else some (0, 120) | none => none) = _; rw [info120]; rfl
attribute [go_sem] Tryz.underlying121
@[go_sem] theorem has122 : (Tryz.prog.info? 122).isSome = true := by rw [info122]; rfl
@[go_sem] theorem cellsOf122 : Tryz.prog.cellsOf 122 = 18 := by unfold Program.cellsOf; rw [info122]; rfl
@[go_sem] theorem bytesOf122 : bytesOf Tryz.prog 122 = 144 := by unfold bytesOf; rw [info122]; rfl
@[go_sem] theorem takeVar122 (cs : List PV) : takeVar Tryz.prog 122 cs = if 18 ≤ cs.length then some (.agg (cs.take 18)) else none := by unfold takeVar isAggT; rw [Tryz.underlying122, info122]; rfl
@[go_sem] theorem partA122 (cs : List PV) (k : Nat) : partA Tryz.prog 122 cs k = if k + 18 ≤ cs.length then some (.agg ((cs.drop k).take 18)) else none := by unfold partA isAggT; rw [Tryz.underlying122, info122]; rfl
@[go_sem] theorem zeroA122 : zeroA Tryz.prog 122 = some (.agg [(.int IntKind.i64 0), (.int IntKind.i64 0), (.int IntKind.i64 0), (.int IntKind.i64 0), (.int IntKind.i64 0), (.int IntKind.i64 0), (.int IntKind.i64 0), (.int IntKind.i64 0), (.int IntKind.i64 0), (.int IntKind.i64 0), (.int IntKind.i64 0), (.int IntKind.i64 0), (.int IntKind.i64 0), (.int IntKind.i64 0), (.int IntKind.i64 0), (.int IntKind.i64 0), (.int IntKind.i64 0), (.int IntKind.i64 0)]) := by unfold zeroA; rw [info122]; rfl
@[go_sem] theorem zeroOk122 : zeroOk Tryz.prog 122 = true := by unfold zeroOk; rw [zeroA122, cellsOf122]; rfl
@[go_sem] theorem field122_0 : fieldInfo Tryz.prog 122 0 = some (0, 120) := by unfold fieldInfo; rw [Tryz.underlying122]; show (match Tryz.prog.info? 120 with | some i => if i.size = 0 then none else some (0, 120) | none => none) = _; rw [info120]; rfl
attribute [go_sem] Tryz.underlying122
@[go_sem] theorem has123 : (Tryz.prog.info? 123).isSome = true := by rw [info123]; rfl
@[go_sem] theorem cellsOf123 : Tryz.prog.cellsOf 123 = 1 := by unfold Program.cellsOf; rw [info123]; rfl
@[go_sem] theorem bytesOf123 : bytesOf Tryz.prog 123 = 24 := by unfold bytesOf; rw [info123]; rfl
@[go_sem] theorem takeVar123 (cs : List PV) : takeVar Tryz.prog 123 cs = cs[0]? := by unfold takeVar isAggT; rw [Tryz.underlying123, info123]
@[go_sem] theorem partA123 (cs : List PV) (k : Nat) : partA Tryz.prog 123 cs k = cs[k]? := by unfold partA isAggT; rw [Tryz.underlying123, info123]
@[go_sem] theorem zeroA123 : zeroA Tryz.prog 123 = some .emp := by unfold zeroA; rw [info123]; rfl
@[go_sem] theorem zeroOk123 : zeroOk Tryz.prog 123 = true := by unfold zeroOk; rw [zeroA123, cellsOf123]; rfl
attribute [go_sem] Tryz.underlying123
@[go_sem] theorem has124 : (Tryz.prog.info? 124).isSome = true := by rw [info124]; rfl
@[go_sem] theorem cellsOf124 : Tryz.prog.cellsOf 124 = 1 := by unfold Program.cellsOf; rw [info124]; rfl
@[go_sem] theorem bytesOf124 : bytesOf Tryz.prog 124 = 8 := by unfold bytesOf; rw [info124]; rfl
@[go_sem] theorem takeVar124 (cs : List PV) : takeVar Tryz.prog 124 cs = cs[0]? := by unfold takeVar isAggT; rw [Tryz.underlying124, info124]
@[go_sem] theorem partA124 (cs : List PV) (k : Nat) : partA Tryz.prog 124 cs k = cs[k]? := by unfold partA isAggT; rw [Tryz.underlying124, info124]
@[go_sem] theorem zeroA124 : zeroA Tryz.prog 124 = some .nilfn := by unfold zeroA; rw [info124]; rfl
@[go_sem] theorem zeroOk124 : zeroOk Tryz.prog 124 = true := by unfold zeroOk; rw [zeroA124, cellsOf124]; rfl
attribute [go_sem] Tryz.underlying124
@[go_sem] theorem has125 : (Tryz.prog.info? 125).isSome = true := by rw [info125]; rfl
@[go_sem] theorem cellsOf125 : Tryz.prog.cellsOf 125 = 1 := by unfold Program.cellsOf; rw [info125]; rfl
@[go_sem] theorem bytesOf125 : bytesOf Tryz.prog 125 = 8 := by unfold bytesOf; rw [info125]; rfl
@[go_sem] theorem takeVar125 (cs : List PV) : takeVar Tryz.prog 125 cs = cs[0]? := by unfold takeVar isAggT; rw [Tryz.underlying125, info125]
@[go_sem] theorem partA125 (cs : List PV) (k : Nat) : partA Tryz.prog 125 cs k = cs[k]? := by unfold partA isAggT; rw [Tryz.underlying125, info125]
@[go_sem] theorem zeroA125 : zeroA Tryz.prog 125 = some .nilfn := by unfold zeroA; rw [info125]; rfl
@[go_sem] theorem zeroOk125 : zeroOk Tryz.prog 125 = true := by unfold zeroOk; rw [zeroA125, cellsOf125]; rfl
attribute [go_sem] Tryz.underlying125
@[go_sem] theorem has126 : (Tryz.prog.info? 126).isSome = true := by rw [info126]; rfl
@[go_sem] theorem cellsOf126 : Tryz.prog.cellsOf 126 = 1 := by unfold Program.cellsOf; rw [info126]; rfl
@[go_sem] theorem bytesOf126 : bytesOf Tryz.prog 126 = 8 := by unfold bytesOf; rw [info126]; rfl
@[go_sem] theorem takeVar126 (cs : List PV) : takeVar Tryz.prog 126 cs = cs[0]? := by unfold takeVar isAggT; rw [Tryz.underlying126, info126]
@[go_sem] theorem partA126 (cs : List PV) (k : Nat) : partA Tryz.prog 126 cs k = cs[k]? := by unfold partA isAggT; rw [Tryz.underlying126, info126]
@[go_sem] theorem zeroA126 : zeroA Tryz.prog 126 = some .nilfn := by unfold zeroA; rw [info126]; rfl
@[go_sem] theorem zeroOk126 : zeroOk Tryz.prog 126 = true := by unfold zeroOk; rw [zeroA126, cellsOf126]; rfl
attribute [go_sem] Tryz.underlying126
@[go_sem] theorem has127 : (Tryz.prog.info? 127).isSome = true := by rw [info127]; rfl
@[go_sem] theorem cellsOf127 : Tryz.prog.cellsOf 127 = 1 := by unfold Program.cellsOf; rw [info127]; rfl
@[go_sem] theorem bytesOf127 : bytesOf Tryz.prog 127 = 8 := by unfold bytesOf; rw [info127]; rfl
@[go_sem] theorem takeVar127 (cs : List PV) : takeVar Tryz.prog 127 cs = cs[0]? := by unfold takeVar isAggT; rw [Tryz.underlying127, info127]
@[go_sem] theorem partA127 (cs : List PV) (k : Nat) : partA Tryz.prog 127 cs k = cs[k]? := by unfold partA isAggT; rw [Tryz.underlying127, info127]
@[go_sem] theorem zeroA127 : zeroA Tryz.prog 127 = some .nilfn := by unfold zeroA; rw [info127]; rfl
@[go_sem] theorem zeroOk127 : zeroOk Tryz.prog 127 = true := by unfold zeroOk; rw [zeroA127, cellsOf127]; rfl
attribute [go_sem] Tryz.underlying127
@[go_sem] theorem has128 : (Tryz.prog.info? 128).isSome = true := by rw [info128]; rfl
@[go_sem] theorem cellsOf128 : Tryz.prog.cellsOf 128 = 1 := by unfold Program.cellsOf; rw [info128]; rfl
@[go_sem] theorem bytesOf128 : bytesOf Tryz.prog 128 = 8 := by unfold bytesOf; rw [info128]; rfl
@[go_sem] theorem takeVar128 (cs : List PV) : takeVar Tryz.prog 128 cs = cs[0]? := by unfold takeVar isAggT; rw [Tryz.underlying128, info128]
@[go_sem] theorem partA128 (cs : List PV) (k : Nat) : partA Tryz.prog 128 cs k = cs[k]? := by unfold partA isAggT; rw [Tryz.underlying128, info128]
@[go_sem] theorem zeroA128 : zeroA Tryz.prog 128 = some .nilfn := by unfold zeroA; rw [info128]; rfl
@[go_sem] theorem zeroOk128 : zeroOk Tryz.prog 128 = true := by unfold zeroOk; rw [zeroA128, cellsOf128]; rfl
attribute [go_sem] Tryz.underlying128
@[go_sem] theorem has129 : (Tryz.prog.info? 129).isSome = true := by rw [info129]; rfl
@[go_sem] theorem cellsOf129 : Tryz.prog.cellsOf 129 = 1 := by unfold Program.cellsOf; rw [info129]; rfl
@[go_sem] theorem bytesOf129 : bytesOf Tryz.prog 129 = 8 := by unfold bytesOf; rw [info129]; rfl
@[go_sem] theorem takeVar129 (cs : List PV) : takeVar Tryz.prog 129 cs = cs[0]? := by unfold takeVar isAggT; rw [Tryz.underlying129, info129]
@[go_sem] theorem partA129 (cs : List PV) (k : Nat) : partA Tryz.prog 129 cs k = cs[k]? := by unfold partA isAggT; rw [Tryz.underlying129, info129]
@[go_sem] theorem zeroA129 : zeroA Tryz.prog 129 = some .nilfn := by unfold zeroA; rw [info129]; rfl
@[go_sem] theorem zeroOk129 : zeroOk Tryz.prog 129 = true := by unfold zeroOk; rw [zeroA129, cellsOf129]; rfl
attribute [go_sem] Tryz.underlying129
@[go_sem] theorem has131 : (Tryz.prog.info? 131).isSome = true := by rw [info131]; rfl
@[go_sem] theorem cellsOf131 : Tryz.prog.cellsOf 131 = 1 := by unfold Program.cellsOf; rw [info131]; rfl
@[go_sem] theorem bytesOf131 : bytesOf Tryz.prog 131 = 8 := by unfold bytesOf; rw [info131]; rfl
@[go_sem] theorem takeVar131 (cs : List PV) : takeVar Tryz.prog 131 cs = cs[0]? := by unfold takeVar isAggT; rw [Tryz.underlying131, info131]
@[go_sem] theorem partA131 (cs : List PV) (k : Nat) : partA Tryz.prog 131 cs k = cs[k]? := by unfold partA isAggT; rw [Tryz.underlying131, info131]
@[go_sem] theorem zeroA131 : zeroA Tryz.prog 131 = some .nilfn := by unfold zeroA; rw [info131]; rfl
@[go_sem] theorem zeroOk131 : zeroOk Tryz.prog 131 = true := by unfold zeroOk; rw [zeroA131, cellsOf131]; rfl
attribute [go_sem] Tryz.underlying131
@[go_sem] theorem has132 : (Tryz.prog.info? 132).isSome = true := by rw [info132]; rfl
@[go_sem] theorem cellsOf132 : Tryz.prog.cellsOf 132 = 1 := by unfold Program.cellsOf; rw [info132]; rfl
@[go_sem] theorem bytesOf132 : bytesOf Tryz.prog 132 = 8 := by unfold bytesOf; rw [info132]; rfl
@[go_sem] theorem takeVar132 (cs : List PV) : takeVar Tryz.prog 132 cs = cs[0]? := by unfold takeVar isAggT; rw [Tryz.underlying132, info132]
@[go_sem] theorem partA132 (cs : List PV) (k : Nat) : partA Tryz.prog 132 cs k = cs[k]? := by unfold partA isAggT; rw [Tryz.underlying132, info132]
@[go_sem] theorem zeroA132 : zeroA Tryz.prog 132 = some .nilfn := by unfold zeroA; rw [info132]; rfl
@[go_sem] theorem zeroOk132 : zeroOk Tryz.prog 132 = true := by unfold zeroOk; rw [zeroA132, cellsOf132]; rfl
attribute [go_sem] Tryz.underlying132
@[go_sem] theorem has133 : (Tryz.prog.info? 133).isSome = true := by rw [info133]; rfl
@[go_sem] theorem cellsOf133 : Tryz.prog.cellsOf 133 = 1 := by unfold Program.cellsOf; rw [info133]; rfl
@[go_sem] theorem bytesOf133 : bytesOf Tryz.prog 133 = 8 := by unfold bytesOf; rw [info133]; rfl
@[go_sem] theorem takeVar133 (cs : List PV) : takeVar Tryz.prog 133 cs = cs[0]? := by unfold takeVar isAggT; rw [Tryz.underlying133, info133]
@[go_sem] theorem partA133 (cs : List PV) (k : Nat) : partA Tryz.prog 133 cs k = cs[k]? := by unfold partA isAggT; rw [Tryz.underlying133, info133]
@[go_sem] theorem zeroA133 : zeroA Tryz.prog 133 = some .nilfn := by unfold zeroA; rw [info133]; rfl
@[go_sem] theorem zeroOk133 : zeroOk Tryz.prog 133 = true := by unfold zeroOk; rw [zeroA133, cellsOf133]; rfl
attribute [go_sem] Tryz.underlying133
@[go_sem] theorem has135 : (Tryz.prog.info? 135).isSome = true := by rw [info135]; rfl
@[go_sem] theorem cellsOf135 : Tryz.prog.cellsOf 135 = 1 := by unfold Program.cellsOf; rw [info135]; rfl
@[go_sem] theorem bytesOf135 : bytesOf Tryz.prog 135 = 8 := by unfold bytesOf; rw [info135]; rfl
@[go_sem] theorem takeVar135 (cs : List PV) : takeVar Tryz.prog 135 cs = cs[0]? := by unfold takeVar isAggT; rw [Tryz.underlying135, info135]
@[go_sem] theorem partA135 (cs : List PV) (k : Nat) : partA Tryz.prog 135 cs k = cs[k]? := by unfold partA isAggT; rw [Tryz.underlying135, info135]
@[go_sem] theorem zeroA135 : zeroA Tryz.prog 135 = some .nilfn := by unfold zeroA; rw [info135]; rfl
@[go_sem] theorem zeroOk135 : zeroOk Tryz.prog 135 = true := by unfold zeroOk; rw [zeroA135, cellsOf135]; rfl
attribute [go_sem] Tryz.underlying135
@[go_sem] theorem has137 : (Tryz.prog.info? 137).isSome = true := by rw [info137]; rfl
@[go_sem] theorem cellsOf137 : Tryz.prog.cellsOf 137 = 1 := by unfold Program.cellsOf; rw [info137]; rfl
@[go_sem] theorem bytesOf137 : bytesOf Tryz.prog 137 = 8 := by unfold bytesOf; rw [info137]; rfl
@[go_sem] theorem takeVar137 (cs : List PV) : takeVar Tryz.prog 137 cs = cs[0]? := by unfold takeVar isAggT; rw [Tryz.underlying137, info137]
@[go_sem] theorem partA137 (cs : List PV) (k : Nat) : partA Tryz.prog 137 cs k = cs[k]? := by unfold partA isAggT; rw [Tryz.underlying137, info137]
@[go_sem] theorem zeroA137 : zeroA Tryz.prog 137 = some .nilfn := by unfold zeroA; rw [info137]; rfl
@[go_sem] theorem zeroOk137 : zeroOk Tryz.prog 137 = true := by unfold zeroOk; rw [zeroA137, cellsOf137]; rfl
attribute [go_sem] Tryz.underlying137
@[go_sem] theorem has138 : (Tryz.prog.info? 138).isSome = true := by rw [info138]; rfl
@[go_sem] theorem cellsOf138 : Tryz.prog.cellsOf 138 = 1 := by unfold Program.cellsOf; rw [info138]; rfl
@[go_sem] theorem bytesOf138 : bytesOf Tryz.prog 138 = 8 := by unfold bytesOf; rw [info138]; rfl
@[go_sem] theorem takeVar138 (cs : List PV) : takeVar Tryz.prog 138 cs = cs[0]? := by unfold takeVar isAggT; rw [Tryz.underlying138, info138]
@[go_sem] theorem partA138 (cs : List PV) (k : Nat) : partA Tryz.prog 138 cs k = cs[k]? := by unfold partA isAggT; rw [Tryz.underlying138, info138]
@[go_sem] theorem zeroA138 : zeroA Tryz.prog 138 = some .nilfn := by unfold zeroA; rw [info138]; rfl
@[go_sem] theorem zeroOk138 : zeroOk Tryz.prog 138 = true := by unfold zeroOk; rw [zeroA138, cellsOf138]; rfl
attribute [go_sem] Tryz.underlying138
@[go_sem] theorem has139 : (Tryz.prog.info? 139).isSome = true := by rw [info139]; rfl
@[go_sem] theorem cellsOf139 : Tryz.prog.cellsOf 139 = 1 := by unfold Program.cellsOf; rw [info139]; rfl
@[go_sem] theorem bytesOf139 : bytesOf Tryz.prog 139 = 8 := by unfold bytesOf; rw [info139]; rfl
@[go_sem] theorem takeVar139 (cs : List PV) : takeVar Tryz.prog 139 cs = cs[0]? := by unfold takeVar isAggT; rw [Tryz.underlying139, info139]
@[go_sem] theorem partA139 (cs : List PV) (k : Nat) : partA Tryz.prog 139 cs k = cs[k]? := by unfold partA isAggT; rw [Tryz.underlying139, info139]
@[go_sem] theorem zeroA139 : zeroA Tryz.prog 139 = some .nilfn := by unfold zeroA; rw [info139]; rfl
@[go_sem] theorem zeroOk139 : zeroOk Tryz.prog 139 = true := by unfold zeroOk; rw [zeroA139, cellsOf139]; rfl
attribute [go_sem] Tryz.underlying139
@[go_sem] theorem has141 : (Tryz.prog.info? 141).isSome = true := by rw [info141]; rfl
@[go_sem] theorem cellsOf141 : Tryz.prog.cellsOf 141 = 1 := by unfold Program.cellsOf; rw [info141]; rfl
@[go_sem] theorem bytesOf141 : bytesOf Tryz.prog 141 = 8 := by unfold bytesOf; rw [info141]; rfl
@[go_sem] theorem takeVar141 (cs : List PV) : takeVar Tryz.prog 141 cs = cs[0]? := by unfold takeVar isAggT; rw [Tryz.underlying141, info141]
@[go_sem] theorem partA141 (cs : List PV) (k : Nat) : partA Tryz.prog 141 cs k = cs[k]? := by unfold partA isAggT; rw [Tryz.underlying141, info141]
@[go_sem] theorem zeroA141 : zeroA Tryz.prog 141 = some .nilfn := by unfold zeroA; rw [info141]; rfl
@[go_sem] theorem zeroOk141 : zeroOk Tryz.prog 141 = true := by unfold zeroOk; rw [zeroA141, cellsOf141]; rfl
attribute [go_sem] Tryz.underlying141
@[go_sem] theorem has142 : (Tryz.prog.info? 142).isSome = true := by rw [info142]; rfl
@[go_sem] theorem cellsOf142 : Tryz.prog.cellsOf 142 = 1 := by unfold Program.cellsOf; rw [info142]; rfl
@[go_sem] theorem bytesOf142 : bytesOf Tryz.prog 142 = 8 := by unfold bytesOf; rw [info142]; rfl
@[go_sem] theorem takeVar142 (cs : List PV) : takeVar Tryz.prog 142 cs = cs[0]? := by unfold takeVar isAggT; rw [Tryz.underlying142, info142]
@[go_sem] theorem partA142 (cs : List PV) (k : Nat) : partA Tryz.prog 142 cs k = cs[k]? := by unfold partA isAggT; rw [Tryz.underlying142, info142]
@[go_sem] theorem zeroA142 : zeroA Tryz.prog 142 = some .nilfn := by unfold zeroA; rw [info142]; rfl
@[go_sem] theorem zeroOk142 : zeroOk Tryz.prog 142 = true := by unfold zeroOk; rw [zeroA142, cellsOf142]; rfl
attribute [go_sem] Tryz.underlying142
@[go_sem] theorem has144 : (Tryz.prog.info? 144).isSome = true := by rw [info144]; rfl
@[go_sem] theorem cellsOf144 : Tryz.prog.cellsOf 144 = 1 := by unfold Program.cellsOf; rw [info144]; rfl
@[go_sem] theorem bytesOf144 : bytesOf Tryz.prog 144 = 8 := by unfold bytesOf; rw [info144]; rfl
@[go_sem] theorem takeVar144 (cs : List PV) : takeVar Tryz.prog 144 cs = cs[0]? := by unfold takeVar isAggT; rw [Tryz.underlying144, info144]
@[go_sem] theorem partA144 (cs : List PV) (k : Nat) : partA Tryz.prog 144 cs k = cs[k]? := by unfold partA isAggT; rw [Tryz.underlying144, info144]
@[go_sem] theorem zeroA144 : zeroA Tryz.prog 144 = some .nilfn := by unfold zeroA; rw [info144]; rfl
@[go_sem] theorem zeroOk144 : zeroOk Tryz.prog 144 = true := by unfold zeroOk; rw [zeroA144, cellsOf144]; rfl
attribute [go_sem] Tryz.underlying144
@[go_sem] theorem has145 : (Tryz.prog.info? 145).isSome = true := by rw [info145]; rfl
@[go_sem] theorem cellsOf145 : Tryz.prog.cellsOf 145 = 5 := by unfold Program.cellsOf; rw [info145]; rfl
@[go_sem] theorem bytesOf145 : bytesOf Tryz.prog 145 = 40 := by unfold bytesOf; rw [info145]; rfl
@[go_sem] theorem takeVar145 (cs : List PV) : takeVar Tryz.prog 145 cs = if 5 ≤ cs.length then some (.agg (cs.take 5)) else none := by unfold takeVar isAggT; rw [Tryz.underlying145, info145]; rfl
@[go_sem] theorem partA145 (cs : List PV) (k : Nat) : partA Tryz.prog 145 cs k = if k + 5 ≤ cs.length then some (.agg ((cs.drop k).take 5)) else none := by unfold partA isAggT; rw [Tryz.underlying145, info145]; rfl
@[go_sem] theorem zeroA145 : zeroA Tryz.prog 145 = some (.agg [.nilfn, .nilfn, .nilfn, .nilfn, .nilfn]) := by unfold zeroA; rw [info145]; rfl
@[go_sem] theorem zeroOk145 : zeroOk Tryz.prog 145 = true := by unfold zeroOk; rw [zeroA145, cellsOf145]; rfl
attribute [go_sem] Tryz.underlying145
@[go_sem] theorem has146 : (Tryz.prog.info? 146).isSome = true := by rw [info146]; rfl
@[go_sem] theorem cellsOf146 : Tryz.prog.cellsOf 146 = 1 := by unfold Program.cellsOf; rw [info146]; rfl
@[go_sem] theorem bytesOf146 : bytesOf Tryz.prog 146 = 8 := by unfold bytesOf; rw [info146]; rfl
@[go_sem] theorem takeVar146 (cs : List PV) : takeVar Tryz.prog 146 cs = cs[0]? := by unfold takeVar isAggT; rw [Tryz.underlying146, info146]
@[go_sem] theorem partA146 (cs : List PV) (k : Nat) : partA Tryz.prog 146 cs k = cs[k]? := by unfold partA isAggT; rw [Tryz.underlying146, info146]
@[go_sem] theorem zeroA146 : zeroA Tryz.prog 146 = some .nilfn := by unfold zeroA; rw [info146]; rfl
@[go_sem] theorem zeroOk146 : zeroOk Tryz.prog 146 = true := by unfold zeroOk; rw [zeroA146, cellsOf146]; rfl
attribute [go_sem] Tryz.underlying146
@[go_sem] theorem has148 : (Tryz.prog.info? 148).isSome = true := by rw [info148]; rfl
@[go_sem] theorem cellsOf148 : Tryz.prog.cellsOf 148 = 7 := by unfold Program.cellsOf; rw [info148]; rfl
@[go_sem] theorem bytesOf148 : bytesOf Tryz.prog 148 = 72 := by unfold bytesOf; rw [info148]; rfl
@[go_sem] theorem takeVar148 (cs : List PV) : takeVar Tryz.prog 148 cs = if 7 ≤ cs.length then some (.agg (cs.take 7)) else none := by unfold takeVar isAggT; rw [Tryz.underlying148, info148]; rfl
@[go_sem] theorem partA148 (cs : List PV) (k : Nat) : partA Tryz.prog 148 cs k = if k + 7 ≤ cs.length then some (.agg ((cs.drop k).take 7)) else none := by unfold partA isAggT; rw [Tryz.underlying148, info148]; rfl
@[go_sem] theorem zeroA148 : zeroA Tryz.prog 148 = some (.agg [(.int IntKind.i64 0), (.int IntKind.i64 0), (.int IntKind.i64 0), (.int IntKind.i64 0), (.int IntKind.i64 0), (.int IntKind.i64 0), .emp]) := by unfold zeroA; rw [info148]; rfl
@[go_sem] theorem zeroOk148 : zeroOk Tryz.prog 148 = true := by unfold zeroOk; rw [zeroA148, cellsOf148]; rfl
@[go_sem] theorem field148_0 : fieldInfo Tryz.prog 148 0 = some (0, 29) := by unfold fieldInfo; rw [Tryz.underlying148]; show (match Tryz.prog.info? 29 with | some i => if i.size = 0 then none else some (0, 29) | none => none) = _; rw [info29]; rfl
@[go_sem] theorem field148_1 : fieldInfo Tryz.prog 148 1 = some (2, 50) := by unfold fieldInfo; rw [Tryz.underlying148]; show (match Tryz.prog.info? 50 with | some i => if i.size = 0 then none else some (2, 50) | none => none) = _; rw [info50]; rfl
attribute [go_sem] Tryz.underlying148
@[go_sem] theorem has149 : (Tryz.prog.info? 149).isSome = true := by rw [info149]; rfl
@[go_sem] theorem cellsOf149 : Tryz.prog.cellsOf 149 = 7 := by unfold Program.cellsOf; rw [info149]; rfl
@[go_sem] theorem bytesOf149 : bytesOf Tryz.prog 149 = 72 := by unfold bytesOf; rw [info149]; rfl
@[go_sem] theorem takeVar149 (cs : List PV) : takeVar Tryz.prog 149 cs = if 7 ≤ cs.length then some (.agg (cs.take 7)) else none := by unfold takeVar isAggT; rw [Tryz.underlying149, info149]; rfl
@[go_sem] theorem partA149 (cs : List PV) (k : Nat) : partA Tryz.prog 149 cs k = if k + 7 ≤ cs.length then some (.agg ((cs.drop k).take 7)) else none := by unfold partA isAggT; rw [Tryz.underlying149, info149]; rfl
@[go_sem] theorem zeroA149 : zeroA Tryz.prog 149 = some (.agg [(.int IntKind.i64 0), (.int IntKind.i64 0), (.int IntKind.i64 0), (.int IntKind.i64 0), (.int IntKind.i64 0), (.int IntKind.i64 0), .emp]) := by unfold zeroA; rw [info149]; rfl
@[go_sem] theorem zeroOk149 : zeroOk Tryz.prog 149 = true := by unfold zeroOk; rw [zeroA149, cellsOf149]; rfl
@[go_sem] theorem field149_0 : fieldInfo Tryz.prog 149 0 = some (0, 29) := by unfold fieldInfo; rw [Tryz.underlying149]; show (match Tryz.prog.info? 29 with | some i => if i.size = 0 then none else some (0, 29) | none => none) = _; rw [info29]; rfl
@[go_sem] theorem field149_1 : fieldInfo Tryz.prog 149 1 = some (2, 50) := by unfold fieldInfo; rw [Tryz.underlying149]; show (match Tryz.prog.info? 50 with | some i => if i.size = 0 then none else some (2, 50) | none => none) = _; rw [info50]; rfl
attribute [go_sem] Tryz.underlying149
@[go_sem] theorem has151 : (Tryz.prog.info? 151).isSome = true := by rw [info151]; rfl
@[go_sem] theorem cellsOf151 : Tryz.prog.cellsOf 151 = 7 := by unfold Program.cellsOf; rw [info151]; rfl
@[go_sem] theorem bytesOf151 : bytesOf Tryz.prog 151 = 104 := by unfold bytesOf; rw [info151]; rfl
@[go_sem] theorem takeVar151 (cs : List PV) : takeVar Tryz.prog 151 cs = if 7 ≤ cs.length then some (.agg (cs.take 7)) else none := by unfold takeVar isAggT; rw [Tryz.underlying151, info151]; rfl
@[go_sem] theorem partA151 (cs : List PV) (k : Nat) : partA Tryz.prog 151 cs k = if k + 7 ≤ cs.length then some (.agg ((cs.drop k).take 7)) else none := by unfold partA isAggT; rw [Tryz.underlying151, info151]; rfl
@[go_sem] theorem zeroA151 : zeroA Tryz.prog 151 = some (.agg [(.int IntKind.i64 0), (.int IntKind.i64 0), (.int IntKind.i64 0), (.int IntKind.i64 0), .emp, .emp, .emp]) := by unfold zeroA; rw [info151]; rfl
@[go_sem] theorem zeroOk151 : zeroOk Tryz.prog 151 = true := by unfold zeroOk; rw [zeroA151, cellsOf151]; rfl
@[go_sem] theorem field151_0 : fieldInfo Tryz.prog 151 0 = some (0, 50) := by unfold fieldInfo; rw [Tryz.underlying151]; show (match Tryz.prog.info? 50 with | some i => if i.size = 0 then none else some (0, 50) | none => none) = _; rw [info50]; rfl
@[go_sem] theorem field151_1 : fieldInfo Tryz.prog 151 1 = some (5, 23) := by unfold fieldInfo; rw [Tryz.underlying151]; show (match Tryz.prog.info? 23 with | some i => if i.size = 0 then none else some (5, 23) | none => none) = _; rw [info23]; rfl
@[go_sem] theorem field151_2 : fieldInfo Tryz.prog 151 2 = some (6, 23) := by unfold fieldInfo; rw [Tryz.underlying151]; show (match Tryz.prog.info? 23 with | some i => if i.size = 0 then none else some (6, 23) | none => none) = _; rw [info23]; rfl
attribute [go_sem] Tryz.underlying151
@[go_sem] theorem has152 : (Tryz.prog.info? 152).isSome = true := by rw [info152]; rfl
@[go_sem] theorem cellsOf152 : Tryz.prog.cellsOf 152 = 6 := by unfold Program.cellsOf; rw [info152]; rfl
@[go_sem] theorem bytesOf152 : bytesOf Tryz.prog 152 = 80 := by unfold bytesOf; rw [info152]; rfl
@[go_sem] theorem takeVar152 (cs : List PV) : takeVar Tryz.prog 152 cs = if 6 ≤ cs.length then some (.agg (cs.take 6)) else none := by unfold takeVar isAggT; rw [Tryz.underlying152, info152]; rfl
@[go_sem] theorem partA152 (cs : List PV) (k : Nat) : partA Tryz.prog 152 cs k = if k + 6 ≤ cs.length then some (.agg ((cs.drop k).take 6)) else none := by unfold partA isAggT; rw [Tryz.underlying152, info152]; rfl
@[go_sem] theorem zeroA152 : zeroA Tryz.prog 152 = some (.agg [(.int IntKind.i64 0), (.int IntKind.i64 0), (.int IntKind.i64 0), (.int IntKind.i64 0), .emp, .emp]) := by unfold zeroA; rw [info152]; rfl
@[go_sem] theorem zeroOk152 : zeroOk Tryz.prog 152 = true := by unfold zeroOk; rw [zeroA152, cellsOf152]; rfl
@[go_sem] theorem field152_0 : fieldInfo Tryz.prog 152 0 = some (0, 50) := by unfold fieldInfo; rw [Tryz.underlying152]; show (match Tryz.prog.info? 50 with | some i => if i.size = 0 then none else some (0, 50) | none => none) = _; rw [info50]; rfl
@[go_sem] theorem field152_1 : fieldInfo Tryz.prog 152 1 = some (5, 23) := by unfold fieldInfo; rw [Tryz.underlying152]; show (match Tryz.prog.info? 23 with | some i => if i.size = 0 then none else some (5, 23) | none => none) = _; rw [info23]; rfl
attribute [go_sem] Tryz.underlying152
@[go_sem] theorem has153 : (Tryz.prog.info? 153).isSome = true := by rw [info153]; rfl
@[go_sem] theorem cellsOf153 : Tryz.prog.cellsOf 153 = 6 := by unfold Program.cellsOf; rw [info153]; rfl
@[go_sem] theorem bytesOf153 : bytesOf Tryz.prog 153 = 80 := by unfold bytesOf; rw [info153]; rfl
@[go_sem] theorem takeVar153 (cs : List PV) : takeVar Tryz.prog 153 cs = if 6 ≤ cs.length then some (.agg (cs.take 6)) else none := by unfold takeVar isAggT; rw [Tryz.underlying153, info153]; rfl
@[go_sem] theorem partA153 (cs : List PV) (k : Nat) : partA Tryz.prog 153 cs k = if k + 6 ≤ cs.length then some (.agg ((cs.drop k).take 6)) else none := by unfold partA isAggT; rw [Tryz.underlying153, info153]; rfl
@[go_sem] theorem zeroA153 : zeroA Tryz.prog 153 = some (.agg [(.int IntKind.i64 0), (.int IntKind.i64 0), (.int IntKind.i64 0), (.int IntKind.i64 0), .emp, .emp]) := by unfold zeroA; rw [info153]; rfl
@[go_sem] theorem zeroOk153 : zeroOk Tryz.prog 153 = true := by unfold zeroOk; rw [zeroA153, cellsOf153]; rfl
@[go_sem] theorem field153_0 : fieldInfo Tryz.prog 153 0 = some (0, 50) := by unfold fieldInfo; rw [Tryz.underlying153]; show (match Tryz.prog.info? 50 with | some i => if i.size = 0 then none else some (0, 50) | none => none) = _; rw [info50]; rfl
@[go_sem] theorem field153_1 : fieldInfo Tryz.prog 153 1 = some (5, 23) := by unfold fieldInfo; rw [Tryz.underlying153]; show (match Tryz.prog.info? 23 with | some i => if i.size = 0 then none else some (5, 23) | none => none) = _; rw [info23]; rfl
attribute [go_sem] Tryz.underlying153
@[go_sem] theorem has154 : (Tryz.prog.info? 154).isSome = true := by rw [info154]; rfl
@[go_sem] theorem cellsOf154 : Tryz.prog.cellsOf 154 = 1 := by unfold Program.cellsOf; rw [info154]; rfl
@[go_sem] theorem bytesOf154 : bytesOf Tryz.prog 154 = 8 := by unfold bytesOf; rw [info154]; rfl
@[go_sem] theorem takeVar154 (cs : List PV) : takeVar Tryz.prog 154 cs = cs[0]? := by unfold takeVar isAggT; rw [Tryz.underlying154, info154]
@[go_sem] theorem partA154 (cs : List PV) (k : Nat) : partA Tryz.prog 154 cs k = cs[k]? := by unfold partA isAggT; rw [Tryz.underlying154, info154]
@[go_sem] theorem zeroA154 : zeroA Tryz.prog 154 = some .nilfn := by unfold zeroA; rw [info154]; rfl
@[go_sem] theorem zeroOk154 : zeroOk Tryz.prog 154 = true := by unfold zeroOk; rw [zeroA154, cellsOf154]; rfl
attribute [go_sem] Tryz.underlying154
@[go_sem] theorem has155 : (Tryz.prog.info? 155).isSome = true := by rw [info155]; rfl
@[go_sem] theorem cellsOf155 : Tryz.prog.cellsOf 155 = 1 := by unfold Program.cellsOf; rw [info155]; rfl
@[go_sem] theorem bytesOf155 : bytesOf Tryz.prog 155 = 8 := by unfold bytesOf; rw [info155]; rfl
@[go_sem] theorem takeVar155 (cs : List PV) : takeVar Tryz.prog 155 cs = cs[0]? := by unfold takeVar isAggT; rw [Tryz.underlying155, info155]
@[go_sem] theorem partA155 (cs : List PV) (k : Nat) : partA Tryz.prog 155 cs k = cs[k]? := by unfold partA isAggT; rw [Tryz.underlying155, info155]
@[go_sem] theorem zeroA155 : zeroA Tryz.prog 155 = some .nilfn := by unfold zeroA; rw [info155]; rfl
@[go_sem] theorem zeroOk155 : zeroOk Tryz.prog 155 = true := by unfold zeroOk; rw [zeroA155, cellsOf155]; rfl
attribute [go_sem] Tryz.underlying155
@[go_sem] theorem has157 : (Tryz.prog.info? 157).isSome = true := by rw [info157]; rfl
@[go_sem] theorem cellsOf157 : Tryz.prog.cellsOf 157 = 1 := by unfold Program.cellsOf; rw [info157]; rfl
@[go_sem] theorem bytesOf157 : bytesOf Tryz.prog 157 = 8 := by unfold bytesOf; rw [info157]; rfl
@[go_sem] theorem takeVar157 (cs : List PV) : takeVar Tryz.prog 157 cs = cs[0]? := by unfold takeVar isAggT; rw [Tryz.underlying157, info157]
@[go_sem] theorem partA157 (cs : List PV) (k : Nat) : partA Tryz.prog 157 cs k = cs[k]? := by unfold partA isAggT; rw [Tryz.underlying157, info157]
@[go_sem] theorem zeroA157 : zeroA Tryz.prog 157 = some .nilfn := by unfold zeroA; rw [info157]; rfl
@[go_sem] theorem zeroOk157 : zeroOk Tryz.prog 157 = true := by unfold zeroOk; rw [zeroA157, cellsOf157]; rfl
attribute [go_sem] Tryz.underlying157
@[go_sem] theorem has158 : (Tryz.prog.info? 158).isSome = true := by rw [info158]; rfl
@[go_sem] theorem cellsOf158 : Tryz.prog.cellsOf 158 = 1 := by unfold Program.cellsOf; rw [info158]; rfl
@[go_sem] theorem bytesOf158 : bytesOf Tryz.prog 158 = 16 := by unfold bytesOf; rw [info158]; rfl
@[go_sem] theorem takeVar158 (cs : List PV) : takeVar Tryz.prog 158 cs = cs[0]? := by unfold takeVar isAggT; rw [Tryz.underlying158, info158]
@[go_sem] theorem partA158 (cs : List PV) (k : Nat) : partA Tryz.prog 158 cs k = cs[k]? := by unfold partA isAggT; rw [Tryz.underlying158, info158]
@[go_sem] theorem zeroA158 : zeroA Tryz.prog 158 = some .nilif := by unfold zeroA; rw [info158]; rfl
@[go_sem] theorem zeroOk158 : zeroOk Tryz.prog 158 = true := by unfold zeroOk; rw [zeroA158, cellsOf158]; rfl
attribute [go_sem] Tryz.underlying158
@[go_sem] theorem has159 : (Tryz.prog.info? 159).isSome = true := by rw [info159]; rfl
@[go_sem] theorem cellsOf159 : Tryz.prog.cellsOf 159 = 1 := by unfold Program.cellsOf; rw [info159]; rfl
@[go_sem] theorem bytesOf159 : bytesOf Tryz.prog 159 = 16 := by unfold bytesOf; rw [info159]; rfl
@[go_sem] theorem takeVar159 (cs : List PV) : takeVar Tryz.prog 159 cs = cs[0]? := by unfold takeVar isAggT; rw [Tryz.underlying159, info159]
@[go_sem] theorem partA159 (cs : List PV) (k : Nat) : partA Tryz.prog 159 cs k = cs[k]? := by unfold partA isAggT; rw [Tryz.underlying159, info159]
@[go_sem] theorem zeroA159 : zeroA Tryz.prog 159 = some .nilif := by unfold zeroA; rw [info159]; rfl
@[go_sem] theorem zeroOk159 : zeroOk Tryz.prog 159 = true := by unfold zeroOk; rw [zeroA159, cellsOf159]; rfl
attribute [go_sem] Tryz.underlying159
@[go_sem] theorem has162 : (Tryz.prog.info? 162).isSome = true := by rw [info162]; rfl
@[go_sem] theorem cellsOf162 : Tryz.prog.cellsOf 162 = 1 := by unfold Program.cellsOf; rw [info162]; rfl
@[go_sem] theorem bytesOf162 : bytesOf Tryz.prog 162 = 8 := by unfold bytesOf; rw [info162]; rfl
@[go_sem] theorem takeVar162 (cs : List PV) : takeVar Tryz.prog 162 cs = cs[0]? := by unfold takeVar isAggT; rw [Tryz.underlying162, info162]
@[go_sem] theorem partA162 (cs : List PV) (k : Nat) : partA Tryz.prog 162 cs k = cs[k]? := by unfold partA isAggT; rw [Tryz.underlying162, info162]
@[go_sem] theorem zeroA162 : zeroA Tryz.prog 162 = some .nilfn := by unfold zeroA; rw [info162]; rfl
@[go_sem] theorem zeroOk162 : zeroOk Tryz.prog 162 = true := by unfold zeroOk; rw [zeroA162, cellsOf162]; rfl
attribute [go_sem] Tryz.underlying162
@[go_sem] theorem has163 : (Tryz.prog.info? 163).isSome = true := by rw [info163]; rfl
@[go_sem] theorem cellsOf163 : Tryz.prog.cellsOf 163 = 1 := by unfold Program.cellsOf; rw [info163]; rfl
@[go_sem] theorem bytesOf163 : bytesOf Tryz.prog 163 = 8 := by unfold bytesOf; rw [info163]; rfl
@[go_sem] theorem takeVar163 (cs : List PV) : takeVar Tryz.prog 163 cs = cs[0]? := by unfold takeVar isAggT; rw [Tryz.underlying163, info163]
@[go_sem] theorem partA163 (cs : List PV) (k : Nat) : partA Tryz.prog 163 cs k = cs[k]? := by unfold partA isAggT; rw [Tryz.underlying163, info163]
@[go_sem] theorem zeroA163 : zeroA Tryz.prog 163 = some .nilfn := by unfold zeroA; rw [info163]; rfl
@[go_sem] theorem zeroOk163 : zeroOk Tryz.prog 163 = true := by unfold zeroOk; rw [zeroA163, cellsOf163]; rfl
attribute [go_sem] Tryz.underlying163
@[go_sem] theorem has164 : (Tryz.prog.info? 164).isSome = true := by rw [info164]; rfl
@[go_sem] theorem cellsOf164 : Tryz.prog.cellsOf 164 = 1 := by unfold Program.cellsOf; rw [info164]; rfl
@[go_sem] theorem bytesOf164 : bytesOf Tryz.prog 164 = 8 := by unfold bytesOf; rw [info164]; rfl
@[go_sem] theorem takeVar164 (cs : List PV) : takeVar Tryz.prog 164 cs = cs[0]? := by unfold takeVar isAggT; rw [Tryz.underlying164, info164]
@[go_sem] theorem partA164 (cs : List PV) (k : Nat) : partA Tryz.prog 164 cs k = cs[k]? := by unfold partA isAggT; rw [Tryz.underlying164, info164]
@[go_sem] theorem zeroA164 : zeroA Tryz.prog 164 = some .nilfn := by unfold zeroA; rw [info164]; rfl
@[go_sem] theorem zeroOk164 : zeroOk Tryz.prog 164 = true := by unfold zeroOk; rw [zeroA164, cellsOf164]; rfl
attribute [go_sem] Tryz.underlying164
@[go_sem] theorem has165 : (Tryz.prog.info? 165).isSome = true := by rw [info165]; rfl
@[go_sem] theorem cellsOf165 : Tryz.prog.cellsOf 165 = 1 := by unfold Program.cellsOf; rw [info165]; rfl
@[go_sem] theorem bytesOf165 : bytesOf Tryz.prog 165 = 8 := by unfold bytesOf; rw [info165]; rfl
@[go_sem] theorem takeVar165 (cs : List PV) : takeVar Tryz.prog 165 cs = cs[0]? := by unfold takeVar isAggT; rw [Tryz.underlying165, info165]
@[go_sem] theorem partA165 (cs : List PV) (k : Nat) : partA Tryz.prog 165 cs k = cs[k]? := by unfold partA isAggT; rw [Tryz.underlying165, info165]
@[go_sem] theorem zeroA165 : zeroA Tryz.prog 165 = some .nilfn := by unfold zeroA; rw [info165]; rfl
@[go_sem] theorem zeroOk165 : zeroOk Tryz.prog 165 = true := by unfold zeroOk; rw [zeroA165, cellsOf165]; rfl
attribute [go_sem] Tryz.underlying165
@[go_sem] theorem has167 : (Tryz.prog.info? 167).isSome = true := by rw [info167]; rfl
@[go_sem] theorem cellsOf167 : Tryz.prog.cellsOf 167 = 1 := by unfold Program.cellsOf; rw [info167]; rfl
@[go_sem] theorem bytesOf167 : bytesOf Tryz.prog 167 = 16 := by unfold bytesOf; rw [info167]; rfl
@[go_sem] theorem takeVar167 (cs : List PV) : takeVar Tryz.prog 167 cs = cs[0]? := by unfold takeVar isAggT; rw [Tryz.underlying167, info167]
@[go_sem] theorem partA167 (cs : List PV) (k : Nat) : partA Tryz.prog 167 cs k = cs[k]? := by unfold partA isAggT; rw [Tryz.underlying167, info167]
@[go_sem] theorem zeroA167 : zeroA Tryz.prog 167 = some .nilif := by unfold zeroA; rw [info167]; rfl
@[go_sem] theorem zeroOk167 : zeroOk Tryz.prog 167 = true := by unfold zeroOk; rw [zeroA167, cellsOf167]; rfl
attribute [go_sem] Tryz.underlying167
@[go_sem] theorem has170 : (Tryz.prog.info? 170).isSome = true := by rw [info170]; rfl
@[go_sem] theorem cellsOf170 : Tryz.prog.cellsOf 170 = 1 := by unfold Program.cellsOf; rw [info170]; rfl
@[go_sem] theorem bytesOf170 : bytesOf Tryz.prog 170 = 8 := by unfold bytesOf; rw [info170]; rfl
@[go_sem] theorem takeVar170 (cs : List PV) : takeVar Tryz.prog 170 cs = cs[0]? := by unfold takeVar isAggT; rw [Tryz.underlying170, info170]
@[go_sem] theorem partA170 (cs : List PV) (k : Nat) : partA Tryz.prog 170 cs k = cs[k]? := by unfold partA isAggT; rw [Tryz.underlying170, info170]
@[go_sem] theorem zeroA170 : zeroA Tryz.prog 170 = some (.int IntKind.u64 0) := by unfold zeroA; rw [info170]; rfl
@[go_sem] theorem zeroOk170 : zeroOk Tryz.prog 170 = true := by unfold zeroOk; rw [zeroA170, cellsOf170]; rfl
attribute [go_sem] Tryz.underlying170
@[go_sem] theorem has173 : (Tryz.prog.info? 173).isSome = true := by rw [info173]; rfl
@[go_sem] theorem cellsOf173 : Tryz.prog.cellsOf 173 = 1 := by unfold Program.cellsOf; rw [info173]; rfl
@[go_sem] theorem bytesOf173 : bytesOf Tryz.prog 173 = 8 := by unfold bytesOf; rw [info173]; rfl
@[go_sem] theorem takeVar173 (cs : List PV) : takeVar Tryz.prog 173 cs = cs[0]? := by unfold takeVar isAggT; rw [Tryz.underlying173, info173]
@[go_sem] theorem partA173 (cs : List PV) (k : Nat) : partA Tryz.prog 173 cs k = cs[k]? := by unfold partA isAggT; rw [Tryz.underlying173, info173]
@[go_sem] theorem zeroA173 : zeroA Tryz.prog 173 = some .nilfn := by unfold zeroA; rw [info173]; rfl
@[go_sem] theorem zeroOk173 : zeroOk Tryz.prog 173 = true := by unfold zeroOk; rw [zeroA173, cellsOf173]; rfl
attribute [go_sem] Tryz.underlying173
@[go_sem] theorem has174 : (Tryz.prog.info? 174).isSome = true := by rw [info174]; rfl
@[go_sem] theorem cellsOf174 : Tryz.prog.cellsOf 174 = 1 := by unfold Program.cellsOf; rw [info174]; rfl
@[go_sem] theorem bytesOf174 : bytesOf Tryz.prog 174 = 8 := by unfold bytesOf; rw [info174]; rfl
@[go_sem] theorem takeVar174 (cs : List PV) : takeVar Tryz.prog 174 cs = cs[0]? := by unfold takeVar isAggT; rw [Tryz.underlying174, info174]
@[go_sem] theorem partA174 (cs : List PV) (k : Nat) : partA Tryz.prog 174 cs k = cs[k]? := by unfold partA isAggT; rw [Tryz.underlying174, info174]
@[go_sem] theorem zeroA174 : zeroA Tryz.prog 174 = some .nilfn := by unfold zeroA; rw [info174]; rfl
@[go_sem] theorem zeroOk174 : zeroOk Tryz.prog 174 = true := by unfold zeroOk; rw [zeroA174, cellsOf174]; rfl
attribute [go_sem] Tryz.underlying174
@[go_sem] theorem has175 : (Tryz.prog.info? 175).isSome = true := by rw [info175]; rfl
@[go_sem] theorem cellsOf175 : Tryz.prog.cellsOf 175 = 1 := by unfold Program.cellsOf; rw [info175]; rfl
@[go_sem] theorem bytesOf175 : bytesOf Tryz.prog 175 = 8 := by unfold bytesOf; rw [info175]; rfl
@[go_sem] theorem takeVar175 (cs : List PV) : takeVar Tryz.prog 175 cs = cs[0]? := by unfold takeVar isAggT; rw [Tryz.underlying175, info175]
@[go_sem] theorem partA175 (cs : List PV) (k : Nat) : partA Tryz.prog 175 cs k = cs[k]? := by unfold partA isAggT; rw [Tryz.underlying175, info175]
@[go_sem] theorem zeroA175 : zeroA Tryz.prog 175 = some .nilfn := by unfold zeroA; rw [info175]; rfl
@[go_sem] theorem zeroOk175 : zeroOk Tryz.prog 175 = true := by unfold zeroOk; rw [zeroA175, cellsOf175]; rfl
attribute [go_sem] Tryz.underlying175
@[go_sem] theorem has176 : (Tryz.prog.info? 176).isSome = true := by rw [info176]; rfl
@[go_sem] theorem cellsOf176 : Tryz.prog.cellsOf 176 = 1 := by unfold Program.cellsOf; rw [info176]; rfl
@[go_sem] theorem bytesOf176 : bytesOf Tryz.prog 176 = 8 := by unfold bytesOf; rw [info176]; rfl
@[go_sem] theorem takeVar176 (cs : List PV) : takeVar Tryz.prog 176 cs = cs[0]? := by unfold takeVar isAggT; rw [Tryz.underlying176, info176]
@[go_sem] theorem partA176 (cs : List PV) (k : Nat) : partA Tryz.prog 176 cs k = cs[k]? := by unfold partA isAggT; rw [Tryz.underlying176, info176]
@[go_sem] theorem zeroA176 : zeroA Tryz.prog 176 = some .nilfn := by unfold zeroA; rw [info176]; rfl
@[go_sem] theorem zeroOk176 : zeroOk Tryz.prog 176 = true := by unfold zeroOk; rw [zeroA176, cellsOf176]; rfl
attribute [go_sem] Tryz.underlying176
@[go_sem] theorem has184 : (Tryz.prog.info? 184).isSome = true := by rw [info184]; rfl
@[go_sem] theorem cellsOf184 : Tryz.prog.cellsOf 184 = 1 := by unfold Program.cellsOf; rw [info184]; rfl
@[go_sem] theorem bytesOf184 : bytesOf Tryz.prog 184 = 8 := by unfold bytesOf; rw [info184]; rfl
@[go_sem] theorem takeVar184 (cs : List PV) : takeVar Tryz.prog 184 cs = if 1 ≤ cs.length then some (.agg (cs.take 1)) else none := by unfold takeVar isAggT; rw [Tryz.underlying184, info184]; rfl
@[go_sem] theorem partA184 (cs : List PV) (k : Nat) : partA Tryz.prog 184 cs k = if k + 1 ≤ cs.length then some (.agg ((cs.drop k).take 1)) else none := by unfold partA isAggT; rw [Tryz.underlying184, info184]; rfl
@[go_sem] theorem zeroA184 : zeroA Tryz.prog 184 = some (.agg [.nilp]) := by unfold zeroA; rw [info184]; rfl
@[go_sem] theorem zeroOk184 : zeroOk Tryz.prog 184 = true := by unfold zeroOk; rw [zeroA184, cellsOf184]; rfl
@[go_sem] theorem field184_0 : fieldInfo Tryz.prog 184 0 = some (0, 17) := by unfold fieldInfo; rw [Tryz.underlying184]; show (match Tryz.prog.info? 17 with | some i => if i.size = 0 then none else some (0, 17) | none => none) = _; rw [info17]; rfl
attribute [go_sem] Tryz.underlying184
@[go_sem] theorem has186 : (Tryz.prog.info? 186).isSome = true := by rw [info186]; rfl
@[go_sem] theorem cellsOf186 : Tryz.prog.cellsOf 186 = 1 := by unfold Program.cellsOf; rw [info186]; rfl
@[go_sem] theorem bytesOf186 : bytesOf Tryz.prog 186 = 16 := by unfold bytesOf; rw [info186]; rfl
@[go_sem] theorem takeVar186 (cs : List PV) : takeVar Tryz.prog 186 cs = cs[0]? := by unfold takeVar isAggT; rw [Tryz.underlying186, info186]
@[go_sem] theorem partA186 (cs : List PV) (k : Nat) : partA Tryz.prog 186 cs k = cs[k]? := by unfold partA isAggT; rw [Tryz.underlying186, info186]
@[go_sem] theorem zeroA186 : zeroA Tryz.prog 186 = some .nilif := by unfold zeroA; rw [info186]; rfl
@[go_sem] theorem zeroOk186 : zeroOk Tryz.prog 186 = true := by unfold zeroOk; rw [zeroA186, cellsOf186]; rfl
attribute [go_sem] Tryz.underlying186
@[go_sem] theorem has188 : (Tryz.prog.info? 188).isSome = true := by rw [info188]; rfl
@[go_sem] theorem cellsOf188 : Tryz.prog.cellsOf 188 = 1 := by unfold Program.cellsOf; rw [info188]; rfl
@[go_sem] theorem bytesOf188 : bytesOf Tryz.prog 188 = 8 := by unfold bytesOf; rw [info188]; rfl
@[go_sem] theorem takeVar188 (cs : List PV) : takeVar Tryz.prog 188 cs = cs[0]? := by unfold takeVar isAggT; rw [Tryz.underlying188, info188]
@[go_sem] theorem partA188 (cs : List PV) (k : Nat) : partA Tryz.prog 188 cs k = cs[k]? := by unfold partA isAggT; rw [Tryz.underlying188, info188]
@[go_sem] theorem zeroA188 : zeroA Tryz.prog 188 = some .nilfn := by unfold zeroA; rw [info188]; rfl
@[go_sem] theorem zeroOk188 : zeroOk Tryz.prog 188 = true := by unfold zeroOk; rw [zeroA188, cellsOf188]; rfl
attribute [go_sem] Tryz.underlying188
@[go_sem] theorem has189 : (Tryz.prog.info? 189).isSome = true := by rw [info189]; rfl
@[go_sem] theorem cellsOf189 : Tryz.prog.cellsOf 189 = 1 := by unfold Program.cellsOf; rw [info189]; rfl
@[go_sem] theorem bytesOf189 : bytesOf Tryz.prog 189 = 16 := by unfold bytesOf; rw [info189]; rfl
@[go_sem] theorem takeVar189 (cs : List PV) : takeVar Tryz.prog 189 cs = cs[0]? := by unfold takeVar isAggT; rw [Tryz.underlying189, info189]
@[go_sem] theorem partA189 (cs : List PV) (k : Nat) : partA Tryz.prog 189 cs k = cs[k]? := by unfold partA isAggT; rw [Tryz.underlying189, info189]
@[go_sem] theorem zeroA189 : zeroA Tryz.prog 189 = some .nilif := by unfold zeroA; rw [info189]; rfl
@[go_sem] theorem zeroOk189 : zeroOk Tryz.prog 189 = true := by unfold zeroOk; rw [zeroA189, cellsOf189]; rfl
attribute [go_sem] Tryz.underlying189
@[go_sem] theorem has191 : (Tryz.prog.info? 191).isSome = true := by rw [info191]; rfl
@[go_sem] theorem cellsOf191 : Tryz.prog.cellsOf 191 = 1 := by unfold Program.cellsOf; rw [info191]; rfl
@[go_sem] theorem bytesOf191 : bytesOf Tryz.prog 191 = 16 := by unfold bytesOf; rw [info191]; rfl
@[go_sem] theorem takeVar191 (cs : List PV) : takeVar Tryz.prog 191 cs = cs[0]? := by unfold takeVar isAggT; rw [Tryz.underlying191, info191]
@[go_sem] theorem partA191 (cs : List PV) (k : Nat) : partA Tryz.prog 191 cs k = cs[k]? := by unfold partA isAggT; rw [Tryz.underlying191, info191]
@[go_sem] theorem zeroA191 : zeroA Tryz.prog 191 = some .nilif := by unfold zeroA; rw [info191]; rfl
@[go_sem] theorem zeroOk191 : zeroOk Tryz.prog 191 = true := by unfold zeroOk; rw [zeroA191, cellsOf191]; rfl
attribute [go_sem] Tryz.underlying191
@[go_sem] theorem has192 : (Tryz.prog.info? 192).isSome = true := by rw [info192]; rfl
@[go_sem] theorem cellsOf192 : Tryz.prog.cellsOf 192 = 1 := by unfold Program.cellsOf; rw [info192]; rfl
@[go_sem] theorem bytesOf192 : bytesOf Tryz.prog 192 = 24 := by unfold bytesOf; rw [info192]; rfl
@[go_sem] theorem takeVar192 (cs : List PV) : takeVar Tryz.prog 192 cs = cs[0]? := by unfold takeVar isAggT; rw [Tryz.underlying192, info192]
@[go_sem] theorem partA192 (cs : List PV) (k : Nat) : partA Tryz.prog 192 cs k = cs[k]? := by unfold partA isAggT; rw [Tryz.underlying192, info192]
@[go_sem] theorem zeroA192 : zeroA Tryz.prog 192 = some .emp := by unfold zeroA; rw [info192]; rfl
@[go_sem] theorem zeroOk192 : zeroOk Tryz.prog 192 = true := by unfold zeroOk; rw [zeroA192, cellsOf192]; rfl
attribute [go_sem] Tryz.underlying192
@[go_sem] theorem has194 : (Tryz.prog.info? 194).isSome = true := by rw [info194]; rfl
@[go_sem] theorem cellsOf194 : Tryz.prog.cellsOf 194 = 1 := by unfold Program.cellsOf; rw [info194]; rfl
@[go_sem] theorem bytesOf194 : bytesOf Tryz.prog 194 = 8 := by unfold bytesOf; rw [info194]; rfl
@[go_sem] theorem takeVar194 (cs : List PV) : takeVar Tryz.prog 194 cs = cs[0]? := by unfold takeVar isAggT; rw [Tryz.underlying194, info194]
@[go_sem] theorem partA194 (cs : List PV) (k : Nat) : partA Tryz.prog 194 cs k = cs[k]? := by unfold partA isAggT; rw [Tryz.underlying194, info194]
@[go_sem] theorem zeroA194 : zeroA Tryz.prog 194 = some .nilfn := by unfold zeroA; rw [info194]; rfl
@[go_sem] theorem zeroOk194 : zeroOk Tryz.prog 194 = true := by unfold zeroOk; rw [zeroA194, cellsOf194]; rfl
attribute [go_sem] Tryz.underlying194
@[go_sem] theorem has196 : (Tryz.prog.info? 196).isSome = true := by rw [info196]; rfl
@[go_sem] theorem cellsOf196 : Tryz.prog.cellsOf 196 = 0 := by unfold Program.cellsOf; rw [info196]; rfl
@[go_sem] theorem bytesOf196 : bytesOf Tryz.prog 196 = 0 := by unfold bytesOf; rw [info196]; rfl
@[go_sem] theorem takeVar196 (cs : List PV) : takeVar Tryz.prog 196 cs = if 0 ≤ cs.length then some (.agg (cs.take 0)) else none := by unfold takeVar isAggT; rw [Tryz.underlying196, info196]; rfl
@[go_sem] theorem partA196 (cs : List PV) (k : Nat) : partA Tryz.prog 196 cs k = if k + 0 ≤ cs.length then some (.agg ((cs.drop k).take 0)) else none := by unfold partA isAggT; rw [Tryz.underlying196, info196]; rfl
@[go_sem] theorem zeroA196 : zeroA Tryz.prog 196 = some (.agg []) := by unfold zeroA; rw [info196]; rfl
@[go_sem] theorem zeroOk196 : zeroOk Tryz.prog 196 = true := by unfold zeroOk; rw [zeroA196, cellsOf196]; rfl
attribute [go_sem] Tryz.underlying196
@[go_sem] theorem has197 : (Tryz.prog.info? 197).isSome = true := by rw [info197]; rfl
@[go_sem] theorem cellsOf197 : Tryz.prog.cellsOf 197 = 0 := by unfold Program.cellsOf; rw [info197]; rfl
@[go_sem] theorem bytesOf197 : bytesOf Tryz.prog 197 = 0 := by unfold bytesOf; rw [info197]; rfl
@[go_sem] theorem takeVar197 (cs : List PV) : takeVar Tryz.prog 197 cs = if 0 ≤ cs.length then some (.agg (cs.take 0)) else none := by unfold takeVar isAggT; rw [Tryz.underlying197, info197]; rfl
@[go_sem] theorem partA197 (cs : List PV) (k : Nat) : partA Tryz.prog 197 cs k = if k + 0 ≤ cs.length then some (.agg ((cs.drop k).take 0)) else none := by unfold partA isAggT; rw [Tryz.underlying197, info197]; rfl
@[go_sem] theorem zeroA197 : zeroA Tryz.prog 197 = some (.agg []) := by unfold zeroA; rw [info197]; rfl
@[go_sem] theorem zeroOk197 : zeroOk Tryz.prog 197 = true := by unfold zeroOk; rw [zeroA197, cellsOf197]; rfl
attribute [go_sem] Tryz.underlying197
@[go_sem] theorem has198 : (Tryz.prog.info? 198).isSome = true := by rw [info198]; rfl
@[go_sem] theorem cellsOf198 : Tryz.prog.cellsOf 198 = 0 := by unfold Program.cellsOf; rw [info198]; rfl
@[go_sem] theorem bytesOf198 : bytesOf Tryz.prog 198 = 0 := by unfold bytesOf; rw [info198]; rfl
@[go_sem] theorem takeVar198 (cs : List PV) : takeVar Tryz.prog 198 cs = if 0 ≤ cs.length then some (.agg (cs.take 0)) else none := by unfold takeVar isAggT; rw [Tryz.underlying198, info198]; rfl
@[go_sem] theorem partA198 (cs : List PV) (k : Nat) : partA Tryz.prog 198 cs k = if k + 0 ≤ cs.length then some (.agg ((cs.drop k).take 0)) else none := by unfold partA isAggT; rw [Tryz.underlying198, info198]; rfl
@[go_sem] theorem zeroA198 : zeroA Tryz.prog 198 = some (.agg []) := by unfold zeroA; rw [info198]; rfl
@[go_sem] theorem zeroOk198 : zeroOk Tryz.prog 198 = true := by unfold zeroOk; rw [zeroA198, cellsOf198]; rfl
attribute [go_sem] Tryz.underlying198
@[go_sem] theorem has199 : (Tryz.prog.info? 199).isSome = true := by rw [info199]; rfl
@[go_sem] theorem cellsOf199 : Tryz.prog.cellsOf 199 = 0 := by unfold Program.cellsOf; rw [info199]; rfl
@[go_sem] theorem bytesOf199 : bytesOf Tryz.prog 199 = 0 := by unfold bytesOf; rw [info199]; rfl
@[go_sem] theorem takeVar199 (cs : List PV) : takeVar Tryz.prog 199 cs = if 0 ≤ cs.length then some (.agg (cs.take 0)) else none := by unfold takeVar isAggT; rw [Tryz.underlying199, info199]; rfl
@[go_sem] theorem partA199 (cs : List PV) (k : Nat) : partA Tryz.prog 199 cs k = if k + 0 ≤ cs.length then some (.agg ((cs.drop k).take 0)) else none := by unfold partA isAggT; rw [Tryz.underlying199, info199]; rfl
@[go_sem] theorem zeroA199 : zeroA Tryz.prog 199 = some (.agg []) := by unfold zeroA; rw [info199]; rfl
@[go_sem] theorem zeroOk199 : zeroOk Tryz.prog 199 = true := by unfold zeroOk; rw [zeroA199, cellsOf199]; rfl
attribute [go_sem] Tryz.underlying199
@[go_sem] theorem has200 : (Tryz.prog.info? 200).isSome = true := by rw [info200]; rfl
@[go_sem] theorem cellsOf200 : Tryz.prog.cellsOf 200 = 1 := by unfold Program.cellsOf; rw [info200]; rfl
@[go_sem] theorem bytesOf200 : bytesOf Tryz.prog 200 = 4 := by unfold bytesOf; rw [info200]; rfl
@[go_sem] theorem takeVar200 (cs : List PV) : takeVar Tryz.prog 200 cs = cs[0]? := by unfold takeVar isAggT; rw [Tryz.underlying200, info200]
@[go_sem] theorem partA200 (cs : List PV) (k : Nat) : partA Tryz.prog 200 cs k = cs[k]? := by unfold partA isAggT; rw [Tryz.underlying200, info200]
@[go_sem] theorem zeroA200 : zeroA Tryz.prog 200 = some (.int IntKind.u32 0) := by unfold zeroA; rw [info200]; rfl
@[go_sem] theorem zeroOk200 : zeroOk Tryz.prog 200 = true := by unfold zeroOk; rw [zeroA200, cellsOf200]; rfl
attribute [go_sem] Tryz.underlying200
@[go_sem] theorem has202 : (Tryz.prog.info? 202).isSome = true := by rw [info202]; rfl
@[go_sem] theorem cellsOf202 : Tryz.prog.cellsOf 202 = 1 := by unfold Program.cellsOf; rw [info202]; rfl
@[go_sem] theorem bytesOf202 : bytesOf Tryz.prog 202 = 8 := by unfold bytesOf; rw [info202]; rfl
@[go_sem] theorem takeVar202 (cs : List PV) : takeVar Tryz.prog 202 cs = cs[0]? := by unfold takeVar isAggT; rw [Tryz.underlying202, info202]
@[go_sem] theorem partA202 (cs : List PV) (k : Nat) : partA Tryz.prog 202 cs k = cs[k]? := by unfold partA isAggT; rw [Tryz.underlying202, info202]
@[go_sem] theorem zeroA202 : zeroA Tryz.prog 202 = some .nilfn := by unfold zeroA; rw [info202]; rfl
@[go_sem] theorem zeroOk202 : zeroOk Tryz.prog 202 = true := by unfold zeroOk; rw [zeroA202, cellsOf202]; rfl
attribute [go_sem] Tryz.underlying202
@[go_sem] theorem has203 : (Tryz.prog.info? 203).isSome = true := by rw [info203]; rfl
@[go_sem] theorem cellsOf203 : Tryz.prog.cellsOf 203 = 1 := by unfold Program.cellsOf; rw [info203]; rfl
@[go_sem] theorem bytesOf203 : bytesOf Tryz.prog 203 = 8 := by unfold bytesOf; rw [info203]; rfl
@[go_sem] theorem takeVar203 (cs : List PV) : takeVar Tryz.prog 203 cs = cs[0]? := by unfold takeVar isAggT; rw [Tryz.underlying203, info203]
@[go_sem] theorem partA203 (cs : List PV) (k : Nat) : partA Tryz.prog 203 cs k = cs[k]? := by unfold partA isAggT; rw [Tryz.underlying203, info203]
@[go_sem] theorem zeroA203 : zeroA Tryz.prog 203 = some (.int IntKind.u64 0) := by unfold zeroA; rw [info203]; rfl
@[go_sem] theorem zeroOk203 : zeroOk Tryz.prog 203 = true := by unfold zeroOk; rw [zeroA203, cellsOf203]; rfl
attribute [go_sem] Tryz.underlying203
@[go_sem] theorem has207 : (Tryz.prog.info? 207).isSome = true := by rw [info207]; rfl
@[go_sem] theorem cellsOf207 : Tryz.prog.cellsOf 207 = 1 := by unfold Program.cellsOf; rw [info207]; rfl
@[go_sem] theorem bytesOf207 : bytesOf Tryz.prog 207 = 8 := by unfold bytesOf; rw [info207]; rfl
@[go_sem] theorem takeVar207 (cs : List PV) : takeVar Tryz.prog 207 cs = cs[0]? := by unfold takeVar isAggT; rw [Tryz.underlying207, info207]
@[go_sem] theorem partA207 (cs : List PV) (k : Nat) : partA Tryz.prog 207 cs k = cs[k]? := by unfold partA isAggT; rw [Tryz.underlying207, info207]
@[go_sem] theorem zeroA207 : zeroA Tryz.prog 207 = some .nilfn := by unfold zeroA; rw [info207]; rfl
@[go_sem] theorem zeroOk207 : zeroOk Tryz.prog 207 = true := by unfold zeroOk; rw [zeroA207, cellsOf207]; rfl
attribute [go_sem] Tryz.underlying207
@[go_sem] theorem has209 : (Tryz.prog.info? 209).isSome = true := by rw [info209]; rfl
@[go_sem] theorem cellsOf209 : Tryz.prog.cellsOf 209 = 1 := by unfold Program.cellsOf; rw [info209]; rfl
@[go_sem] theorem bytesOf209 : bytesOf Tryz.prog 209 = 8 := by unfold bytesOf; rw [info209]; rfl
@[go_sem] theorem takeVar209 (cs : List PV) : takeVar Tryz.prog 209 cs = cs[0]? := by unfold takeVar isAggT; rw [Tryz.underlying209, info209]
@[go_sem] theorem partA209 (cs : List PV) (k : Nat) : partA Tryz.prog 209 cs k = cs[k]? := by unfold partA isAggT; rw [Tryz.underlying209, info209]
@[go_sem] theorem zeroA209 : zeroA Tryz.prog 209 = some .nilfn := by unfold zeroA; rw [info209]; rfl
@[go_sem] theorem zeroOk209 : zeroOk Tryz.prog 209 = true := by unfold zeroOk; rw [zeroA209, cellsOf209]; rfl
attribute [go_sem] Tryz.underlying209
@[go_sem] theorem has210 : (Tryz.prog.info? 210).isSome = true := by rw [info210]; rfl
@[go_sem] theorem cellsOf210 : Tryz.prog.cellsOf 210 = 1 := by unfold Program.cellsOf; rw [info210]; rfl
@[go_sem] theorem bytesOf210 : bytesOf Tryz.prog 210 = 8 := by unfold bytesOf; rw [info210]; rfl
@[go_sem] theorem takeVar210 (cs : List PV) : takeVar Tryz.prog 210 cs = cs[0]? := by unfold takeVar isAggT; rw [Tryz.underlying210, info210]
@[go_sem] theorem partA210 (cs : List PV) (k : Nat) : partA Tryz.prog 210 cs k = cs[k]? := by unfold partA isAggT; rw [Tryz.underlying210, info210]
@[go_sem] theorem zeroA210 : zeroA Tryz.prog 210 = some (.int IntKind.i64 0) := by unfold zeroA; rw [info210]; rfl
@[go_sem] theorem zeroOk210 : zeroOk Tryz.prog 210 = true := by unfold zeroOk; rw [zeroA210, cellsOf210]; rfl
attribute [go_sem] Tryz.underlying210
@[go_sem] theorem has211 : (Tryz.prog.info? 211).isSome = true := by rw [info211]; rfl
@[go_sem] theorem cellsOf211 : Tryz.prog.cellsOf 211 = 1 := by unfold Program.cellsOf; rw [info211]; rfl
@[go_sem] theorem bytesOf211 : bytesOf Tryz.prog 211 = 8 := by unfold bytesOf; rw [info211]; rfl
@[go_sem] theorem takeVar211 (cs : List PV) : takeVar Tryz.prog 211 cs = cs[0]? := by unfold takeVar isAggT; rw [Tryz.underlying211, info211]
@[go_sem] theorem partA211 (cs : List PV) (k : Nat) : partA Tryz.prog 211 cs k = cs[k]? := by unfold partA isAggT; rw [Tryz.underlying211, info211]
@[go_sem] theorem zeroA211 : zeroA Tryz.prog 211 = some .nilfn := by unfold zeroA; rw [info211]; rfl
@[go_sem] theorem zeroOk211 : zeroOk Tryz.prog 211 = true := by unfold zeroOk; rw [zeroA211, cellsOf211]; rfl
attribute [go_sem] Tryz.underlying211
@[go_sem] theorem has215 : (Tryz.prog.info? 215).isSome = true := by rw [info215]; rfl
@[go_sem] theorem cellsOf215 : Tryz.prog.cellsOf 215 = 4 := by unfold Program.cellsOf; rw [info215]; rfl
@[go_sem] theorem bytesOf215 : bytesOf Tryz.prog 215 = 40 := by unfold bytesOf; rw [info215]; rfl
@[go_sem] theorem takeVar215 (cs : List PV) : takeVar Tryz.prog 215 cs = if 4 ≤ cs.length then some (.agg (cs.take 4)) else none := by unfold takeVar isAggT; rw [Tryz.underlying215, info215]; rfl
@[go_sem] theorem partA215 (cs : List PV) (k : Nat) : partA Tryz.prog 215 cs k = if k + 4 ≤ cs.length then some (.agg ((cs.drop k).take 4)) else none := by unfold partA isAggT; rw [Tryz.underlying215, info215]; rfl
@[go_sem] theorem zeroA215 : zeroA Tryz.prog 215 = some (.agg [.nilp, .nilp, .nilp, (.str ({ data := #[] }))]) := by unfold zeroA; rw [info215]; rfl
@[go_sem] theorem zeroOk215 : zeroOk Tryz.prog 215 = true := by unfold zeroOk; rw [zeroA215, cellsOf215]; rfl
@[go_sem] theorem field215_0 : fieldInfo Tryz.prog 215 0 = some (0, 17) := by unfold fieldInfo; rw [Tryz.underlying215]; show (match Tryz.prog.info? 17 with | some i => if i.size = 0 then none else some (0, 17) | none => none) = _; rw [info17]; rfl
@[go_sem] theorem field215_1 : fieldInfo Tryz.prog 215 1 = some (1, 17) := by unfold fieldInfo; rw [Tryz.underlying215]; show (match Tryz.prog.info? 17 with | some i => if i.size = 0 then none else some (1, 17) | none => none) = _; rw [info17]; rfl
@[go_sem] theorem field215_2 : fieldInfo Tryz.prog 215 2 = some (2, 17) := by unfold fieldInfo; rw [Tryz.underlying215]; show (match Tryz.prog.info? 17 with | some i => if i.size = 0 then none else some (2, 17) | none => none) = _; rw [info17]; rfl
@[go_sem] theorem field215_3 : fieldInfo Tryz.prog 215 3 = some (3, 9) := by unfold fieldInfo; rw [Tryz.underlying215]; show (match Tryz.prog.info? 9 with | some i => if i.size = 0 then none else some (3, 9) | none => none) = _; rw [info9]; rfl
attribute [go_sem] Tryz.underlying215
@[go_sem] theorem has216 : (Tryz.prog.info? 216).isSome = true := by rw [info216]; rfl
@[go_sem] theorem cellsOf216 : Tryz.prog.cellsOf 216 = 0 := by unfold Program.cellsOf; rw [info216]; rfl
@[go_sem] theorem has217 : (Tryz.prog.info? 217).isSome = true := by rw [info217]; rfl
@[go_sem] theorem cellsOf217 : Tryz.prog.cellsOf 217 = 0 := by unfold Program.cellsOf; rw [info217]; rfl
@[go_sem] theorem bytesOf217 : bytesOf Tryz.prog 217 = 0 := by unfold bytesOf; rw [info217]; rfl
@[go_sem] theorem takeVar217 (cs : List PV) : takeVar Tryz.prog 217 cs = if 0 ≤ cs.length then some (.agg (cs.take 0)) else none := by unfold takeVar isAggT; rw [Tryz.underlying217, info217]; rfl
@[go_sem] theorem partA217 (cs : List PV) (k : Nat) : partA Tryz.prog 217 cs k = if k + 0 ≤ cs.length then some (.agg ((cs.drop k).take 0)) else none := by unfold partA isAggT; rw [Tryz.underlying217, info217]; rfl
@[go_sem] theorem zeroA217 : zeroA Tryz.prog 217 = some (.agg []) := by unfold zeroA; rw [info217]; rfl
@[go_sem] theorem zeroOk217 : zeroOk Tryz.prog 217 = true := by unfold zeroOk; rw [zeroA217, cellsOf217]; rfl
attribute [go_sem] Tryz.underlying217
@[go_sem] theorem has218 : (Tryz.prog.info? 218).isSome = true := by rw [info218]; rfl
@[go_sem] theorem cellsOf218 : Tryz.prog.cellsOf 218 = 0 := by unfold Program.cellsOf; rw [info218]; rfl
@[go_sem] theorem bytesOf218 : bytesOf Tryz.prog 218 = 0 := by unfold bytesOf; rw [info218]; rfl
@[go_sem] theorem takeVar218 (cs : List PV) : takeVar Tryz.prog 218 cs = if 0 ≤ cs.length then some (.agg (cs.take 0)) else none := by unfold takeVar isAggT; rw [Tryz.underlying218, info218]; rfl
@[go_sem] theorem partA218 (cs : List PV) (k : Nat) : partA Tryz.prog 218 cs k = if k + 0 ≤ cs.length then some (.agg ((cs.drop k).take 0)) else none := by unfold partA isAggT; rw [Tryz.underlying218, info218]; rfl
@[go_sem] theorem zeroA218 : zeroA Tryz.prog 218 = some (.agg []) := by unfold zeroA; rw [info218]; rfl
@[go_sem] theorem zeroOk218 : zeroOk Tryz.prog 218 = true := by unfold zeroOk; rw [zeroA218, cellsOf218]; rfl
attribute [go_sem] Tryz.underlying218
@[go_sem] theorem has219 : (Tryz.prog.info? 219).isSome = true := by rw [info219]; rfl
@[go_sem] theorem cellsOf219 : Tryz.prog.cellsOf 219 = 1 := by unfold Program.cellsOf; rw [info219]; rfl
@[go_sem] theorem bytesOf219 : bytesOf Tryz.prog 219 = 1 := by unfold bytesOf; rw [info219]; rfl
@[go_sem] theorem takeVar219 (cs : List PV) : takeVar Tryz.prog 219 cs = cs[0]? := by unfold takeVar isAggT; rw [Tryz.underlying219, info219]
@[go_sem] theorem partA219 (cs : List PV) (k : Nat) : partA Tryz.prog 219 cs k = cs[k]? := by unfold partA isAggT; rw [Tryz.underlying219, info219]
@[go_sem] theorem zeroA219 : zeroA Tryz.prog 219 = some (.int IntKind.u8 0) := by unfold zeroA; rw [info219]; rfl
@[go_sem] theorem zeroOk219 : zeroOk Tryz.prog 219 = true := by unfold zeroOk; rw [zeroA219, cellsOf219]; rfl
attribute [go_sem] Tryz.underlying219
@[go_sem] theorem has223 : (Tryz.prog.info? 223).isSome = true := by rw [info223]; rfl
@[go_sem] theorem cellsOf223 : Tryz.prog.cellsOf 223 = 1 := by unfold Program.cellsOf; rw [info223]; rfl
@[go_sem] theorem has228 : (Tryz.prog.info? 228).isSome = true := by rw [info228]; rfl
@[go_sem] theorem cellsOf228 : Tryz.prog.cellsOf 228 = 1 := by unfold Program.cellsOf; rw [info228]; rfl
@[go_sem] theorem bytesOf228 : bytesOf Tryz.prog 228 = 8 := by unfold bytesOf; rw [info228]; rfl
@[go_sem] theorem takeVar228 (cs : List PV) : takeVar Tryz.prog 228 cs = cs[0]? := by unfold takeVar isAggT; rw [Tryz.underlying228, info228]
@[go_sem] theorem partA228 (cs : List PV) (k : Nat) : partA Tryz.prog 228 cs k = cs[k]? := by unfold partA isAggT; rw [Tryz.underlying228, info228]
@[go_sem] theorem zeroA228 : zeroA Tryz.prog 228 = some .nilfn := by unfold zeroA; rw [info228]; rfl
@[go_sem] theorem zeroOk228 : zeroOk Tryz.prog 228 = true := by unfold zeroOk; rw [zeroA228, cellsOf228]; rfl
attribute [go_sem] Tryz.underlying228
@[go_sem] theorem has229 : (Tryz.prog.info? 229).isSome = true := by rw [info229]; rfl
@[go_sem] theorem cellsOf229 : Tryz.prog.cellsOf 229 = 1 := by unfold Program.cellsOf; rw [info229]; rfl
@[go_sem] theorem bytesOf229 : bytesOf Tryz.prog 229 = 8 := by unfold bytesOf; rw [info229]; rfl
@[go_sem] theorem takeVar229 (cs : List PV) : takeVar Tryz.prog 229 cs = cs[0]? := by unfold takeVar isAggT; rw [Tryz.underlying229, info229]
@[go_sem] theorem partA229 (cs : List PV) (k : Nat) : partA Tryz.prog 229 cs k = cs[k]? := by unfold partA isAggT; rw [Tryz.underlying229, info229]
@[go_sem] theorem zeroA229 : zeroA Tryz.prog 229 = some .nilfn := by unfold zeroA; rw [info229]; rfl
@[go_sem] theorem zeroOk229 : zeroOk Tryz.prog 229 = true := by unfold zeroOk; rw [zeroA229, cellsOf229]; rfl
attribute [go_sem] Tryz.underlying229
@[go_sem] theorem has232 : (Tryz.prog.info? 232).isSome = true := by rw [info232]; rfl
@[go_sem] theorem cellsOf232 : Tryz.prog.cellsOf 232 = 1 := by unfold Program.cellsOf; rw [info232]; rfl
@[go_sem] theorem bytesOf232 : bytesOf Tryz.prog 232 = 8 := by unfold bytesOf; rw [info232]; rfl
@[go_sem] theorem takeVar232 (cs : List PV) : takeVar Tryz.prog 232 cs = cs[0]? := by unfold takeVar isAggT; rw [Tryz.underlying232, info232]
@[go_sem] theorem partA232 (cs : List PV) (k : Nat) : partA Tryz.prog 232 cs k = cs[k]? := by unfold partA isAggT; rw [Tryz.underlying232, info232]
@[go_sem] theorem zeroA232 : zeroA Tryz.prog 232 = some .nilfn := by unfold zeroA; rw [info232]; rfl
@[go_sem] theorem zeroOk232 : zeroOk Tryz.prog 232 = true := by unfold zeroOk; rw [zeroA232, cellsOf232]; rfl
attribute [go_sem] Tryz.underlying232
@[go_sem] theorem has234 : (Tryz.prog.info? 234).isSome = true := by rw [info234]; rfl
@[go_sem] theorem cellsOf234 : Tryz.prog.cellsOf 234 = 1 := by unfold Program.cellsOf; rw [info234]; rfl
@[go_sem] theorem bytesOf234 : bytesOf Tryz.prog 234 = 8 := by unfold bytesOf; rw [info234]; rfl
@[go_sem] theorem takeVar234 (cs : List PV) : takeVar Tryz.prog 234 cs = cs[0]? := by unfold takeVar isAggT; rw [Tryz.underlying234, info234]
@[go_sem] theorem partA234 (cs : List PV) (k : Nat) : partA Tryz.prog 234 cs k = cs[k]? := by unfold partA isAggT; rw [Tryz.underlying234, info234]
@[go_sem] theorem zeroA234 : zeroA Tryz.prog 234 = some .nilfn := by unfold zeroA; rw [info234]; rfl
@[go_sem] theorem zeroOk234 : zeroOk Tryz.prog 234 = true := by unfold zeroOk; rw [zeroA234, cellsOf234]; rfl
attribute [go_sem] Tryz.underlying234
@[go_sem] theorem has238 : (Tryz.prog.info? 238).isSome = true := by rw [info238]; rfl
@[go_sem] theorem cellsOf238 : Tryz.prog.cellsOf 238 = 1 := by unfold Program.cellsOf; rw [info238]; rfl
@[go_sem] theorem bytesOf238 : bytesOf Tryz.prog 238 = 16 := by unfold bytesOf; rw [info238]; rfl
@[go_sem] theorem takeVar238 (cs : List PV) : takeVar Tryz.prog 238 cs = if 1 ≤ cs.length then some (.agg (cs.take 1)) else none := by unfold takeVar isAggT; rw [Tryz.underlying238, info238]; rfl
@[go_sem] theorem partA238 (cs : List PV) (k : Nat) : partA Tryz.prog 238 cs k = if k + 1 ≤ cs.length then some (.agg ((cs.drop k).take 1)) else none := by unfold partA isAggT; rw [Tryz.underlying238, info238]; rfl
@[go_sem] theorem zeroA238 : zeroA Tryz.prog 238 = some (.agg [(.str ({ data := #[] }))]) := by unfold zeroA; rw [info238]; rfl
@[go_sem] theorem zeroOk238 : zeroOk Tryz.prog 238 = true := by unfold zeroOk; rw [zeroA238, cellsOf238]; rfl
@[go_sem] theorem field238_0 : fieldInfo Tryz.prog 238 0 = some (0, 9) := by unfold fieldInfo; rw [Tryz.underlying238]; show (match Tryz.prog.info? 9 with | some i => if i.size = 0 then none else some (0, 9) | none => none) = _; rw [info9]; rfl
attribute [go_sem] Tryz.underlying238
@[go_sem] theorem has240 : (Tryz.prog.info? 240).isSome = true := by rw [info240]; rfl
@[go_sem] theorem cellsOf240 : Tryz.prog.cellsOf 240 = 1 := by unfold Program.cellsOf; rw [info240]; rfl
@[go_sem] theorem bytesOf240 : bytesOf Tryz.prog 240 = 8 := by unfold bytesOf; rw [info240]; rfl
@[go_sem] theorem takeVar240 (cs : List PV) : takeVar Tryz.prog 240 cs = cs[0]? := by unfold takeVar isAggT; rw [Tryz.underlying240, info240]
@[go_sem] theorem partA240 (cs : List PV) (k : Nat) : partA Tryz.prog 240 cs k = cs[k]? := by unfold partA isAggT; rw [Tryz.underlying240, info240]
@[go_sem] theorem zeroA240 : zeroA Tryz.prog 240 = some .nilp := by unfold zeroA; rw [info240]; rfl
@[go_sem] theorem zeroOk240 : zeroOk Tryz.prog 240 = true := by unfold zeroOk; rw [zeroA240, cellsOf240]; rfl
attribute [go_sem] Tryz.underlying240
@[go_sem] theorem has244 : (Tryz.prog.info? 244).isSome = true := by rw [info244]; rfl
@[go_sem] theorem cellsOf244 : Tryz.prog.cellsOf 244 = 1 := by unfold Program.cellsOf; rw [info244]; rfl
@[go_sem] theorem bytesOf244 : bytesOf Tryz.prog 244 = 2 := by unfold bytesOf; rw [info244]; rfl
@[go_sem] theorem takeVar244 (cs : List PV) : takeVar Tryz.prog 244 cs = cs[0]? := by unfold takeVar isAggT; rw [Tryz.underlying244, info244]
@[go_sem] theorem partA244 (cs : List PV) (k : Nat) : partA Tryz.prog 244 cs k = cs[k]? := by unfold partA isAggT; rw [Tryz.underlying244, info244]
@[go_sem] theorem zeroA244 : zeroA Tryz.prog 244 = some (.int IntKind.u16 0) := by unfold zeroA; rw [info244]; rfl
@[go_sem] theorem zeroOk244 : zeroOk Tryz.prog 244 = true := by unfold zeroOk; rw [zeroA244, cellsOf244]; rfl
attribute [go_sem] Tryz.underlying244
@[go_sem] theorem has245 : (Tryz.prog.info? 245).isSome = true := by rw [info245]; rfl
@[go_sem] theorem cellsOf245 : Tryz.prog.cellsOf 245 = 5 := by unfold Program.cellsOf; rw [info245]; rfl
@[go_sem] theorem bytesOf245 : bytesOf Tryz.prog 245 = 16 := by unfold bytesOf; rw [info245]; rfl
@[go_sem] theorem takeVar245 (cs : List PV) : takeVar Tryz.prog 245 cs = if 5 ≤ cs.length then some (.agg (cs.take 5)) else none := by unfold takeVar isAggT; rw [Tryz.underlying245, info245]; rfl
@[go_sem] theorem partA245 (cs : List PV) (k : Nat) : partA Tryz.prog 245 cs k = if k + 5 ≤ cs.length then some (.agg ((cs.drop k).take 5)) else none := by unfold partA isAggT; rw [Tryz.underlying245, info245]; rfl
@[go_sem] theorem zeroA245 : zeroA Tryz.prog 245 = some (.agg [(.int IntKind.i32 0), (.int IntKind.u16 0), (.int IntKind.u16 0), (.int IntKind.u32 0), (.int IntKind.u32 0)]) := by unfold zeroA; rw [info245]; rfl
@[go_sem] theorem zeroOk245 : zeroOk Tryz.prog 245 = true := by unfold zeroOk; rw [zeroA245, cellsOf245]; rfl
@[go_sem] theorem field245_0 : fieldInfo Tryz.prog 245 0 = some (0, 223) := by unfold fieldInfo; rw [Tryz.underlying245]; show (match Tryz.prog.info? 223 with | some i => if i.size = 0 then none else some (0, 223) | none => none) = _; rw [info223]; rfl
@[go_sem] theorem field245_1 : fieldInfo Tryz.prog 245 1 = some (1, 244) := by unfold fieldInfo; rw [Tryz.underlying245]; show (match Tryz.prog.info? 244 with | some i => if i.size = 0 then none else some (1, 244) | none => none) = _; rw [info244]; rfl
@[go_sem] theorem field245_2 : fieldInfo Tryz.prog 245 2 = some (2, 244) := by unfold fieldInfo; rw [Tryz.underlying245]; show (match Tryz.prog.info? 244 with | some i => if i.size = 0 then none else some (2, 244) | none => none) = _; rw [info244]; rfl
@[go_sem] theorem field245_3 : fieldInfo Tryz.prog 245 3 = some (3, 200) := by unfold fieldInfo; rw [Tryz.underlying245]; show (match Tryz.prog.info? 200 with | some i => if i.size = 0 then none else some (3, 200) | none => none) = _; rw [info200]; rfl
@[go_sem] theorem field245_4 : fieldInfo Tryz.prog 245 4 = some (4, 200) := by unfold fieldInfo; rw [Tryz.underlying245]; show (match Tryz.prog.info? 200 with | some i => if i.size = 0 then none else some (4, 200) | none => none) = _; rw [info200]; rfl
attribute [go_sem] Tryz.underlying245
@[go_sem] theorem has247 : (Tryz.prog.info? 247).isSome = true := by rw [info247]; rfl
@[go_sem] theorem cellsOf247 : Tryz.prog.cellsOf 247 = 1 := by unfold Program.cellsOf; rw [info247]; rfl
@[go_sem] theorem bytesOf247 : bytesOf Tryz.prog 247 = 24 := by unfold bytesOf; rw [info247]; rfl
@[go_sem] theorem takeVar247 (cs : List PV) : takeVar Tryz.prog 247 cs = cs[0]? := by unfold takeVar isAggT; rw [Tryz.underlying247, info247]
@[go_sem] theorem partA247 (cs : List PV) (k : Nat) : partA Tryz.prog 247 cs k = cs[k]? := by unfold partA isAggT; rw [Tryz.underlying247, info247]
@[go_sem] theorem zeroA247 : zeroA Tryz.prog 247 = some .emp := by unfold zeroA; rw [info247]; rfl
@[go_sem] theorem zeroOk247 : zeroOk Tryz.prog 247 = true := by unfold zeroOk; rw [zeroA247, cellsOf247]; rfl
attribute [go_sem] Tryz.underlying247
@[go_sem] theorem buildA7 (ps : List (Nat × PV)) : buildA Tryz.prog 7 ps = (match fillL [(0, 1), (1, 1), (2, 1), (3, 1)] [(.int IntKind.i64 0), (.int IntKind.i64 0), (.bool false), (.int IntKind.u8 0)] ps with | some cs => some (.agg cs) | none => none) := buildA_of zeroA7 (placesA_struct Tryz.underlying7 (by simp only [List.all_cons, List.all_nil, has2, has3, has4, has6, Bool.and_self]) (by simp only [List.map_cons, List.map_nil, cellsOf2, cellsOf3, cellsOf4, cellsOf6])) ps
@[go_sem] theorem buildA8 (ps : List (Nat × PV)) : buildA Tryz.prog 8 ps = (match fillL [(0, 1), (1, 1), (2, 1), (3, 1)] [(.int IntKind.i64 0), (.int IntKind.i64 0), (.bool false), (.int IntKind.u8 0)] ps with | some cs => some (.agg cs) | none => none) := buildA_of zeroA8 (placesA_struct Tryz.underlying8 (by simp only [List.all_cons, List.all_nil, has2, has3, has4, has6, Bool.and_self]) (by simp only [List.map_cons, List.map_nil, cellsOf2, cellsOf3, cellsOf4, cellsOf6])) ps
@[go_sem] theorem buildA14 (ps : List (Nat × PV)) : buildA Tryz.prog 14 ps = (match fillL [(0, 1), (1, 1)] [(.str ({ data := #[] })), (.int IntKind.u64 0)] ps with | some cs => some (.agg cs) | none => none) := buildA_of zeroA14 (placesA_struct Tryz.underlying14 (by simp only [List.all_cons, List.all_nil, has9, has12, Bool.and_self]) (by simp only [List.map_cons, List.map_nil, cellsOf9, cellsOf12])) ps
@[go_sem] theorem buildA19 (ps : List (Nat × PV)) : buildA Tryz.prog 19 ps = (match fillL [(0, 1)] [.nilp] ps with | some cs => some (.agg cs) | none => none) := buildA_of zeroA19 (placesA_struct Tryz.underlying19 (by simp only [List.all_cons, List.all_nil, has17, Bool.and_self]) (by simp only [List.map_cons, List.map_nil, cellsOf17])) ps
@[go_sem] theorem buildA28 (ps : List (Nat × PV)) : buildA Tryz.prog 28 ps = (match fillL [(0, 1), (1, 1)] [(.int IntKind.i64 0), (.int IntKind.i64 0)] ps with | some cs => some (.agg cs) | none => none) := buildA_of zeroA28 (placesA_struct Tryz.underlying28 (by simp only [List.all_cons, List.all_nil, has3, Bool.and_self]) (by simp only [List.map_cons, List.map_nil, cellsOf3])) ps
@[go_sem] theorem buildA29 (ps : List (Nat × PV)) : buildA Tryz.prog 29 ps = (match fillL [(0, 1), (1, 1)] [(.int IntKind.i64 0), (.int IntKind.i64 0)] ps with | some cs => some (.agg cs) | none => none) := buildA_of zeroA29 (placesA_struct Tryz.underlying29 (by simp only [List.all_cons, List.all_nil, has3, Bool.and_self]) (by simp only [List.map_cons, List.map_nil, cellsOf3])) ps
@[go_sem] theorem buildA32 (ps : List (Nat × PV)) : buildA Tryz.prog 32 ps = (match fillL [(0, 1), (1, 1), (2, 1)] [.emp, .emp, .emp] ps with | some cs => some (.agg cs) | none => none) := buildA_of zeroA32 (placesA_struct Tryz.underlying32 (by simp only [List.all_cons, List.all_nil, has31, Bool.and_self]) (by simp only [List.map_cons, List.map_nil, cellsOf31])) ps
@[go_sem] theorem buildA33 (ps : List (Nat × PV)) : buildA Tryz.prog 33 ps = (match fillL [(0, 1), (1, 1), (2, 1)] [.emp, .emp, .emp] ps with | some cs => some (.agg cs) | none => none) := buildA_of zeroA33 (placesA_struct Tryz.underlying33 (by simp only [List.all_cons, List.all_nil, has31, Bool.and_self]) (by simp only [List.map_cons, List.map_nil, cellsOf31])) ps
@[go_sem] theorem buildA49 (ps : List (Nat × PV)) : buildA Tryz.prog 49 ps = (match fillL [(0, 1), (1, 1), (2, 2), (4, 1)] [(.int IntKind.i64 0), (.int IntKind.i64 0), (.int IntKind.i64 0), (.int IntKind.i64 0), .emp] ps with | some cs => some (.agg cs) | none => none) := buildA_of zeroA49 (placesA_struct Tryz.underlying49 (by simp only [List.all_cons, List.all_nil, has3, has29, has48, Bool.and_self]) (by simp only [List.map_cons, List.map_nil, cellsOf3, cellsOf29, cellsOf48])) ps
@[go_sem] theorem buildA50 (ps : List (Nat × PV)) : buildA Tryz.prog 50 ps = (match fillL [(0, 1), (1, 1), (2, 2), (4, 1)] [(.int IntKind.i64 0), (.int IntKind.i64 0), (.int IntKind.i64 0), (.int IntKind.i64 0), .emp] ps with | some cs => some (.agg cs) | none => none) := buildA_of zeroA50 (placesA_struct Tryz.underlying50 (by simp only [List.all_cons, List.all_nil, has3, has29, has48, Bool.and_self]) (by simp only [List.map_cons, List.map_nil, cellsOf3, cellsOf29, cellsOf48])) ps
@[go_sem] theorem buildA51 (ps : List (Nat × PV)) : buildA Tryz.prog 51 ps = (match fillL [(0, 1), (1, 2), (3, 5), (8, 1), (9, 1)] [(.int IntKind.i64 0), (.int IntKind.i64 0), (.int IntKind.i64 0), (.int IntKind.i64 0), (.int IntKind.i64 0), (.int IntKind.i64 0), (.int IntKind.i64 0), .emp, .emp, .emp] ps with | some cs => some (.agg cs) | none => none) := buildA_of zeroA51 (placesA_struct Tryz.underlying51 (by simp only [List.all_cons, List.all_nil, has3, has23, has29, has50, Bool.and_self]) (by simp only [List.map_cons, List.map_nil, cellsOf3, cellsOf23, cellsOf29, cellsOf50])) ps
@[go_sem] theorem buildA52 (ps : List (Nat × PV)) : buildA Tryz.prog 52 ps = (match fillL [(0, 1), (1, 2), (3, 5), (8, 1), (9, 1)] [(.int IntKind.i64 0), (.int IntKind.i64 0), (.int IntKind.i64 0), (.int IntKind.i64 0), (.int IntKind.i64 0), (.int IntKind.i64 0), (.int IntKind.i64 0), .emp, .emp, .emp] ps with | some cs => some (.agg cs) | none => none) := buildA_of zeroA52 (placesA_struct Tryz.underlying52 (by simp only [List.all_cons, List.all_nil, has3, has23, has29, has50, Bool.and_self]) (by simp only [List.map_cons, List.map_nil, cellsOf3, cellsOf23, cellsOf29, cellsOf50])) ps
@[go_sem] theorem buildA68 (ps : List (Nat × PV)) : buildA Tryz.prog 68 ps = (match fillL [(0, 1), (1, 1)] [.nilp, (.int IntKind.i64 0)] ps with | some cs => some (.agg cs) | none => none) := buildA_of zeroA68 (placesA_struct Tryz.underlying68 (by simp only [List.all_cons, List.all_nil, has3, has63, Bool.and_self]) (by simp only [List.map_cons, List.map_nil, cellsOf3, cellsOf63])) ps
@[go_sem] theorem buildA77 (ps : List (Nat × PV)) : buildA Tryz.prog 77 ps = (match fillL [(0, 1)] [.emp] ps with | some cs => some (.agg cs) | none => none) := buildA_of zeroA77 (placesA_struct Tryz.underlying77 (by simp only [List.all_cons, List.all_nil, has41, Bool.and_self]) (by simp only [List.map_cons, List.map_nil, cellsOf41])) ps
@[go_sem] theorem buildA78 (ps : List (Nat × PV)) : buildA Tryz.prog 78 ps = (match fillL [(0, 1)] [.emp] ps with | some cs => some (.agg cs) | none => none) := buildA_of zeroA78 (placesA_struct Tryz.underlying78 (by simp only [List.all_cons, List.all_nil, has41, Bool.and_self]) (by simp only [List.map_cons, List.map_nil, cellsOf41])) ps
@[go_sem] theorem buildA81 (ps : List (Nat × PV)) : buildA Tryz.prog 81 ps = (match fillL [(0, 1), (1, 1), (2, 2)] [(.int IntKind.i64 0), (.int IntKind.i64 0), (.int IntKind.i64 0), (.int IntKind.i64 0)] ps with | some cs => some (.agg cs) | none => none) := buildA_of zeroA81 (placesA_struct Tryz.underlying81 (by simp only [List.all_cons, List.all_nil, has3, has29, Bool.and_self]) (by simp only [List.map_cons, List.map_nil, cellsOf3, cellsOf29])) ps
@[go_sem] theorem buildA87 (ps : List (Nat × PV)) : buildA Tryz.prog 87 ps = (match fillL [(0, 1), (1, 12), (13, 1), (14, 1), (15, 1)] [.nilp, (.int IntKind.i64 0), (.int IntKind.i64 0), (.int IntKind.i64 0), (.int IntKind.i64 0), (.int IntKind.i64 0), (.int IntKind.i64 0), (.int IntKind.i64 0), (.int IntKind.i64 0), (.int IntKind.i64 0), (.int IntKind.i64 0), (.int IntKind.i64 0), (.int IntKind.i64 0), (.int IntKind.i64 0), (.int IntKind.i64 0), (.int IntKind.i64 0)] ps with | some cs => some (.agg cs) | none => none) := buildA_of zeroA87 (placesA_struct Tryz.underlying87 (by simp only [List.all_cons, List.all_nil, has3, has63, has86, Bool.and_self]) (by simp only [List.map_cons, List.map_nil, cellsOf3, cellsOf63, cellsOf86])) ps
@[go_sem] theorem buildA88 (ps : List (Nat × PV)) : buildA Tryz.prog 88 ps = (match fillL [(0, 1), (1, 12), (13, 1), (14, 1), (15, 1)] [.nilp, (.int IntKind.i64 0), (.int IntKind.i64 0), (.int IntKind.i64 0), (.int IntKind.i64 0), (.int IntKind.i64 0), (.int IntKind.i64 0), (.int IntKind.i64 0), (.int IntKind.i64 0), (.int IntKind.i64 0), (.int IntKind.i64 0), (.int IntKind.i64 0), (.int IntKind.i64 0), (.int IntKind.i64 0), (.int IntKind.i64 0), (.int IntKind.i64 0)] ps with | some cs => some (.agg cs) | none => none) := buildA_of zeroA88 (placesA_struct Tryz.underlying88 (by simp only [List.all_cons, List.all_nil, has3, has63, has86, Bool.and_self]) (by simp only [List.map_cons, List.map_nil, cellsOf3, cellsOf63, cellsOf86])) ps
@[go_sem] theorem buildA99 (ps : List (Nat × PV)) : buildA Tryz.prog 99 ps = (match fillL [(0, 1), (1, 1)] [.emp, (.int IntKind.i64 0)] ps with | some cs => some (.agg cs) | none => none) := buildA_of zeroA99 (placesA_struct Tryz.underlying99 (by simp only [List.all_cons, List.all_nil, has3, has22, Bool.and_self]) (by simp only [List.map_cons, List.map_nil, cellsOf3, cellsOf22])) ps
@[go_sem] theorem buildA100 (ps : List (Nat × PV)) : buildA Tryz.prog 100 ps = (match fillL [(0, 1), (1, 1)] [.emp, (.int IntKind.i64 0)] ps with | some cs => some (.agg cs) | none => none) := buildA_of zeroA100 (placesA_struct Tryz.underlying100 (by simp only [List.all_cons, List.all_nil, has3, has22, Bool.and_self]) (by simp only [List.map_cons, List.map_nil, cellsOf3, cellsOf22])) ps
@[go_sem] theorem buildA121 (ps : List (Nat × PV)) : buildA Tryz.prog 121 ps = (match fillL [(0, 18)] [(.int IntKind.i64 0), (.int IntKind.i64 0), (.int IntKind.i64 0), (.int IntKind.i64 0), (.int IntKind.i64 0), (.int IntKind.i64 0), (.int IntKind.i64 0), (.int IntKind.i64 0), (.int IntKind.i64 0), (.int IntKind.i64 0), (.int IntKind.i64 0), (.int IntKind.i64 0), (.int IntKind.i64 0), (.int IntKind.i64 0), (.int IntKind.i64 0), (.int IntKind.i64 0), (.int IntKind.i64 0), (.int IntKind.i64 0)] ps with | some cs => some (.agg cs) | none => none) := buildA_of zeroA121 (placesA_struct Tryz.underlying121 (by simp only [List.all_cons, List.all_nil, has120, Bool.and_self]) (by simp only [List.map_cons, List.map_nil, cellsOf120])) ps
@[go_sem] theorem buildA122 (ps : List (Nat × PV)) : buildA Tryz.prog 122 ps = (match fillL [(0, 18)] [(.int IntKind.i64 0), (.int IntKind.i64 0), (.int IntKind.i64 0), (.int IntKind.i64 0), (.int IntKind.i64 0), (.int IntKind.i64 0), (.int IntKind.i64 0), (.int IntKind.i64 0), (.int IntKind.i64 0), (.int IntKind.i64 0), (.int IntKind.i64 0), (.int IntKind.i64 0), (.int IntKind.i64 0), (.int IntKind.i64 0), (.int IntKind.i64 0), (.int IntKind.i64 0), (.int IntKind.i64 0), (.int IntKind.i64 0)] ps with | some cs => some (.agg cs) | none => none) := buildA_of zeroA122 (placesA_struct Tryz.underlying122 (by simp only [List.all_cons, List.all_nil, has120, Bool.and_self]) (by simp only [List.map_cons, List.map_nil, cellsOf120])) ps
@[go_sem] theorem buildA148 (ps : List (Nat × PV)) : buildA Tryz.prog 148 ps = (match fillL [(0, 2), (2, 5)] [(.int IntKind.i64 0), (.int IntKind.i64 0), (.int IntKind.i64 0), (.int IntKind.i64 0), (.int IntKind.i64 0), (.int IntKind.i64 0), .emp] ps with | some cs => some (.agg cs) | none => none) := buildA_of zeroA148 (placesA_struct Tryz.underlying148 (by simp only [List.all_cons, List.all_nil, has29, has50, Bool.and_self]) (by simp only [List.map_cons, List.map_nil, cellsOf29, cellsOf50])) ps
@[go_sem] theorem buildA149 (ps : List (Nat × PV)) : buildA Tryz.prog 149 ps = (match fillL [(0, 2), (2, 5)] [(.int IntKind.i64 0), (.int IntKind.i64 0), (.int IntKind.i64 0), (.int IntKind.i64 0), (.int IntKind.i64 0), (.int IntKind.i64 0), .emp] ps with | some cs => some (.agg cs) | none => none) := buildA_of zeroA149 (placesA_struct Tryz.underlying149 (by simp only [List.all_cons, List.all_nil, has29, has50, Bool.and_self]) (by simp only [List.map_cons, List.map_nil, cellsOf29, cellsOf50])) ps
@[go_sem] theorem buildA151 (ps : List (Nat × PV)) : buildA Tryz.prog 151 ps = (match fillL [(0, 5), (5, 1), (6, 1)] [(.int IntKind.i64 0), (.int IntKind.i64 0), (.int IntKind.i64 0), (.int IntKind.i64 0), .emp, .emp, .emp] ps with | some cs => some (.agg cs) | none => none) := buildA_of zeroA151 (placesA_struct Tryz.underlying151 (by simp only [List.all_cons, List.all_nil, has23, has50, Bool.and_self]) (by simp only [List.map_cons, List.map_nil, cellsOf23, cellsOf50])) ps
@[go_sem] theorem buildA152 (ps : List (Nat × PV)) : buildA Tryz.prog 152 ps = (match fillL [(0, 5), (5, 1)] [(.int IntKind.i64 0), (.int IntKind.i64 0), (.int IntKind.i64 0), (.int IntKind.i64 0), .emp, .emp] ps with | some cs => some (.agg cs) | none => none) := buildA_of zeroA152 (placesA_struct Tryz.underlying152 (by simp only [List.all_cons, List.all_nil, has23, has50, Bool.and_self]) (by simp only [List.map_cons, List.map_nil, cellsOf23, cellsOf50])) ps
@[go_sem] theorem buildA153 (ps : List (Nat × PV)) : buildA Tryz.prog 153 ps = (match fillL [(0, 5), (5, 1)] [(.int IntKind.i64 0), (.int IntKind.i64 0), (.int IntKind.i64 0), (.int IntKind.i64 0), .emp, .emp] ps with | some cs => some (.agg cs) | none => none) := buildA_of zeroA153 (placesA_struct Tryz.underlying153 (by simp only [List.all_cons, List.all_nil, has23, has50, Bool.and_self]) (by simp only [List.map_cons, List.map_nil, cellsOf23, cellsOf50])) ps
@[go_sem] theorem buildA184 (ps : List (Nat × PV)) : buildA Tryz.prog 184 ps = (match fillL [(0, 1)] [.nilp] ps with | some cs => some (.agg cs) | none => none) := buildA_of zeroA184 (placesA_struct Tryz.underlying184 (by simp only [List.all_cons, List.all_nil, has17, Bool.and_self]) (by simp only [List.map_cons, List.map_nil, cellsOf17])) ps
@[go_sem] theorem buildA215 (ps : List (Nat × PV)) : buildA Tryz.prog 215 ps = (match fillL [(0, 1), (1, 1), (2, 1), (3, 1)] [.nilp, .nilp, .nilp, (.str ({ data := #[] }))] ps with | some cs => some (.agg cs) | none => none) := buildA_of zeroA215 (placesA_struct Tryz.underlying215 (by simp only [List.all_cons, List.all_nil, has9, has17, Bool.and_self]) (by simp only [List.map_cons, List.map_nil, cellsOf9, cellsOf17])) ps
@[go_sem] theorem buildA217 (ps : List (Nat × PV)) : buildA Tryz.prog 217 ps = (match fillL [(0, 0)] [] ps with | some cs => some (.agg cs) | none => none) := buildA_of zeroA217 (placesA_struct Tryz.underlying217 (by simp only [List.all_cons, List.all_nil, has216, Bool.and_self]) (by simp only [List.map_cons, List.map_nil, cellsOf216])) ps
@[go_sem] theorem buildA218 (ps : List (Nat × PV)) : buildA Tryz.prog 218 ps = (match fillL [(0, 0)] [] ps with | some cs => some (.agg cs) | none => none) := buildA_of zeroA218 (placesA_struct Tryz.underlying218 (by simp only [List.all_cons, List.all_nil, has216, Bool.and_self]) (by simp only [List.map_cons, List.map_nil, cellsOf216])) ps
@[go_sem] theorem buildA238 (ps : List (Nat × PV)) : buildA Tryz.prog 238 ps = (match fillL [(0, 1)] [(.str ({ data := #[] }))] ps with | some cs => some (.agg cs) | none => none) := buildA_of zeroA238 (placesA_struct Tryz.underlying238 (by simp only [List.all_cons, List.all_nil, has9, Bool.and_self]) (by simp only [List.map_cons, List.map_nil, cellsOf9])) ps
@[go_sem] theorem buildA245 (ps : List (Nat × PV)) : buildA Tryz.prog 245 ps = (match fillL [(0, 1), (1, 1), (2, 1), (3, 1), (4, 1)] [(.int IntKind.i32 0), (.int IntKind.u16 0), (.int IntKind.u16 0), (.int IntKind.u32 0), (.int IntKind.u32 0)] ps with | some cs => some (.agg cs) | none => none) := buildA_of zeroA245 (placesA_struct Tryz.underlying245 (by simp only [List.all_cons, List.all_nil, has200, has223, has244, Bool.and_self]) (by simp only [List.map_cons, List.map_nil, cellsOf200, cellsOf223, cellsOf244])) ps
end Go.Proofs.YtmicbfojofcigaaGreatDoor
