/- A part of a proof: lemmas and contracts of functions; the last text of the claim says what is proved. -/
import Derived.Test.YtnilkkcobeaglaaGreatXa546f53d5d
import Derived.Test.YtnilkkcobeaglaaGreatChecked
set_option linter.unusedSectionVars false
set_option linter.unusedSimpArgs false
set_option linter.unusedVariables false
namespace Go.Proofs.YtnilkkcobeaglaaGreat
open Go Sg
set_option maxRecDepth 100000
theorem info0 : Tryz.prog.info? 0 = some Tryz.t0 := by unfold Tables.info?; exact Tryz.type0
theorem info1 : Tryz.prog.info? 1 = some Tryz.t1 := by unfold Tables.info?; exact Tryz.type1
theorem info2 : Tryz.prog.info? 2 = some Tryz.t2 := by unfold Tables.info?; exact Tryz.type2
theorem info3 : Tryz.prog.info? 3 = some Tryz.t3 := by unfold Tables.info?; exact Tryz.type3
theorem info4 : Tryz.prog.info? 4 = some Tryz.t4 := by unfold Tables.info?; exact Tryz.type4
theorem info5 : Tryz.prog.info? 5 = some Tryz.t5 := by unfold Tables.info?; exact Tryz.type5
theorem info6 : Tryz.prog.info? 6 = some Tryz.t6 := by unfold Tables.info?; exact Tryz.type6
theorem info7 : Tryz.prog.info? 7 = some Tryz.t7 := by unfold Tables.info?; exact Tryz.type7
theorem info8 : Tryz.prog.info? 8 = some Tryz.t8 := by unfold Tables.info?; exact Tryz.type8
theorem info9 : Tryz.prog.info? 9 = some Tryz.t9 := by unfold Tables.info?; exact Tryz.type9
theorem info10 : Tryz.prog.info? 10 = some Tryz.t10 := by unfold Tables.info?; exact Tryz.type10
theorem info11 : Tryz.prog.info? 11 = some Tryz.t11 := by unfold Tables.info?; exact Tryz.type11
theorem info12 : Tryz.prog.info? 12 = some Tryz.t12 := by unfold Tables.info?; exact Tryz.type12
theorem info13 : Tryz.prog.info? 13 = some Tryz.t13 := by unfold Tables.info?; exact Tryz.type13
theorem info14 : Tryz.prog.info? 14 = some Tryz.t14 := by unfold Tables.info?; exact Tryz.type14
theorem info16 : Tryz.prog.info? 16 = some Tryz.t16 := by unfold Tables.info?; exact Tryz.type16
theorem info17 : Tryz.prog.info? 17 = some Tryz.t17 := by unfold Tables.info?; exact Tryz.type17
theorem info19 : Tryz.prog.info? 19 = some Tryz.t19 := by unfold Tables.info?; exact Tryz.type19
theorem info22 : Tryz.prog.info? 22 = some Tryz.t22 := by unfold Tables.info?; exact Tryz.type22
theorem info23 : Tryz.prog.info? 23 = some Tryz.t23 := by unfold Tables.info?; exact Tryz.type23
theorem info24 : Tryz.prog.info? 24 = some Tryz.t24 := by unfold Tables.info?; exact Tryz.type24
theorem info25 : Tryz.prog.info? 25 = some Tryz.t25 := by unfold Tables.info?; exact Tryz.type25
theorem info26 : Tryz.prog.info? 26 = some Tryz.t26 := by unfold Tables.info?; exact Tryz.type26
theorem info27 : Tryz.prog.info? 27 = some Tryz.t27 := by unfold Tables.info?; exact Tryz.type27
theorem info28 : Tryz.prog.info? 28 = some Tryz.t28 := by unfold Tables.info?; exact Tryz.type28
theorem info29 : Tryz.prog.info? 29 = some Tryz.t29 := by unfold Tables.info?; exact Tryz.type29
theorem info30 : Tryz.prog.info? 30 = some Tryz.t30 := by unfold Tables.info?; exact Tryz.type30
theorem info31 : Tryz.prog.info? 31 = some Tryz.t31 := by unfold Tables.info?; exact Tryz.type31
theorem info32 : Tryz.prog.info? 32 = some Tryz.t32 := by unfold Tables.info?; exact Tryz.type32
theorem info33 : Tryz.prog.info? 33 = some Tryz.t33 := by unfold Tables.info?; exact Tryz.type33
theorem info35 : Tryz.prog.info? 35 = some Tryz.t35 := by unfold Tables.info?; exact Tryz.type35
theorem info36 : Tryz.prog.info? 36 = some Tryz.t36 := by unfold Tables.info?; exact Tryz.type36
theorem info38 : Tryz.prog.info? 38 = some Tryz.t38 := by unfold Tables.info?; exact Tryz.type38
theorem info39 : Tryz.prog.info? 39 = some Tryz.t39 := by unfold Tables.info?; exact Tryz.type39
theorem info41 : Tryz.prog.info? 41 = some Tryz.t41 := by unfold Tables.info?; exact Tryz.type41
theorem info42 : Tryz.prog.info? 42 = some Tryz.t42 := by unfold Tables.info?; exact Tryz.type42
theorem info44 : Tryz.prog.info? 44 = some Tryz.t44 := by unfold Tables.info?; exact Tryz.type44
theorem info46 : Tryz.prog.info? 46 = some Tryz.t46 := by unfold Tables.info?; exact Tryz.type46
theorem info47 : Tryz.prog.info? 47 = some Tryz.t47 := by unfold Tables.info?; exact Tryz.type47
theorem info48 : Tryz.prog.info? 48 = some Tryz.t48 := by unfold Tables.info?; exact Tryz.type48
theorem info49 : Tryz.prog.info? 49 = some Tryz.t49 := by unfold Tables.info?; exact Tryz.type49
theorem info50 : Tryz.prog.info? 50 = some Tryz.t50 := by unfold Tables.info?; exact Tryz.type50
theorem info51 : Tryz.prog.info? 51 = some Tryz.t51 := by unfold Tables.info?; exact Tryz.type51
theorem info53 : Tryz.prog.info? 53 = some Tryz.t53 := by unfold Tables.info?; exact Tryz.type53
theorem info54 : Tryz.prog.info? 54 = some Tryz.t54 := by unfold Tables.info?; exact Tryz.type54
theorem info58 : Tryz.prog.info? 58 = some Tryz.t58 := by unfold Tables.info?; exact Tryz.type58
theorem info59 : Tryz.prog.info? 59 = some Tryz.t59 := by unfold Tables.info?; exact Tryz.type59
theorem info60 : Tryz.prog.info? 60 = some Tryz.t60 := by unfold Tables.info?; exact Tryz.type60
theorem info61 : Tryz.prog.info? 61 = some Tryz.t61 := by unfold Tables.info?; exact Tryz.type61
theorem info63 : Tryz.prog.info? 63 = some Tryz.t63 := by unfold Tables.info?; exact Tryz.type63
theorem info64 : Tryz.prog.info? 64 = some Tryz.t64 := by unfold Tables.info?; exact Tryz.type64
theorem info66 : Tryz.prog.info? 66 = some Tryz.t66 := by unfold Tables.info?; exact Tryz.type66
theorem info67 : Tryz.prog.info? 67 = some Tryz.t67 := by unfold Tables.info?; exact Tryz.type67
theorem info70 : Tryz.prog.info? 70 = some Tryz.t70 := by unfold Tables.info?; exact Tryz.type70
theorem info71 : Tryz.prog.info? 71 = some Tryz.t71 := by unfold Tables.info?; exact Tryz.type71
theorem info74 : Tryz.prog.info? 74 = some Tryz.t74 := by unfold Tables.info?; exact Tryz.type74
theorem info75 : Tryz.prog.info? 75 = some Tryz.t75 := by unfold Tables.info?; exact Tryz.type75
theorem info76 : Tryz.prog.info? 76 = some Tryz.t76 := by unfold Tables.info?; exact Tryz.type76
theorem info79 : Tryz.prog.info? 79 = some Tryz.t79 := by unfold Tables.info?; exact Tryz.type79
theorem info85 : Tryz.prog.info? 85 = some Tryz.t85 := by unfold Tables.info?; exact Tryz.type85
theorem info86 : Tryz.prog.info? 86 = some Tryz.t86 := by unfold Tables.info?; exact Tryz.type86
theorem info87 : Tryz.prog.info? 87 = some Tryz.t87 := by unfold Tables.info?; exact Tryz.type87
theorem info88 : Tryz.prog.info? 88 = some Tryz.t88 := by unfold Tables.info?; exact Tryz.type88
theorem info89 : Tryz.prog.info? 89 = some Tryz.t89 := by unfold Tables.info?; exact Tryz.type89
theorem info90 : Tryz.prog.info? 90 = some Tryz.t90 := by unfold Tables.info?; exact Tryz.type90
theorem info91 : Tryz.prog.info? 91 = some Tryz.t91 := by unfold Tables.info?; exact Tryz.type91
theorem info93 : Tryz.prog.info? 93 = some Tryz.t93 := by unfold Tables.info?; exact Tryz.type93
theorem info94 : Tryz.prog.info? 94 = some Tryz.t94 := by unfold Tables.info?; exact Tryz.type94
theorem info95 : Tryz.prog.info? 95 = some Tryz.t95 := by unfold Tables.info?; exact Tryz.type95
theorem info96 : Tryz.prog.info? 96 = some Tryz.t96 := by unfold Tables.info?; exact Tryz.type96
theorem info97 : Tryz.prog.info? 97 = some Tryz.t97 := by unfold Tables.info?; exact Tryz.type97
theorem info98 : Tryz.prog.info? 98 = some Tryz.t98 := by unfold Tables.info?; exact Tryz.type98
theorem info99 : Tryz.prog.info? 99 = some Tryz.t99 := by unfold Tables.info?; exact Tryz.type99
theorem info100 : Tryz.prog.info? 100 = some Tryz.t100 := by unfold Tables.info?; exact Tryz.type100
theorem info101 : Tryz.prog.info? 101 = some Tryz.t101 := by unfold Tables.info?; exact Tryz.type101
theorem info102 : Tryz.prog.info? 102 = some Tryz.t102 := by unfold Tables.info?; exact Tryz.type102
theorem info103 : Tryz.prog.info? 103 = some Tryz.t103 := by unfold Tables.info?; exact Tryz.type103
theorem info104 : Tryz.prog.info? 104 = some Tryz.t104 := by unfold Tables.info?; exact Tryz.type104
theorem info106 : Tryz.prog.info? 106 = some Tryz.t106 := by unfold Tables.info?; exact Tryz.type106
theorem info107 : Tryz.prog.info? 107 = some Tryz.t107 := by unfold Tables.info?; exact Tryz.type107
theorem info110 : Tryz.prog.info? 110 = some Tryz.t110 := by unfold Tables.info?; exact Tryz.type110
theorem info111 : Tryz.prog.info? 111 = some Tryz.t111 := by unfold Tables.info?; exact Tryz.type111
theorem info113 : Tryz.prog.info? 113 = some Tryz.t113 := by unfold Tables.info?; exact Tryz.type113
theorem info114 : Tryz.prog.info? 114 = some Tryz.t114 := by unfold Tables.info?; exact Tryz.type114
theorem info115 : Tryz.prog.info? 115 = some Tryz.t115 := by unfold Tables.info?; exact Tryz.type115
theorem info116 : Tryz.prog.info? 116 = some Tryz.t116 := by unfold Tables.info?; exact Tryz.type116
theorem info120 : Tryz.prog.info? 120 = some Tryz.t120 := by unfold Tables.info?; exact Tryz.type120
theorem info121 : Tryz.prog.info? 121 = some Tryz.t121 := by unfold Tables.info?; exact Tryz.type121
theorem info123 : Tryz.prog.info? 123 = some Tryz.t123 := by unfold Tables.info?; exact Tryz.type123
theorem info126 : Tryz.prog.info? 126 = some Tryz.t126 := by unfold Tables.info?; exact Tryz.type126
theorem info128 : Tryz.prog.info? 128 = some Tryz.t128 := by unfold Tables.info?; exact Tryz.type128
theorem info129 : Tryz.prog.info? 129 = some Tryz.t129 := by unfold Tables.info?; exact Tryz.type129
theorem info131 : Tryz.prog.info? 131 = some Tryz.t131 := by unfold Tables.info?; exact Tryz.type131
theorem info132 : Tryz.prog.info? 132 = some Tryz.t132 := by unfold Tables.info?; exact Tryz.type132
theorem info137 : Tryz.prog.info? 137 = some Tryz.t137 := by unfold Tables.info?; exact Tryz.type137
theorem info138 : Tryz.prog.info? 138 = some Tryz.t138 := by unfold Tables.info?; exact Tryz.type138
theorem info139 : Tryz.prog.info? 139 = some Tryz.t139 := by unfold Tables.info?; exact Tryz.type139
theorem info141 : Tryz.prog.info? 141 = some Tryz.t141 := by unfold Tables.info?; exact Tryz.type141
theorem info142 : Tryz.prog.info? 142 = some Tryz.t142 := by unfold Tables.info?; exact Tryz.type142
theorem info143 : Tryz.prog.info? 143 = some Tryz.t143 := by unfold Tables.info?; exact Tryz.type143
theorem info148 : Tryz.prog.info? 148 = some Tryz.t148 := by unfold Tables.info?; exact Tryz.type148
theorem info149 : Tryz.prog.info? 149 = some Tryz.t149 := by unfold Tables.info?; exact Tryz.type149
theorem info151 : Tryz.prog.info? 151 = some Tryz.t151 := by unfold Tables.info?; exact Tryz.type151
theorem info152 : Tryz.prog.info? 152 = some Tryz.t152 := by unfold Tables.info?; exact Tryz.type152
theorem info153 : Tryz.prog.info? 153 = some Tryz.t153 := by unfold Tables.info?; exact Tryz.type153
theorem info154 : Tryz.prog.info? 154 = some Tryz.t154 := by unfold Tables.info?; exact Tryz.type154
theorem info155 : Tryz.prog.info? 155 = some Tryz.t155 := by unfold Tables.info?; exact Tryz.type155
theorem info162 : Tryz.prog.info? 162 = some Tryz.t162 := by unfold Tables.info?; exact Tryz.type162
theorem info164 : Tryz.prog.info? 164 = some Tryz.t164 := by unfold Tables.info?; exact Tryz.type164
theorem info165 : Tryz.prog.info? 165 = some Tryz.t165 := by unfold Tables.info?; exact Tryz.type165
theorem info166 : Tryz.prog.info? 166 = some Tryz.t166 := by unfold Tables.info?; exact Tryz.type166
theorem info167 : Tryz.prog.info? 167 = some Tryz.t167 := by unfold Tables.info?; exact Tryz.type167
theorem info168 : Tryz.prog.info? 168 = some Tryz.t168 := by unfold Tables.info?; exact Tryz.type168
theorem info169 : Tryz.prog.info? 169 = some Tryz.t169 := by unfold Tables.info?; exact Tryz.type169
theorem info170 : Tryz.prog.info? 170 = some Tryz.t170 := by unfold Tables.info?; exact Tryz.type170
theorem info175 : Tryz.prog.info? 175 = some Tryz.t175 := by unfold Tables.info?; exact Tryz.type175
theorem info181 : Tryz.prog.info? 181 = some Tryz.t181 := by unfold Tables.info?; exact Tryz.type181
theorem info186 : Tryz.prog.info? 186 = some Tryz.t186 := by unfold Tables.info?; exact Tryz.type186
theorem info187 : Tryz.prog.info? 187 = some Tryz.t187 := by unfold Tables.info?; exact Tryz.type187
theorem info188 : Tryz.prog.info? 188 = some Tryz.t188 := by unfold Tables.info?; exact Tryz.type188
theorem info189 : Tryz.prog.info? 189 = some Tryz.t189 := by unfold Tables.info?; exact Tryz.type189
theorem info192 : Tryz.prog.info? 192 = some Tryz.t192 := by unfold Tables.info?; exact Tryz.type192
theorem info194 : Tryz.prog.info? 194 = some Tryz.t194 := by unfold Tables.info?; exact Tryz.type194
theorem info203 : Tryz.prog.info? 203 = some Tryz.t203 := by unfold Tables.info?; exact Tryz.type203
theorem info209 : Tryz.prog.info? 209 = some Tryz.t209 := by unfold Tables.info?; exact Tryz.type209
theorem info218 : Tryz.prog.info? 218 = some Tryz.t218 := by unfold Tables.info?; exact Tryz.type218
theorem info240 : Tryz.prog.info? 240 = some Tryz.t240 := by unfold Tables.info?; exact Tryz.type240
theorem info241 : Tryz.prog.info? 241 = some Tryz.t241 := by unfold Tables.info?; exact Tryz.type241
@[go_sem] theorem has1 : (Tryz.prog.info? 1).isSome = true := by rw [info1]; rfl
@[go_sem] theorem cellsOf1 : Tryz.prog.cellsOf 1 = 1 := by unfold Program.cellsOf; rw [info1]; rfl
@[go_sem] theorem bytesOf1 : bytesOf Tryz.prog 1 = 8 := by unfold bytesOf; rw [info1]; rfl
@[go_sem] theorem takeVar1 (cs : List PV) : takeVar Tryz.prog 1 cs = cs[0]? := by unfold takeVar isAggT; rw [Tryz.underlying1, info1]
@[go_sem] theorem partA1 (cs : List PV) (k : Nat) : partA Tryz.prog 1 cs k = cs[k]? := by unfold partA isAggT; rw [Tryz.underlying1, info1]
@[go_sem] theorem zeroA1 : zeroA Tryz.prog 1 = some .nilfn := by unfold zeroA; rw [info1]; rfl
@[go_sem] theorem zeroOk1 : zeroOk Tryz.prog 1 = true := by unfold zeroOk; rw [zeroA1, cellsOf1]; rfl
attribute [go_sem] Tryz.underlying1
@[go_sem] theorem has2 : (Tryz.prog.info? 2).isSome = true := by rw [info2]; rfl
@[go_sem] theorem cellsOf2 : Tryz.prog.cellsOf 2 = 1 := by unfold Program.cellsOf; rw [info2]; rfl
@[go_sem] theorem bytesOf2 : bytesOf Tryz.prog 2 = 8 := by unfold bytesOf; rw [info2]; rfl
@[go_sem] theorem takeVar2 (cs : List PV) : takeVar Tryz.prog 2 cs = cs[0]? := by unfold takeVar isAggT; rw [Tryz.underlying2, info2]
@[go_sem] theorem partA2 (cs : List PV) (k : Nat) : partA Tryz.prog 2 cs k = cs[k]? := by unfold partA isAggT; rw [Tryz.underlying2, info2]
@[go_sem] theorem zeroA2 : zeroA Tryz.prog 2 = some (.int IntKind.i64 0) := by unfold zeroA; rw [info2]; rfl
@[go_sem] theorem zeroOk2 : zeroOk Tryz.prog 2 = true := by unfold zeroOk; rw [zeroA2, cellsOf2]; rfl
attribute [go_sem] Tryz.underlying2
@[go_sem] theorem has3 : (Tryz.prog.info? 3).isSome = true := by rw [info3]; rfl
@[go_sem] theorem cellsOf3 : Tryz.prog.cellsOf 3 = 1 := by unfold Program.cellsOf; rw [info3]; rfl
@[go_sem] theorem bytesOf3 : bytesOf Tryz.prog 3 = 8 := by unfold bytesOf; rw [info3]; rfl
@[go_sem] theorem takeVar3 (cs : List PV) : takeVar Tryz.prog 3 cs = cs[0]? := by unfold takeVar isAggT; rw [Tryz.underlying3, info3]
@[go_sem] theorem partA3 (cs : List PV) (k : Nat) : partA Tryz.prog 3 cs k = cs[k]? := by unfold partA isAggT; rw [Tryz.underlying3, info3]
@[go_sem] theorem zeroA3 : zeroA Tryz.prog 3 = some (.int IntKind.i64 0) := by unfold zeroA; rw [info3]; rfl
@[go_sem] theorem zeroOk3 : zeroOk Tryz.prog 3 = true := by unfold zeroOk; rw [zeroA3, cellsOf3]; rfl
attribute [go_sem] Tryz.underlying3
@[go_sem] theorem has4 : (Tryz.prog.info? 4).isSome = true := by rw [info4]; rfl
@[go_sem] theorem cellsOf4 : Tryz.prog.cellsOf 4 = 1 := by unfold Program.cellsOf; rw [info4]; rfl
@[go_sem] theorem bytesOf4 : bytesOf Tryz.prog 4 = 1 := by unfold bytesOf; rw [info4]; rfl
@[go_sem] theorem takeVar4 (cs : List PV) : takeVar Tryz.prog 4 cs = cs[0]? := by unfold takeVar isAggT; rw [Tryz.underlying4, info4]
@[go_sem] theorem partA4 (cs : List PV) (k : Nat) : partA Tryz.prog 4 cs k = cs[k]? := by unfold partA isAggT; rw [Tryz.underlying4, info4]
@[go_sem] theorem zeroA4 : zeroA Tryz.prog 4 = some (.bool false) := by unfold zeroA; rw [info4]; rfl
@[go_sem] theorem zeroOk4 : zeroOk Tryz.prog 4 = true := by unfold zeroOk; rw [zeroA4, cellsOf4]; rfl
attribute [go_sem] Tryz.underlying4
@[go_sem] theorem has5 : (Tryz.prog.info? 5).isSome = true := by rw [info5]; rfl
@[go_sem] theorem cellsOf5 : Tryz.prog.cellsOf 5 = 1 := by unfold Program.cellsOf; rw [info5]; rfl
@[go_sem] theorem bytesOf5 : bytesOf Tryz.prog 5 = 1 := by unfold bytesOf; rw [info5]; rfl
@[go_sem] theorem takeVar5 (cs : List PV) : takeVar Tryz.prog 5 cs = cs[0]? := by unfold takeVar isAggT; rw [Tryz.underlying5, info5]
@[go_sem] theorem partA5 (cs : List PV) (k : Nat) : partA Tryz.prog 5 cs k = cs[k]? := by unfold partA isAggT; rw [Tryz.underlying5, info5]
@[go_sem] theorem zeroA5 : zeroA Tryz.prog 5 = some (.int IntKind.u8 0) := by unfold zeroA; rw [info5]; rfl
@[go_sem] theorem zeroOk5 : zeroOk Tryz.prog 5 = true := by unfold zeroOk; rw [zeroA5, cellsOf5]; rfl
attribute [go_sem] Tryz.underlying5
@[go_sem] theorem has6 : (Tryz.prog.info? 6).isSome = true := by rw [info6]; rfl
@[go_sem] theorem cellsOf6 : Tryz.prog.cellsOf 6 = 1 := by unfold Program.cellsOf; rw [info6]; rfl
@[go_sem] theorem bytesOf6 : bytesOf Tryz.prog 6 = 1 := by unfold bytesOf; rw [info6]; rfl
@[go_sem] theorem takeVar6 (cs : List PV) : takeVar Tryz.prog 6 cs = cs[0]? := by unfold takeVar isAggT; rw [Tryz.underlying6, info6]
@[go_sem] theorem partA6 (cs : List PV) (k : Nat) : partA Tryz.prog 6 cs k = cs[k]? := by unfold partA isAggT; rw [Tryz.underlying6, info6]
@[go_sem] theorem zeroA6 : zeroA Tryz.prog 6 = some (.int IntKind.u8 0) := by unfold zeroA; rw [info6]; rfl
@[go_sem] theorem zeroOk6 : zeroOk Tryz.prog 6 = true := by unfold zeroOk; rw [zeroA6, cellsOf6]; rfl
attribute [go_sem] Tryz.underlying6
@[go_sem] theorem has7 : (Tryz.prog.info? 7).isSome = true := by rw [info7]; rfl
@[go_sem] theorem cellsOf7 : Tryz.prog.cellsOf 7 = 4 := by unfold Program.cellsOf; rw [info7]; rfl
@[go_sem] theorem bytesOf7 : bytesOf Tryz.prog 7 = 24 := by unfold bytesOf; rw [info7]; rfl
@[go_sem] theorem takeVar7 (cs : List PV) : takeVar Tryz.prog 7 cs = if 4 ≤ cs.length then some (.agg (cs.take 4)) else none := by unfold takeVar isAggT; rw [Tryz.underlying7, info7]; rfl
@[go_sem] theorem partA7 (cs : List PV) (k : Nat) : partA Tryz.prog 7 cs k = if k + 4 ≤ cs.length then some (.agg ((cs.drop k).take 4)) else none := by unfold partA isAggT; rw [Tryz.underlying7, info7]; rfl
@[go_sem] theorem zeroA7 : zeroA Tryz.prog 7 = some (.agg [(.int IntKind.i64 0), (.int IntKind.i64 0), (.bool false), (.int IntKind.u8 0)]) := by unfold zeroA; rw [info7]; rfl
@[go_sem] theorem zeroOk7 : zeroOk Tryz.prog 7 = true := by unfold zeroOk; rw [zeroA7, cellsOf7]; rfl
@[go_sem] theorem field7_0 : fieldInfo Tryz.prog 7 0 = some (0, 2) := by unfold fieldInfo; rw [Tryz.underlying7]; show (match Tryz.prog.info? 2 with | some i => if i.size = 0 then none else some (0, 2) | none => none) = _; rw [info2]; rfl
@[go_sem] theorem field7_1 : fieldInfo Tryz.prog 7 1 = some (1, 3) := by unfold fieldInfo; rw [Tryz.underlying7]; show (match Tryz.prog.info? 3 with | some i => if i.size = 0 then none else some (1, 3) | none => none) = _; rw [info3]; rfl
@[go_sem] theorem field7_2 : fieldInfo Tryz.prog 7 2 = some (2, 4) := by unfold fieldInfo; rw [Tryz.underlying7]; show (match Tryz.prog.info? 4 with | some i => if i.size = 0 then none else some (2, 4) | none => none) = _; rw [info4]; rfl
@[go_sem] theorem field7_3 : fieldInfo Tryz.prog 7 3 = some (3, 6) := by unfold fieldInfo; rw [Tryz.underlying7]; show (match Tryz.prog.info? 6 with | some i => if i.size = 0 then none else some (3, 6) | none => none) = _; rw [info6]; rfl
attribute [go_sem] Tryz.underlying7
@[go_sem] theorem has8 : (Tryz.prog.info? 8).isSome = true := by rw [info8]; rfl
@[go_sem] theorem cellsOf8 : Tryz.prog.cellsOf 8 = 4 := by unfold Program.cellsOf; rw [info8]; rfl
@[go_sem] theorem bytesOf8 : bytesOf Tryz.prog 8 = 24 := by unfold bytesOf; rw [info8]; rfl
@[go_sem] theorem takeVar8 (cs : List PV) : takeVar Tryz.prog 8 cs = if 4 ≤ cs.length then some (.agg (cs.take 4)) else none := by unfold takeVar isAggT; rw [Tryz.underlying8, info8]; rfl
@[go_sem] theorem partA8 (cs : List PV) (k : Nat) : partA Tryz.prog 8 cs k = if k + 4 ≤ cs.length then some (.agg ((cs.drop k).take 4)) else none := by unfold partA isAggT; rw [Tryz.underlying8, info8]; rfl
@[go_sem] theorem zeroA8 : zeroA Tryz.prog 8 = some (.agg [(.int IntKind.i64 0), (.int IntKind.i64 0), (.bool false), (.int IntKind.u8 0)]) := by unfold zeroA; rw [info8]; rfl
@[go_sem] theorem zeroOk8 : zeroOk Tryz.prog 8 = true := by unfold zeroOk; rw [zeroA8, cellsOf8]; rfl
@[go_sem] theorem field8_0 : fieldInfo Tryz.prog 8 0 = some (0, 2) := by unfold fieldInfo; rw [Tryz.underlying8]; show (match Tryz.prog.info? 2 with | some i => if i.size = 0 then none else some (0, 2) | none => none) = _; rw [info2]; rfl
@[go_sem] theorem field8_1 : fieldInfo Tryz.prog 8 1 = some (1, 3) := by unfold fieldInfo; rw [Tryz.underlying8]; show (match Tryz.prog.info? 3 with | some i => if i.size = 0 then none else some (1, 3) | none => none) = _; rw [info3]; rfl
@[go_sem] theorem field8_2 : fieldInfo Tryz.prog 8 2 = some (2, 4) := by unfold fieldInfo; rw [Tryz.underlying8]; show (match Tryz.prog.info? 4 with | some i => if i.size = 0 then none else some (2, 4) | none => none) = _; rw [info4]; rfl
@[go_sem] theorem field8_3 : fieldInfo Tryz.prog 8 3 = some (3, 6) := by unfold fieldInfo; rw [Tryz.underlying8]; show (match Tryz.prog.info? 6 with | some i => if i.size = 0 then none else some (3, 6) | none => none) = _; rw [info6]; rfl
attribute [go_sem] Tryz.underlying8
@[go_sem] theorem has9 : (Tryz.prog.info? 9).isSome = true := by rw [info9]; rfl
@[go_sem] theorem cellsOf9 : Tryz.prog.cellsOf 9 = 1 := by unfold Program.cellsOf; rw [info9]; rfl
@[go_sem] theorem bytesOf9 : bytesOf Tryz.prog 9 = 16 := by unfold bytesOf; rw [info9]; rfl
@[go_sem] theorem takeVar9 (cs : List PV) : takeVar Tryz.prog 9 cs = cs[0]? := by unfold takeVar isAggT; rw [Tryz.underlying9, info9]
@[go_sem] theorem partA9 (cs : List PV) (k : Nat) : partA Tryz.prog 9 cs k = cs[k]? := by unfold partA isAggT; rw [Tryz.underlying9, info9]
@[go_sem] theorem zeroA9 : zeroA Tryz.prog 9 = some (.str ({ data := #[] })) := by unfold zeroA; rw [info9]; rfl
@[go_sem] theorem zeroOk9 : zeroOk Tryz.prog 9 = true := by unfold zeroOk; rw [zeroA9, cellsOf9]; rfl
attribute [go_sem] Tryz.underlying9
@[go_sem] theorem has10 : (Tryz.prog.info? 10).isSome = true := by rw [info10]; rfl
@[go_sem] theorem cellsOf10 : Tryz.prog.cellsOf 10 = 1 := by unfold Program.cellsOf; rw [info10]; rfl
@[go_sem] theorem bytesOf10 : bytesOf Tryz.prog 10 = 16 := by unfold bytesOf; rw [info10]; rfl
@[go_sem] theorem takeVar10 (cs : List PV) : takeVar Tryz.prog 10 cs = cs[0]? := by unfold takeVar isAggT; rw [Tryz.underlying10, info10]
@[go_sem] theorem partA10 (cs : List PV) (k : Nat) : partA Tryz.prog 10 cs k = cs[k]? := by unfold partA isAggT; rw [Tryz.underlying10, info10]
@[go_sem] theorem zeroA10 : zeroA Tryz.prog 10 = some (.str ({ data := #[] })) := by unfold zeroA; rw [info10]; rfl
@[go_sem] theorem zeroOk10 : zeroOk Tryz.prog 10 = true := by unfold zeroOk; rw [zeroA10, cellsOf10]; rfl
attribute [go_sem] Tryz.underlying10
@[go_sem] theorem has11 : (Tryz.prog.info? 11).isSome = true := by rw [info11]; rfl
@[go_sem] theorem cellsOf11 : Tryz.prog.cellsOf 11 = 1 := by unfold Program.cellsOf; rw [info11]; rfl
@[go_sem] theorem bytesOf11 : bytesOf Tryz.prog 11 = 16 := by unfold bytesOf; rw [info11]; rfl
@[go_sem] theorem takeVar11 (cs : List PV) : takeVar Tryz.prog 11 cs = cs[0]? := by unfold takeVar isAggT; rw [Tryz.underlying11, info11]
@[go_sem] theorem partA11 (cs : List PV) (k : Nat) : partA Tryz.prog 11 cs k = cs[k]? := by unfold partA isAggT; rw [Tryz.underlying11, info11]
@[go_sem] theorem zeroA11 : zeroA Tryz.prog 11 = some (.str ({ data := #[] })) := by unfold zeroA; rw [info11]; rfl
@[go_sem] theorem zeroOk11 : zeroOk Tryz.prog 11 = true := by unfold zeroOk; rw [zeroA11, cellsOf11]; rfl
attribute [go_sem] Tryz.underlying11
@[go_sem] theorem has12 : (Tryz.prog.info? 12).isSome = true := by rw [info12]; rfl
@[go_sem] theorem cellsOf12 : Tryz.prog.cellsOf 12 = 1 := by unfold Program.cellsOf; rw [info12]; rfl
@[go_sem] theorem has13 : (Tryz.prog.info? 13).isSome = true := by rw [info13]; rfl
@[go_sem] theorem cellsOf13 : Tryz.prog.cellsOf 13 = 2 := by unfold Program.cellsOf; rw [info13]; rfl
@[go_sem] theorem bytesOf13 : bytesOf Tryz.prog 13 = 24 := by unfold bytesOf; rw [info13]; rfl
@[go_sem] theorem takeVar13 (cs : List PV) : takeVar Tryz.prog 13 cs = if 2 ≤ cs.length then some (.agg (cs.take 2)) else none := by unfold takeVar isAggT; rw [Tryz.underlying13, info13]; rfl
@[go_sem] theorem partA13 (cs : List PV) (k : Nat) : partA Tryz.prog 13 cs k = if k + 2 ≤ cs.length then some (.agg ((cs.drop k).take 2)) else none := by unfold partA isAggT; rw [Tryz.underlying13, info13]; rfl
@[go_sem] theorem zeroA13 : zeroA Tryz.prog 13 = some (.agg [(.str ({ data := #[] })), (.int IntKind.u64 0)]) := by unfold zeroA; rw [info13]; rfl
@[go_sem] theorem zeroOk13 : zeroOk Tryz.prog 13 = true := by unfold zeroOk; rw [zeroA13, cellsOf13]; rfl
@[go_sem] theorem field13_0 : fieldInfo Tryz.prog 13 0 = some (0, 9) := by unfold fieldInfo; rw [Tryz.underlying13]; show (match Tryz.prog.info? 9 with | some i => if i.size = 0 then none else some (0, 9) | none => none) = _; rw [info9]; rfl
@[go_sem] theorem field13_1 : fieldInfo Tryz.prog 13 1 = some (1, 12) := by unfold fieldInfo; rw [Tryz.underlying13]; show (match Tryz.prog.info? 12 with | some i => if i.size = 0 then none else some (1, 12) | none => none) = _; rw [info12]; rfl
attribute [go_sem] Tryz.underlying13
@[go_sem] theorem has14 : (Tryz.prog.info? 14).isSome = true := by rw [info14]; rfl
@[go_sem] theorem cellsOf14 : Tryz.prog.cellsOf 14 = 2 := by unfold Program.cellsOf; rw [info14]; rfl
@[go_sem] theorem bytesOf14 : bytesOf Tryz.prog 14 = 24 := by unfold bytesOf; rw [info14]; rfl
@[go_sem] theorem takeVar14 (cs : List PV) : takeVar Tryz.prog 14 cs = if 2 ≤ cs.length then some (.agg (cs.take 2)) else none := by unfold takeVar isAggT; rw [Tryz.underlying14, info14]; rfl
@[go_sem] theorem partA14 (cs : List PV) (k : Nat) : partA Tryz.prog 14 cs k = if k + 2 ≤ cs.length then some (.agg ((cs.drop k).take 2)) else none := by unfold partA isAggT; rw [Tryz.underlying14, info14]; rfl
@[go_sem] theorem zeroA14 : zeroA Tryz.prog 14 = some (.agg [(.str ({ data := #[] })), (.int IntKind.u64 0)]) := by unfold zeroA; rw [info14]; rfl
@[go_sem] theorem zeroOk14 : zeroOk Tryz.prog 14 = true := by unfold zeroOk; rw [zeroA14, cellsOf14]; rfl
@[go_sem] theorem field14_0 : fieldInfo Tryz.prog 14 0 = some (0, 9) := by unfold fieldInfo; rw [Tryz.underlying14]; show (match Tryz.prog.info? 9 with | some i => if i.size = 0 then none else some (0, 9) | none => none) = _; rw [info9]; rfl
@[go_sem] theorem field14_1 : fieldInfo Tryz.prog 14 1 = some (1, 12) := by unfold fieldInfo; rw [Tryz.underlying14]; show (match Tryz.prog.info? 12 with | some i => if i.size = 0 then none else some (1, 12) | none => none) = _; rw [info12]; rfl
attribute [go_sem] Tryz.underlying14
@[go_sem] theorem has16 : (Tryz.prog.info? 16).isSome = true := by rw [info16]; rfl
@[go_sem] theorem cellsOf16 : Tryz.prog.cellsOf 16 = 1 := by unfold Program.cellsOf; rw [info16]; rfl
@[go_sem] theorem bytesOf16 : bytesOf Tryz.prog 16 = 8 := by unfold bytesOf; rw [info16]; rfl
@[go_sem] theorem takeVar16 (cs : List PV) : takeVar Tryz.prog 16 cs = cs[0]? := by unfold takeVar isAggT; rw [Tryz.underlying16, info16]
@[go_sem] theorem partA16 (cs : List PV) (k : Nat) : partA Tryz.prog 16 cs k = cs[k]? := by unfold partA isAggT; rw [Tryz.underlying16, info16]
@[go_sem] theorem zeroA16 : zeroA Tryz.prog 16 = some .nilp := by unfold zeroA; rw [info16]; rfl
@[go_sem] theorem zeroOk16 : zeroOk Tryz.prog 16 = true := by unfold zeroOk; rw [zeroA16, cellsOf16]; rfl
attribute [go_sem] Tryz.underlying16
@[go_sem] theorem has17 : (Tryz.prog.info? 17).isSome = true := by rw [info17]; rfl
@[go_sem] theorem cellsOf17 : Tryz.prog.cellsOf 17 = 1 := by unfold Program.cellsOf; rw [info17]; rfl
@[go_sem] theorem has19 : (Tryz.prog.info? 19).isSome = true := by rw [info19]; rfl
@[go_sem] theorem cellsOf19 : Tryz.prog.cellsOf 19 = 1 := by unfold Program.cellsOf; rw [info19]; rfl
@[go_sem] theorem bytesOf19 : bytesOf Tryz.prog 19 = 8 := by unfold bytesOf; rw [info19]; rfl
@[go_sem] theorem takeVar19 (cs : List PV) : takeVar Tryz.prog 19 cs = if 1 ≤ cs.length then some (.agg (cs.take 1)) else none := by unfold takeVar isAggT; rw [Tryz.underlying19, info19]; rfl
@[go_sem] theorem partA19 (cs : List PV) (k : Nat) : partA Tryz.prog 19 cs k = if k + 1 ≤ cs.length then some (.agg ((cs.drop k).take 1)) else none := by unfold partA isAggT; rw [Tryz.underlying19, info19]; rfl
@[go_sem] theorem zeroA19 : zeroA Tryz.prog 19 = some (.agg [.nilp]) := by unfold zeroA; rw [info19]; rfl
@[go_sem] theorem zeroOk19 : zeroOk Tryz.prog 19 = true := by unfold zeroOk; rw [zeroA19, cellsOf19]; rfl
@[go_sem] theorem field19_0 : fieldInfo Tryz.prog 19 0 = some (0, 17) := by unfold fieldInfo; rw [Tryz.underlying19]; show (match Tryz.prog.info? 17 with | some i => if i.size = 0 then none else some (0, 17) | none => none) = _; rw [info17]; rfl
attribute [go_sem] Tryz.underlying19
@[go_sem] theorem has22 : (Tryz.prog.info? 22).isSome = true := by rw [info22]; rfl
@[go_sem] theorem cellsOf22 : Tryz.prog.cellsOf 22 = 1 := by unfold Program.cellsOf; rw [info22]; rfl
@[go_sem] theorem bytesOf22 : bytesOf Tryz.prog 22 = 24 := by unfold bytesOf; rw [info22]; rfl
@[go_sem] theorem takeVar22 (cs : List PV) : takeVar Tryz.prog 22 cs = cs[0]? := by unfold takeVar isAggT; rw [Tryz.underlying22, info22]
@[go_sem] theorem partA22 (cs : List PV) (k : Nat) : partA Tryz.prog 22 cs k = cs[k]? := by unfold partA isAggT; rw [Tryz.underlying22, info22]
@[go_sem] theorem zeroA22 : zeroA Tryz.prog 22 = some .emp := by unfold zeroA; rw [info22]; rfl
@[go_sem] theorem zeroOk22 : zeroOk Tryz.prog 22 = true := by unfold zeroOk; rw [zeroA22, cellsOf22]; rfl
attribute [go_sem] Tryz.underlying22
@[go_sem] theorem has23 : (Tryz.prog.info? 23).isSome = true := by rw [info23]; rfl
@[go_sem] theorem cellsOf23 : Tryz.prog.cellsOf 23 = 1 := by unfold Program.cellsOf; rw [info23]; rfl
@[go_sem] theorem bytesOf23 : bytesOf Tryz.prog 23 = 24 := by unfold bytesOf; rw [info23]; rfl
@[go_sem] theorem takeVar23 (cs : List PV) : takeVar Tryz.prog 23 cs = cs[0]? := by unfold takeVar isAggT; rw [Tryz.underlying23, info23]
@[go_sem] theorem partA23 (cs : List PV) (k : Nat) : partA Tryz.prog 23 cs k = cs[k]? := by unfold partA isAggT; rw [Tryz.underlying23, info23]
@[go_sem] theorem zeroA23 : zeroA Tryz.prog 23 = some .emp := by unfold zeroA; rw [info23]; rfl
@[go_sem] theorem zeroOk23 : zeroOk Tryz.prog 23 = true := by unfold zeroOk; rw [zeroA23, cellsOf23]; rfl
attribute [go_sem] Tryz.underlying23
@[go_sem] theorem has24 : (Tryz.prog.info? 24).isSome = true := by rw [info24]; rfl
@[go_sem] theorem cellsOf24 : Tryz.prog.cellsOf 24 = 1 := by unfold Program.cellsOf; rw [info24]; rfl
@[go_sem] theorem bytesOf24 : bytesOf Tryz.prog 24 = 24 := by unfold bytesOf; rw [info24]; rfl
@[go_sem] theorem takeVar24 (cs : List PV) : takeVar Tryz.prog 24 cs = cs[0]? := by unfold takeVar isAggT; rw [Tryz.underlying24, info24]
@[go_sem] theorem partA24 (cs : List PV) (k : Nat) : partA Tryz.prog 24 cs k = cs[k]? := by unfold partA isAggT; rw [Tryz.underlying24, info24]
@[go_sem] theorem zeroA24 : zeroA Tryz.prog 24 = some .emp := by unfold zeroA; rw [info24]; rfl
@[go_sem] theorem zeroOk24 : zeroOk Tryz.prog 24 = true := by unfold zeroOk; rw [zeroA24, cellsOf24]; rfl
attribute [go_sem] Tryz.underlying24
@[go_sem] theorem has25 : (Tryz.prog.info? 25).isSome = true := by rw [info25]; rfl
@[go_sem] theorem cellsOf25 : Tryz.prog.cellsOf 25 = 3 := by unfold Program.cellsOf; rw [info25]; rfl
@[go_sem] theorem bytesOf25 : bytesOf Tryz.prog 25 = 56 := by unfold bytesOf; rw [info25]; rfl
@[go_sem] theorem takeVar25 (cs : List PV) : takeVar Tryz.prog 25 cs = if 3 ≤ cs.length then some (.agg (cs.take 3)) else none := by unfold takeVar isAggT; rw [Tryz.underlying25, info25]; rfl
@[go_sem] theorem partA25 (cs : List PV) (k : Nat) : partA Tryz.prog 25 cs k = if k + 3 ≤ cs.length then some (.agg ((cs.drop k).take 3)) else none := by unfold partA isAggT; rw [Tryz.underlying25, info25]; rfl
@[go_sem] theorem zeroA25 : zeroA Tryz.prog 25 = some (.agg [(.int IntKind.i64 0), .emp, .emp]) := by unfold zeroA; rw [info25]; rfl
@[go_sem] theorem zeroOk25 : zeroOk Tryz.prog 25 = true := by unfold zeroOk; rw [zeroA25, cellsOf25]; rfl
@[go_sem] theorem field25_0 : fieldInfo Tryz.prog 25 0 = some (0, 3) := by unfold fieldInfo; rw [Tryz.underlying25]; show (match Tryz.prog.info? 3 with | some i => if i.size = 0 then none else some (0, 3) | none => none) = _; rw [info3]; rfl
@[go_sem] theorem field25_1 : fieldInfo Tryz.prog 25 1 = some (1, 23) := by unfold fieldInfo; rw [Tryz.underlying25]; show (match Tryz.prog.info? 23 with | some i => if i.size = 0 then none else some (1, 23) | none => none) = _; rw [info23]; rfl
@[go_sem] theorem field25_2 : fieldInfo Tryz.prog 25 2 = some (2, 24) := by unfold fieldInfo; rw [Tryz.underlying25]; show (match Tryz.prog.info? 24 with | some i => if i.size = 0 then none else some (2, 24) | none => none) = _; rw [info24]; rfl
attribute [go_sem] Tryz.underlying25
@[go_sem] theorem has26 : (Tryz.prog.info? 26).isSome = true := by rw [info26]; rfl
@[go_sem] theorem cellsOf26 : Tryz.prog.cellsOf 26 = 3 := by unfold Program.cellsOf; rw [info26]; rfl
@[go_sem] theorem bytesOf26 : bytesOf Tryz.prog 26 = 56 := by unfold bytesOf; rw [info26]; rfl
@[go_sem] theorem takeVar26 (cs : List PV) : takeVar Tryz.prog 26 cs = if 3 ≤ cs.length then some (.agg (cs.take 3)) else none := by unfold takeVar isAggT; rw [Tryz.underlying26, info26]; rfl
@[go_sem] theorem partA26 (cs : List PV) (k : Nat) : partA Tryz.prog 26 cs k = if k + 3 ≤ cs.length then some (.agg ((cs.drop k).take 3)) else none := by unfold partA isAggT; rw [Tryz.underlying26, info26]; rfl
@[go_sem] theorem zeroA26 : zeroA Tryz.prog 26 = some (.agg [(.int IntKind.i64 0), .emp, .emp]) := by unfold zeroA; rw [info26]; rfl
@[go_sem] theorem zeroOk26 : zeroOk Tryz.prog 26 = true := by unfold zeroOk; rw [zeroA26, cellsOf26]; rfl
@[go_sem] theorem field26_0 : fieldInfo Tryz.prog 26 0 = some (0, 3) := by unfold fieldInfo; rw [Tryz.underlying26]; show (match Tryz.prog.info? 3 with | some i => if i.size = 0 then none else some (0, 3) | none => none) = _; rw [info3]; rfl
@[go_sem] theorem field26_1 : fieldInfo Tryz.prog 26 1 = some (1, 23) := by unfold fieldInfo; rw [Tryz.underlying26]; show (match Tryz.prog.info? 23 with | some i => if i.size = 0 then none else some (1, 23) | none => none) = _; rw [info23]; rfl
@[go_sem] theorem field26_2 : fieldInfo Tryz.prog 26 2 = some (2, 24) := by unfold fieldInfo; rw [Tryz.underlying26]; show (match Tryz.prog.info? 24 with | some i => if i.size = 0 then none else some (2, 24) | none => none) = _; rw [info24]; rfl
attribute [go_sem] Tryz.underlying26
@[go_sem] theorem has27 : (Tryz.prog.info? 27).isSome = true := by rw [info27]; rfl
@[go_sem] theorem cellsOf27 : Tryz.prog.cellsOf 27 = 1 := by unfold Program.cellsOf; rw [info27]; rfl
@[go_sem] theorem bytesOf27 : bytesOf Tryz.prog 27 = 24 := by unfold bytesOf; rw [info27]; rfl
@[go_sem] theorem takeVar27 (cs : List PV) : takeVar Tryz.prog 27 cs = cs[0]? := by unfold takeVar isAggT; rw [Tryz.underlying27, info27]
@[go_sem] theorem partA27 (cs : List PV) (k : Nat) : partA Tryz.prog 27 cs k = cs[k]? := by unfold partA isAggT; rw [Tryz.underlying27, info27]
@[go_sem] theorem zeroA27 : zeroA Tryz.prog 27 = some .emp := by unfold zeroA; rw [info27]; rfl
@[go_sem] theorem zeroOk27 : zeroOk Tryz.prog 27 = true := by unfold zeroOk; rw [zeroA27, cellsOf27]; rfl
attribute [go_sem] Tryz.underlying27
@[go_sem] theorem has28 : (Tryz.prog.info? 28).isSome = true := by rw [info28]; rfl
@[go_sem] theorem cellsOf28 : Tryz.prog.cellsOf 28 = 2 := by unfold Program.cellsOf; rw [info28]; rfl
@[go_sem] theorem bytesOf28 : bytesOf Tryz.prog 28 = 48 := by unfold bytesOf; rw [info28]; rfl
@[go_sem] theorem takeVar28 (cs : List PV) : takeVar Tryz.prog 28 cs = if 2 ≤ cs.length then some (.agg (cs.take 2)) else none := by unfold takeVar isAggT; rw [Tryz.underlying28, info28]; rfl
@[go_sem] theorem partA28 (cs : List PV) (k : Nat) : partA Tryz.prog 28 cs k = if k + 2 ≤ cs.length then some (.agg ((cs.drop k).take 2)) else none := by unfold partA isAggT; rw [Tryz.underlying28, info28]; rfl
@[go_sem] theorem zeroA28 : zeroA Tryz.prog 28 = some (.agg [.emp, .emp]) := by unfold zeroA; rw [info28]; rfl
@[go_sem] theorem zeroOk28 : zeroOk Tryz.prog 28 = true := by unfold zeroOk; rw [zeroA28, cellsOf28]; rfl
@[go_sem] theorem field28_0 : fieldInfo Tryz.prog 28 0 = some (0, 27) := by unfold fieldInfo; rw [Tryz.underlying28]; show (match Tryz.prog.info? 27 with | some i => if i.size = 0 then none else some (0, 27) | none => none) = _; rw [info27]; rfl
@[go_sem] theorem field28_1 : fieldInfo Tryz.prog 28 1 = some (1, 27) := by unfold fieldInfo; rw [Tryz.underlying28]; show (match Tryz.prog.info? 27 with | some i => if i.size = 0 then none else some (1, 27) | none => none) = _; rw [info27]; rfl
attribute [go_sem] Tryz.underlying28
@[go_sem] theorem has29 : (Tryz.prog.info? 29).isSome = true := by rw [info29]; rfl
@[go_sem] theorem cellsOf29 : Tryz.prog.cellsOf 29 = 2 := by unfold Program.cellsOf; rw [info29]; rfl
@[go_sem] theorem bytesOf29 : bytesOf Tryz.prog 29 = 48 := by unfold bytesOf; rw [info29]; rfl
@[go_sem] theorem takeVar29 (cs : List PV) : takeVar Tryz.prog 29 cs = if 2 ≤ cs.length then some (.agg (cs.take 2)) else none := by unfold takeVar isAggT; rw [Tryz.underlying29, info29]; rfl
@[go_sem] theorem partA29 (cs : List PV) (k : Nat) : partA Tryz.prog 29 cs k = if k + 2 ≤ cs.length then some (.agg ((cs.drop k).take 2)) else none := by unfold partA isAggT; rw [Tryz.underlying29, info29]; rfl
@[go_sem] theorem zeroA29 : zeroA Tryz.prog 29 = some (.agg [.emp, .emp]) := by unfold zeroA; rw [info29]; rfl
@[go_sem] theorem zeroOk29 : zeroOk Tryz.prog 29 = true := by unfold zeroOk; rw [zeroA29, cellsOf29]; rfl
@[go_sem] theorem field29_0 : fieldInfo Tryz.prog 29 0 = some (0, 27) := by unfold fieldInfo; rw [Tryz.underlying29]; show (match Tryz.prog.info? 27 with | some i => if i.size = 0 then none else some (0, 27) | none => none) = _; rw [info27]; rfl
@[go_sem] theorem field29_1 : fieldInfo Tryz.prog 29 1 = some (1, 27) := by unfold fieldInfo; rw [Tryz.underlying29]; show (match Tryz.prog.info? 27 with | some i => if i.size = 0 then none else some (1, 27) | none => none) = _; rw [info27]; rfl
attribute [go_sem] Tryz.underlying29
@[go_sem] theorem has30 : (Tryz.prog.info? 30).isSome = true := by rw [info30]; rfl
@[go_sem] theorem cellsOf30 : Tryz.prog.cellsOf 30 = 1 := by unfold Program.cellsOf; rw [info30]; rfl
@[go_sem] theorem bytesOf30 : bytesOf Tryz.prog 30 = 24 := by unfold bytesOf; rw [info30]; rfl
@[go_sem] theorem takeVar30 (cs : List PV) : takeVar Tryz.prog 30 cs = cs[0]? := by unfold takeVar isAggT; rw [Tryz.underlying30, info30]
@[go_sem] theorem partA30 (cs : List PV) (k : Nat) : partA Tryz.prog 30 cs k = cs[k]? := by unfold partA isAggT; rw [Tryz.underlying30, info30]
@[go_sem] theorem zeroA30 : zeroA Tryz.prog 30 = some .emp := by unfold zeroA; rw [info30]; rfl
@[go_sem] theorem zeroOk30 : zeroOk Tryz.prog 30 = true := by unfold zeroOk; rw [zeroA30, cellsOf30]; rfl
attribute [go_sem] Tryz.underlying30
@[go_sem] theorem has31 : (Tryz.prog.info? 31).isSome = true := by rw [info31]; rfl
@[go_sem] theorem cellsOf31 : Tryz.prog.cellsOf 31 = 3 := by unfold Program.cellsOf; rw [info31]; rfl
@[go_sem] theorem bytesOf31 : bytesOf Tryz.prog 31 = 72 := by unfold bytesOf; rw [info31]; rfl
@[go_sem] theorem takeVar31 (cs : List PV) : takeVar Tryz.prog 31 cs = if 3 ≤ cs.length then some (.agg (cs.take 3)) else none := by unfold takeVar isAggT; rw [Tryz.underlying31, info31]; rfl
@[go_sem] theorem partA31 (cs : List PV) (k : Nat) : partA Tryz.prog 31 cs k = if k + 3 ≤ cs.length then some (.agg ((cs.drop k).take 3)) else none := by unfold partA isAggT; rw [Tryz.underlying31, info31]; rfl
@[go_sem] theorem zeroA31 : zeroA Tryz.prog 31 = some (.agg [.emp, .emp, .emp]) := by unfold zeroA; rw [info31]; rfl
@[go_sem] theorem zeroOk31 : zeroOk Tryz.prog 31 = true := by unfold zeroOk; rw [zeroA31, cellsOf31]; rfl
@[go_sem] theorem field31_0 : fieldInfo Tryz.prog 31 0 = some (0, 30) := by unfold fieldInfo; rw [Tryz.underlying31]; show (match Tryz.prog.info? 30 with | some i => if i.size = 0 then none else some (0, 30) | none => none) = _; rw [info30]; rfl
@[go_sem] theorem field31_1 : fieldInfo Tryz.prog 31 1 = some (1, 30) := by unfold fieldInfo; rw [Tryz.underlying31]; show (match Tryz.prog.info? 30 with | some i => if i.size = 0 then none else some (1, 30) | none => none) = _; rw [info30]; rfl
@[go_sem] theorem field31_2 : fieldInfo Tryz.prog 31 2 = some (2, 30) := by unfold fieldInfo; rw [Tryz.underlying31]; show (match Tryz.prog.info? 30 with | some i => if i.size = 0 then none else some (2, 30) | none => none) = _; rw [info30]; rfl
attribute [go_sem] Tryz.underlying31
@[go_sem] theorem has32 : (Tryz.prog.info? 32).isSome = true := by rw [info32]; rfl
@[go_sem] theorem cellsOf32 : Tryz.prog.cellsOf 32 = 3 := by unfold Program.cellsOf; rw [info32]; rfl
@[go_sem] theorem bytesOf32 : bytesOf Tryz.prog 32 = 72 := by unfold bytesOf; rw [info32]; rfl
@[go_sem] theorem takeVar32 (cs : List PV) : takeVar Tryz.prog 32 cs = if 3 ≤ cs.length then some (.agg (cs.take 3)) else none := by unfold takeVar isAggT; rw [Tryz.underlying32, info32]; rfl
@[go_sem] theorem partA32 (cs : List PV) (k : Nat) : partA Tryz.prog 32 cs k = if k + 3 ≤ cs.length then some (.agg ((cs.drop k).take 3)) else none := by unfold partA isAggT; rw [Tryz.underlying32, info32]; rfl
@[go_sem] theorem zeroA32 : zeroA Tryz.prog 32 = some (.agg [.emp, .emp, .emp]) := by unfold zeroA; rw [info32]; rfl
@[go_sem] theorem zeroOk32 : zeroOk Tryz.prog 32 = true := by unfold zeroOk; rw [zeroA32, cellsOf32]; rfl
@[go_sem] theorem field32_0 : fieldInfo Tryz.prog 32 0 = some (0, 30) := by unfold fieldInfo; rw [Tryz.underlying32]; show (match Tryz.prog.info? 30 with | some i => if i.size = 0 then none else some (0, 30) | none => none) = _; rw [info30]; rfl
@[go_sem] theorem field32_1 : fieldInfo Tryz.prog 32 1 = some (1, 30) := by unfold fieldInfo; rw [Tryz.underlying32]; show (match Tryz.prog.info? 30 with | some i => if i.size = 0 then none else some (1, 30) | none => none) = _; rw [info30]; rfl
@[go_sem] theorem field32_2 : fieldInfo Tryz.prog 32 2 = some (2, 30) := by unfold fieldInfo; rw [Tryz.underlying32]; show (match Tryz.prog.info? 30 with | some i => if i.size = 0 then none else some (2, 30) | none => none) = _; rw [info30]; rfl
attribute [go_sem] Tryz.underlying32
@[go_sem] theorem has36 : (Tryz.prog.info? 36).isSome = true := by rw [info36]; rfl
@[go_sem] theorem cellsOf36 : Tryz.prog.cellsOf 36 = 1 := by unfold Program.cellsOf; rw [info36]; rfl
@[go_sem] theorem bytesOf36 : bytesOf Tryz.prog 36 = 8 := by unfold bytesOf; rw [info36]; rfl
@[go_sem] theorem takeVar36 (cs : List PV) : takeVar Tryz.prog 36 cs = cs[0]? := by unfold takeVar isAggT; rw [Tryz.underlying36, info36]
@[go_sem] theorem partA36 (cs : List PV) (k : Nat) : partA Tryz.prog 36 cs k = cs[k]? := by unfold partA isAggT; rw [Tryz.underlying36, info36]
@[go_sem] theorem zeroA36 : zeroA Tryz.prog 36 = some .nilfn := by unfold zeroA; rw [info36]; rfl
@[go_sem] theorem zeroOk36 : zeroOk Tryz.prog 36 = true := by unfold zeroOk; rw [zeroA36, cellsOf36]; rfl
attribute [go_sem] Tryz.underlying36
@[go_sem] theorem has38 : (Tryz.prog.info? 38).isSome = true := by rw [info38]; rfl
@[go_sem] theorem cellsOf38 : Tryz.prog.cellsOf 38 = 2 := by unfold Program.cellsOf; rw [info38]; rfl
@[go_sem] theorem bytesOf38 : bytesOf Tryz.prog 38 = 16 := by unfold bytesOf; rw [info38]; rfl
@[go_sem] theorem takeVar38 (cs : List PV) : takeVar Tryz.prog 38 cs = if 2 ≤ cs.length then some (.agg (cs.take 2)) else none := by unfold takeVar isAggT; rw [Tryz.underlying38, info38]; rfl
@[go_sem] theorem partA38 (cs : List PV) (k : Nat) : partA Tryz.prog 38 cs k = if k + 2 ≤ cs.length then some (.agg ((cs.drop k).take 2)) else none := by unfold partA isAggT; rw [Tryz.underlying38, info38]; rfl
@[go_sem] theorem zeroA38 : zeroA Tryz.prog 38 = some (.agg [(.int IntKind.i64 0), (.int IntKind.i64 0)]) := by unfold zeroA; rw [info38]; rfl
@[go_sem] theorem zeroOk38 : zeroOk Tryz.prog 38 = true := by unfold zeroOk; rw [zeroA38, cellsOf38]; rfl
@[go_sem] theorem field38_0 : fieldInfo Tryz.prog 38 0 = some (0, 3) := by unfold fieldInfo; rw [Tryz.underlying38]; show (match Tryz.prog.info? 3 with | some i => if i.size = 0 then none else some (0, 3) | none => none) = _; rw [info3]; rfl
@[go_sem] theorem field38_1 : fieldInfo Tryz.prog 38 1 = some (1, 3) := by unfold fieldInfo; rw [Tryz.underlying38]; show (match Tryz.prog.info? 3 with | some i => if i.size = 0 then none else some (1, 3) | none => none) = _; rw [info3]; rfl
attribute [go_sem] Tryz.underlying38
@[go_sem] theorem has39 : (Tryz.prog.info? 39).isSome = true := by rw [info39]; rfl
@[go_sem] theorem cellsOf39 : Tryz.prog.cellsOf 39 = 2 := by unfold Program.cellsOf; rw [info39]; rfl
@[go_sem] theorem bytesOf39 : bytesOf Tryz.prog 39 = 16 := by unfold bytesOf; rw [info39]; rfl
@[go_sem] theorem takeVar39 (cs : List PV) : takeVar Tryz.prog 39 cs = if 2 ≤ cs.length then some (.agg (cs.take 2)) else none := by unfold takeVar isAggT; rw [Tryz.underlying39, info39]; rfl
@[go_sem] theorem partA39 (cs : List PV) (k : Nat) : partA Tryz.prog 39 cs k = if k + 2 ≤ cs.length then some (.agg ((cs.drop k).take 2)) else none := by unfold partA isAggT; rw [Tryz.underlying39, info39]; rfl
@[go_sem] theorem zeroA39 : zeroA Tryz.prog 39 = some (.agg [(.int IntKind.i64 0), (.int IntKind.i64 0)]) := by unfold zeroA; rw [info39]; rfl
@[go_sem] theorem zeroOk39 : zeroOk Tryz.prog 39 = true := by unfold zeroOk; rw [zeroA39, cellsOf39]; rfl
@[go_sem] theorem field39_0 : fieldInfo Tryz.prog 39 0 = some (0, 3) := by unfold fieldInfo; rw [Tryz.underlying39]; show (match Tryz.prog.info? 3 with | some i => if i.size = 0 then none else some (0, 3) | none => none) = _; rw [info3]; rfl
@[go_sem] theorem field39_1 : fieldInfo Tryz.prog 39 1 = some (1, 3) := by unfold fieldInfo; rw [Tryz.underlying39]; show (match Tryz.prog.info? 3 with | some i => if i.size = 0 then none else some (1, 3) | none => none) = _; rw [info3]; rfl
attribute [go_sem] Tryz.underlying39
@[go_sem] theorem has41 : (Tryz.prog.info? 41).isSome = true := by rw [info41]; rfl
@[go_sem] theorem cellsOf41 : Tryz.prog.cellsOf 41 = 4 := by unfold Program.cellsOf; rw [info41]; rfl
@[go_sem] theorem bytesOf41 : bytesOf Tryz.prog 41 = 32 := by unfold bytesOf; rw [info41]; rfl
@[go_sem] theorem takeVar41 (cs : List PV) : takeVar Tryz.prog 41 cs = if 4 ≤ cs.length then some (.agg (cs.take 4)) else none := by unfold takeVar isAggT; rw [Tryz.underlying41, info41]; rfl
@[go_sem] theorem partA41 (cs : List PV) (k : Nat) : partA Tryz.prog 41 cs k = if k + 4 ≤ cs.length then some (.agg ((cs.drop k).take 4)) else none := by unfold partA isAggT; rw [Tryz.underlying41, info41]; rfl
@[go_sem] theorem zeroA41 : zeroA Tryz.prog 41 = some (.agg [(.int IntKind.i64 0), (.int IntKind.i64 0), (.int IntKind.i64 0), (.int IntKind.i64 0)]) := by unfold zeroA; rw [info41]; rfl
@[go_sem] theorem zeroOk41 : zeroOk Tryz.prog 41 = true := by unfold zeroOk; rw [zeroA41, cellsOf41]; rfl
@[go_sem] theorem field41_0 : fieldInfo Tryz.prog 41 0 = some (0, 3) := by unfold fieldInfo; rw [Tryz.underlying41]; show (match Tryz.prog.info? 3 with | some i => if i.size = 0 then none else some (0, 3) | none => none) = _; rw [info3]; rfl
@[go_sem] theorem field41_1 : fieldInfo Tryz.prog 41 1 = some (1, 3) := by unfold fieldInfo; rw [Tryz.underlying41]; show (match Tryz.prog.info? 3 with | some i => if i.size = 0 then none else some (1, 3) | none => none) = _; rw [info3]; rfl
@[go_sem] theorem field41_2 : fieldInfo Tryz.prog 41 2 = some (2, 39) := by unfold fieldInfo; rw [Tryz.underlying41]; show (match Tryz.prog.info? 39 with | some i => if i.size = 0 then none else some (2, 39) | none => none) = _; rw [info39]; rfl
attribute [go_sem] Tryz.underlying41
@[go_sem] theorem has42 : (Tryz.prog.info? 42).isSome = true := by rw [info42]; rfl
@[go_sem] theorem cellsOf42 : Tryz.prog.cellsOf 42 = 1 := by unfold Program.cellsOf; rw [info42]; rfl
@[go_sem] theorem bytesOf42 : bytesOf Tryz.prog 42 = 8 := by unfold bytesOf; rw [info42]; rfl
@[go_sem] theorem takeVar42 (cs : List PV) : takeVar Tryz.prog 42 cs = cs[0]? := by unfold takeVar isAggT; rw [Tryz.underlying42, info42]
@[go_sem] theorem partA42 (cs : List PV) (k : Nat) : partA Tryz.prog 42 cs k = cs[k]? := by unfold partA isAggT; rw [Tryz.underlying42, info42]
@[go_sem] theorem zeroA42 : zeroA Tryz.prog 42 = some .nilfn := by unfold zeroA; rw [info42]; rfl
@[go_sem] theorem zeroOk42 : zeroOk Tryz.prog 42 = true := by unfold zeroOk; rw [zeroA42, cellsOf42]; rfl
attribute [go_sem] Tryz.underlying42
@[go_sem] theorem has44 : (Tryz.prog.info? 44).isSome = true := by rw [info44]; rfl
@[go_sem] theorem cellsOf44 : Tryz.prog.cellsOf 44 = 1 := by unfold Program.cellsOf; rw [info44]; rfl
@[go_sem] theorem bytesOf44 : bytesOf Tryz.prog 44 = 24 := by unfold bytesOf; rw [info44]; rfl
@[go_sem] theorem takeVar44 (cs : List PV) : takeVar Tryz.prog 44 cs = cs[0]? := by unfold takeVar isAggT; rw [Tryz.underlying44, info44]
@[go_sem] theorem partA44 (cs : List PV) (k : Nat) : partA Tryz.prog 44 cs k = cs[k]? := by unfold partA isAggT; rw [Tryz.underlying44, info44]
@[go_sem] theorem zeroA44 : zeroA Tryz.prog 44 = some .emp := by unfold zeroA; rw [info44]; rfl
@[go_sem] theorem zeroOk44 : zeroOk Tryz.prog 44 = true := by unfold zeroOk; rw [zeroA44, cellsOf44]; rfl
attribute [go_sem] Tryz.underlying44
@[go_sem] theorem has46 : (Tryz.prog.info? 46).isSome = true := by rw [info46]; rfl
@[go_sem] theorem cellsOf46 : Tryz.prog.cellsOf 46 = 5 := by unfold Program.cellsOf; rw [info46]; rfl
@[go_sem] theorem bytesOf46 : bytesOf Tryz.prog 46 = 56 := by unfold bytesOf; rw [info46]; rfl
@[go_sem] theorem takeVar46 (cs : List PV) : takeVar Tryz.prog 46 cs = if 5 ≤ cs.length then some (.agg (cs.take 5)) else none := by unfold takeVar isAggT; rw [Tryz.underlying46, info46]; rfl
@[go_sem] theorem partA46 (cs : List PV) (k : Nat) : partA Tryz.prog 46 cs k = if k + 5 ≤ cs.length then some (.agg ((cs.drop k).take 5)) else none := by unfold partA isAggT; rw [Tryz.underlying46, info46]; rfl
@[go_sem] theorem zeroA46 : zeroA Tryz.prog 46 = some (.agg [(.int IntKind.i64 0), (.int IntKind.i64 0), (.int IntKind.i64 0), (.int IntKind.i64 0), .emp]) := by unfold zeroA; rw [info46]; rfl
@[go_sem] theorem zeroOk46 : zeroOk Tryz.prog 46 = true := by unfold zeroOk; rw [zeroA46, cellsOf46]; rfl
@[go_sem] theorem field46_0 : fieldInfo Tryz.prog 46 0 = some (0, 3) := by unfold fieldInfo; rw [Tryz.underlying46]; show (match Tryz.prog.info? 3 with | some i => if i.size = 0 then none else some (0, 3) | none => none) = _; rw [info3]; rfl
@[go_sem] theorem field46_1 : fieldInfo Tryz.prog 46 1 = some (1, 3) := by unfold fieldInfo; rw [Tryz.underlying46]; show (match Tryz.prog.info? 3 with | some i => if i.size = 0 then none else some (1, 3) | none => none) = _; rw [info3]; rfl
@[go_sem] theorem field46_2 : fieldInfo Tryz.prog 46 2 = some (2, 39) := by unfold fieldInfo; rw [Tryz.underlying46]; show (match Tryz.prog.info? 39 with | some i => if i.size = 0 then none else some (2, 39) | none => none) = _; rw [info39]; rfl
@[go_sem] theorem field46_3 : fieldInfo Tryz.prog 46 3 = some (4, 44) := by unfold fieldInfo; rw [Tryz.underlying46]; show (match Tryz.prog.info? 44 with | some i => if i.size = 0 then none else some (4, 44) | none => none) = _; rw [info44]; rfl
attribute [go_sem] Tryz.underlying46
@[go_sem] theorem has47 : (Tryz.prog.info? 47).isSome = true := by rw [info47]; rfl
@[go_sem] theorem cellsOf47 : Tryz.prog.cellsOf 47 = 7 := by unfold Program.cellsOf; rw [info47]; rfl
@[go_sem] theorem bytesOf47 : bytesOf Tryz.prog 47 = 104 := by unfold bytesOf; rw [info47]; rfl
@[go_sem] theorem takeVar47 (cs : List PV) : takeVar Tryz.prog 47 cs = if 7 ≤ cs.length then some (.agg (cs.take 7)) else none := by unfold takeVar isAggT; rw [Tryz.underlying47, info47]; rfl
@[go_sem] theorem partA47 (cs : List PV) (k : Nat) : partA Tryz.prog 47 cs k = if k + 7 ≤ cs.length then some (.agg ((cs.drop k).take 7)) else none := by unfold partA isAggT; rw [Tryz.underlying47, info47]; rfl
@[go_sem] theorem zeroA47 : zeroA Tryz.prog 47 = some (.agg [.emp, .emp, (.int IntKind.i64 0), (.int IntKind.i64 0), (.int IntKind.i64 0), (.int IntKind.i64 0), .emp]) := by unfold zeroA; rw [info47]; rfl
@[go_sem] theorem zeroOk47 : zeroOk Tryz.prog 47 = true := by unfold zeroOk; rw [zeroA47, cellsOf47]; rfl
@[go_sem] theorem field47_0 : fieldInfo Tryz.prog 47 0 = some (0, 30) := by unfold fieldInfo; rw [Tryz.underlying47]; show (match Tryz.prog.info? 30 with | some i => if i.size = 0 then none else some (0, 30) | none => none) = _; rw [info30]; rfl
@[go_sem] theorem field47_1 : fieldInfo Tryz.prog 47 1 = some (1, 30) := by unfold fieldInfo; rw [Tryz.underlying47]; show (match Tryz.prog.info? 30 with | some i => if i.size = 0 then none else some (1, 30) | none => none) = _; rw [info30]; rfl
@[go_sem] theorem field47_2 : fieldInfo Tryz.prog 47 2 = some (2, 46) := by unfold fieldInfo; rw [Tryz.underlying47]; show (match Tryz.prog.info? 46 with | some i => if i.size = 0 then none else some (2, 46) | none => none) = _; rw [info46]; rfl
attribute [go_sem] Tryz.underlying47
@[go_sem] theorem has48 : (Tryz.prog.info? 48).isSome = true := by rw [info48]; rfl
@[go_sem] theorem cellsOf48 : Tryz.prog.cellsOf 48 = 7 := by unfold Program.cellsOf; rw [info48]; rfl
@[go_sem] theorem bytesOf48 : bytesOf Tryz.prog 48 = 104 := by unfold bytesOf; rw [info48]; rfl
@[go_sem] theorem takeVar48 (cs : List PV) : takeVar Tryz.prog 48 cs = if 7 ≤ cs.length then some (.agg (cs.take 7)) else none := by unfold takeVar isAggT; rw [Tryz.underlying48, info48]; rfl
@[go_sem] theorem partA48 (cs : List PV) (k : Nat) : partA Tryz.prog 48 cs k = if k + 7 ≤ cs.length then some (.agg ((cs.drop k).take 7)) else none := by unfold partA isAggT; rw [Tryz.underlying48, info48]; rfl
@[go_sem] theorem zeroA48 : zeroA Tryz.prog 48 = some (.agg [.emp, .emp, (.int IntKind.i64 0), (.int IntKind.i64 0), (.int IntKind.i64 0), (.int IntKind.i64 0), .emp]) := by unfold zeroA; rw [info48]; rfl
@[go_sem] theorem zeroOk48 : zeroOk Tryz.prog 48 = true := by unfold zeroOk; rw [zeroA48, cellsOf48]; rfl
@[go_sem] theorem field48_0 : fieldInfo Tryz.prog 48 0 = some (0, 30) := by unfold fieldInfo; rw [Tryz.underlying48]; show (match Tryz.prog.info? 30 with | some i => if i.size = 0 then none else some (0, 30) | none => none) = _; rw [info30]; rfl
@[go_sem] theorem field48_1 : fieldInfo Tryz.prog 48 1 = some (1, 30) := by unfold fieldInfo; rw [Tryz.underlying48]; show (match Tryz.prog.info? 30 with | some i => if i.size = 0 then none else some (1, 30) | none => none) = _; rw [info30]; rfl
@[go_sem] theorem field48_2 : fieldInfo Tryz.prog 48 2 = some (2, 46) := by unfold fieldInfo; rw [Tryz.underlying48]; show (match Tryz.prog.info? 46 with | some i => if i.size = 0 then none else some (2, 46) | none => none) = _; rw [info46]; rfl
attribute [go_sem] Tryz.underlying48
@[go_sem] theorem has49 : (Tryz.prog.info? 49).isSome = true := by rw [info49]; rfl
@[go_sem] theorem cellsOf49 : Tryz.prog.cellsOf 49 = 1 := by unfold Program.cellsOf; rw [info49]; rfl
@[go_sem] theorem bytesOf49 : bytesOf Tryz.prog 49 = 8 := by unfold bytesOf; rw [info49]; rfl
@[go_sem] theorem takeVar49 (cs : List PV) : takeVar Tryz.prog 49 cs = cs[0]? := by unfold takeVar isAggT; rw [Tryz.underlying49, info49]
@[go_sem] theorem partA49 (cs : List PV) (k : Nat) : partA Tryz.prog 49 cs k = cs[k]? := by unfold partA isAggT; rw [Tryz.underlying49, info49]
@[go_sem] theorem zeroA49 : zeroA Tryz.prog 49 = some .nilfn := by unfold zeroA; rw [info49]; rfl
@[go_sem] theorem zeroOk49 : zeroOk Tryz.prog 49 = true := by unfold zeroOk; rw [zeroA49, cellsOf49]; rfl
attribute [go_sem] Tryz.underlying49
@[go_sem] theorem has50 : (Tryz.prog.info? 50).isSome = true := by rw [info50]; rfl
@[go_sem] theorem cellsOf50 : Tryz.prog.cellsOf 50 = 1 := by unfold Program.cellsOf; rw [info50]; rfl
@[go_sem] theorem bytesOf50 : bytesOf Tryz.prog 50 = 8 := by unfold bytesOf; rw [info50]; rfl
@[go_sem] theorem takeVar50 (cs : List PV) : takeVar Tryz.prog 50 cs = cs[0]? := by unfold takeVar isAggT; rw [Tryz.underlying50, info50]
@[go_sem] theorem partA50 (cs : List PV) (k : Nat) : partA Tryz.prog 50 cs k = cs[k]? := by unfold partA isAggT; rw [Tryz.underlying50, info50]
@[go_sem] theorem zeroA50 : zeroA Tryz.prog 50 = some .nilfn := by unfold zeroA; rw [info50]; rfl
@[go_sem] theorem zeroOk50 : zeroOk Tryz.prog 50 = true := by unfold zeroOk; rw [zeroA50, cellsOf50]; rfl
attribute [go_sem] Tryz.underlying50
@[go_sem] theorem has51 : (Tryz.prog.info? 51).isSome = true := by rw [info51]; rfl
@[go_sem] theorem cellsOf51 : Tryz.prog.cellsOf 51 = 1 := by unfold Program.cellsOf; rw [info51]; rfl
@[go_sem] theorem bytesOf51 : bytesOf Tryz.prog 51 = 8 := by unfold bytesOf; rw [info51]; rfl
@[go_sem] theorem takeVar51 (cs : List PV) : takeVar Tryz.prog 51 cs = cs[0]? := by unfold takeVar isAggT; rw [Tryz.underlying51, info51]
@[go_sem] theorem partA51 (cs : List PV) (k : Nat) : partA Tryz.prog 51 cs k = cs[k]? := by unfold partA isAggT; rw [Tryz.underlying51, info51]
@[go_sem] theorem zeroA51 : zeroA Tryz.prog 51 = some .nilfn := by unfold zeroA; rw [info51]; rfl
@[go_sem] theorem zeroOk51 : zeroOk Tryz.prog 51 = true := by unfold zeroOk; rw [zeroA51, cellsOf51]; rfl
attribute [go_sem] Tryz.underlying51
@[go_sem] theorem has53 : (Tryz.prog.info? 53).isSome = true := by rw [info53]; rfl
@[go_sem] theorem cellsOf53 : Tryz.prog.cellsOf 53 = 1 := by unfold Program.cellsOf; rw [info53]; rfl
@[go_sem] theorem bytesOf53 : bytesOf Tryz.prog 53 = 8 := by unfold bytesOf; rw [info53]; rfl
@[go_sem] theorem takeVar53 (cs : List PV) : takeVar Tryz.prog 53 cs = cs[0]? := by unfold takeVar isAggT; rw [Tryz.underlying53, info53]
@[go_sem] theorem partA53 (cs : List PV) (k : Nat) : partA Tryz.prog 53 cs k = cs[k]? := by unfold partA isAggT; rw [Tryz.underlying53, info53]
@[go_sem] theorem zeroA53 : zeroA Tryz.prog 53 = some .nilfn := by unfold zeroA; rw [info53]; rfl
@[go_sem] theorem zeroOk53 : zeroOk Tryz.prog 53 = true := by unfold zeroOk; rw [zeroA53, cellsOf53]; rfl
attribute [go_sem] Tryz.underlying53
@[go_sem] theorem has54 : (Tryz.prog.info? 54).isSome = true := by rw [info54]; rfl
@[go_sem] theorem cellsOf54 : Tryz.prog.cellsOf 54 = 1 := by unfold Program.cellsOf; rw [info54]; rfl
@[go_sem] theorem bytesOf54 : bytesOf Tryz.prog 54 = 8 := by unfold bytesOf; rw [info54]; rfl
@[go_sem] theorem takeVar54 (cs : List PV) : takeVar Tryz.prog 54 cs = cs[0]? := by unfold takeVar isAggT; rw [Tryz.underlying54, info54]
@[go_sem] theorem partA54 (cs : List PV) (k : Nat) : partA Tryz.prog 54 cs k = cs[k]? := by unfold partA isAggT; rw [Tryz.underlying54, info54]
@[go_sem] theorem zeroA54 : zeroA Tryz.prog 54 = some .nilfn := by unfold zeroA; rw [info54]; rfl
@[go_sem] theorem zeroOk54 : zeroOk Tryz.prog 54 = true := by unfold zeroOk; rw [zeroA54, cellsOf54]; rfl
attribute [go_sem] Tryz.underlying54
@[go_sem] theorem has58 : (Tryz.prog.info? 58).isSome = true := by rw [info58]; rfl
@[go_sem] theorem cellsOf58 : Tryz.prog.cellsOf 58 = 1 := by unfold Program.cellsOf; rw [info58]; rfl
@[go_sem] theorem bytesOf58 : bytesOf Tryz.prog 58 = 8 := by unfold bytesOf; rw [info58]; rfl
@[go_sem] theorem takeVar58 (cs : List PV) : takeVar Tryz.prog 58 cs = cs[0]? := by unfold takeVar isAggT; rw [Tryz.underlying58, info58]
@[go_sem] theorem partA58 (cs : List PV) (k : Nat) : partA Tryz.prog 58 cs k = cs[k]? := by unfold partA isAggT; rw [Tryz.underlying58, info58]
@[go_sem] theorem zeroA58 : zeroA Tryz.prog 58 = some .nilfn := by unfold zeroA; rw [info58]; rfl
@[go_sem] theorem zeroOk58 : zeroOk Tryz.prog 58 = true := by unfold zeroOk; rw [zeroA58, cellsOf58]; rfl
attribute [go_sem] Tryz.underlying58
@[go_sem] theorem has59 : (Tryz.prog.info? 59).isSome = true := by rw [info59]; rfl
@[go_sem] theorem cellsOf59 : Tryz.prog.cellsOf 59 = 1 := by unfold Program.cellsOf; rw [info59]; rfl
@[go_sem] theorem bytesOf59 : bytesOf Tryz.prog 59 = 24 := by unfold bytesOf; rw [info59]; rfl
@[go_sem] theorem takeVar59 (cs : List PV) : takeVar Tryz.prog 59 cs = cs[0]? := by unfold takeVar isAggT; rw [Tryz.underlying59, info59]
@[go_sem] theorem partA59 (cs : List PV) (k : Nat) : partA Tryz.prog 59 cs k = cs[k]? := by unfold partA isAggT; rw [Tryz.underlying59, info59]
@[go_sem] theorem zeroA59 : zeroA Tryz.prog 59 = some .emp := by unfold zeroA; rw [info59]; rfl
@[go_sem] theorem zeroOk59 : zeroOk Tryz.prog 59 = true := by unfold zeroOk; rw [zeroA59, cellsOf59]; rfl
attribute [go_sem] Tryz.underlying59
@[go_sem] theorem has60 : (Tryz.prog.info? 60).isSome = true := by rw [info60]; rfl
@[go_sem] theorem cellsOf60 : Tryz.prog.cellsOf 60 = 1 := by unfold Program.cellsOf; rw [info60]; rfl
@[go_sem] theorem bytesOf60 : bytesOf Tryz.prog 60 = 8 := by unfold bytesOf; rw [info60]; rfl
@[go_sem] theorem takeVar60 (cs : List PV) : takeVar Tryz.prog 60 cs = cs[0]? := by unfold takeVar isAggT; rw [Tryz.underlying60, info60]
@[go_sem] theorem partA60 (cs : List PV) (k : Nat) : partA Tryz.prog 60 cs k = cs[k]? := by unfold partA isAggT; rw [Tryz.underlying60, info60]
@[go_sem] theorem zeroA60 : zeroA Tryz.prog 60 = some .nilfn := by unfold zeroA; rw [info60]; rfl
@[go_sem] theorem zeroOk60 : zeroOk Tryz.prog 60 = true := by unfold zeroOk; rw [zeroA60, cellsOf60]; rfl
attribute [go_sem] Tryz.underlying60
@[go_sem] theorem has61 : (Tryz.prog.info? 61).isSome = true := by rw [info61]; rfl
@[go_sem] theorem cellsOf61 : Tryz.prog.cellsOf 61 = 1 := by unfold Program.cellsOf; rw [info61]; rfl
@[go_sem] theorem has63 : (Tryz.prog.info? 63).isSome = true := by rw [info63]; rfl
@[go_sem] theorem cellsOf63 : Tryz.prog.cellsOf 63 = 1 := by unfold Program.cellsOf; rw [info63]; rfl
@[go_sem] theorem bytesOf63 : bytesOf Tryz.prog 63 = 8 := by unfold bytesOf; rw [info63]; rfl
@[go_sem] theorem takeVar63 (cs : List PV) : takeVar Tryz.prog 63 cs = cs[0]? := by unfold takeVar isAggT; rw [Tryz.underlying63, info63]
@[go_sem] theorem partA63 (cs : List PV) (k : Nat) : partA Tryz.prog 63 cs k = cs[k]? := by unfold partA isAggT; rw [Tryz.underlying63, info63]
@[go_sem] theorem zeroA63 : zeroA Tryz.prog 63 = some .nilfn := by unfold zeroA; rw [info63]; rfl
@[go_sem] theorem zeroOk63 : zeroOk Tryz.prog 63 = true := by unfold zeroOk; rw [zeroA63, cellsOf63]; rfl
attribute [go_sem] Tryz.underlying63
@[go_sem] theorem has64 : (Tryz.prog.info? 64).isSome = true := by rw [info64]; rfl
@[go_sem] theorem cellsOf64 : Tryz.prog.cellsOf 64 = 1 := by unfold Program.cellsOf; rw [info64]; rfl
@[go_sem] theorem bytesOf64 : bytesOf Tryz.prog 64 = 8 := by unfold bytesOf; rw [info64]; rfl
@[go_sem] theorem takeVar64 (cs : List PV) : takeVar Tryz.prog 64 cs = cs[0]? := by unfold takeVar isAggT; rw [Tryz.underlying64, info64]
@[go_sem] theorem partA64 (cs : List PV) (k : Nat) : partA Tryz.prog 64 cs k = cs[k]? := by unfold partA isAggT; rw [Tryz.underlying64, info64]
@[go_sem] theorem zeroA64 : zeroA Tryz.prog 64 = some .nilfn := by unfold zeroA; rw [info64]; rfl
@[go_sem] theorem zeroOk64 : zeroOk Tryz.prog 64 = true := by unfold zeroOk; rw [zeroA64, cellsOf64]; rfl
attribute [go_sem] Tryz.underlying64
@[go_sem] theorem has66 : (Tryz.prog.info? 66).isSome = true := by rw [info66]; rfl
@[go_sem] theorem cellsOf66 : Tryz.prog.cellsOf 66 = 1 := by unfold Program.cellsOf; rw [info66]; rfl
@[go_sem] theorem bytesOf66 : bytesOf Tryz.prog 66 = 8 := by unfold bytesOf; rw [info66]; rfl
@[go_sem] theorem takeVar66 (cs : List PV) : takeVar Tryz.prog 66 cs = cs[0]? := by unfold takeVar isAggT; rw [Tryz.underlying66, info66]
@[go_sem] theorem partA66 (cs : List PV) (k : Nat) : partA Tryz.prog 66 cs k = cs[k]? := by unfold partA isAggT; rw [Tryz.underlying66, info66]
@[go_sem] theorem zeroA66 : zeroA Tryz.prog 66 = some .nilfn := by unfold zeroA; rw [info66]; rfl
@[go_sem] theorem zeroOk66 : zeroOk Tryz.prog 66 = true := by unfold zeroOk; rw [zeroA66, cellsOf66]; rfl
attribute [go_sem] Tryz.underlying66
@[go_sem] theorem has67 : (Tryz.prog.info? 67).isSome = true := by rw [info67]; rfl
@[go_sem] theorem cellsOf67 : Tryz.prog.cellsOf 67 = 1 := by unfold Program.cellsOf; rw [info67]; rfl
@[go_sem] theorem bytesOf67 : bytesOf Tryz.prog 67 = 8 := by unfold bytesOf; rw [info67]; rfl
@[go_sem] theorem takeVar67 (cs : List PV) : takeVar Tryz.prog 67 cs = cs[0]? := by unfold takeVar isAggT; rw [Tryz.underlying67, info67]
@[go_sem] theorem partA67 (cs : List PV) (k : Nat) : partA Tryz.prog 67 cs k = cs[k]? := by unfold partA isAggT; rw [Tryz.underlying67, info67]
@[go_sem] theorem zeroA67 : zeroA Tryz.prog 67 = some .nilp := by unfold zeroA; rw [info67]; rfl
@[go_sem] theorem zeroOk67 : zeroOk Tryz.prog 67 = true := by unfold zeroOk; rw [zeroA67, cellsOf67]; rfl
attribute [go_sem] Tryz.underlying67
@[go_sem] theorem has70 : (Tryz.prog.info? 70).isSome = true := by rw [info70]; rfl
@[go_sem] theorem cellsOf70 : Tryz.prog.cellsOf 70 = 1 := by unfold Program.cellsOf; rw [info70]; rfl
@[go_sem] theorem bytesOf70 : bytesOf Tryz.prog 70 = 8 := by unfold bytesOf; rw [info70]; rfl
@[go_sem] theorem takeVar70 (cs : List PV) : takeVar Tryz.prog 70 cs = cs[0]? := by unfold takeVar isAggT; rw [Tryz.underlying70, info70]
@[go_sem] theorem partA70 (cs : List PV) (k : Nat) : partA Tryz.prog 70 cs k = cs[k]? := by unfold partA isAggT; rw [Tryz.underlying70, info70]
@[go_sem] theorem zeroA70 : zeroA Tryz.prog 70 = some .nilfn := by unfold zeroA; rw [info70]; rfl
@[go_sem] theorem zeroOk70 : zeroOk Tryz.prog 70 = true := by unfold zeroOk; rw [zeroA70, cellsOf70]; rfl
attribute [go_sem] Tryz.underlying70
@[go_sem] theorem has71 : (Tryz.prog.info? 71).isSome = true := by rw [info71]; rfl
@[go_sem] theorem cellsOf71 : Tryz.prog.cellsOf 71 = 1 := by unfold Program.cellsOf; rw [info71]; rfl
@[go_sem] theorem bytesOf71 : bytesOf Tryz.prog 71 = 8 := by unfold bytesOf; rw [info71]; rfl
@[go_sem] theorem takeVar71 (cs : List PV) : takeVar Tryz.prog 71 cs = cs[0]? := by unfold takeVar isAggT; rw [Tryz.underlying71, info71]
@[go_sem] theorem partA71 (cs : List PV) (k : Nat) : partA Tryz.prog 71 cs k = cs[k]? := by unfold partA isAggT; rw [Tryz.underlying71, info71]
@[go_sem] theorem zeroA71 : zeroA Tryz.prog 71 = some .nilfn := by unfold zeroA; rw [info71]; rfl
@[go_sem] theorem zeroOk71 : zeroOk Tryz.prog 71 = true := by unfold zeroOk; rw [zeroA71, cellsOf71]; rfl
attribute [go_sem] Tryz.underlying71
@[go_sem] theorem has74 : (Tryz.prog.info? 74).isSome = true := by rw [info74]; rfl
@[go_sem] theorem cellsOf74 : Tryz.prog.cellsOf 74 = 1 := by unfold Program.cellsOf; rw [info74]; rfl
@[go_sem] theorem bytesOf74 : bytesOf Tryz.prog 74 = 8 := by unfold bytesOf; rw [info74]; rfl
@[go_sem] theorem takeVar74 (cs : List PV) : takeVar Tryz.prog 74 cs = cs[0]? := by unfold takeVar isAggT; rw [Tryz.underlying74, info74]
@[go_sem] theorem partA74 (cs : List PV) (k : Nat) : partA Tryz.prog 74 cs k = cs[k]? := by unfold partA isAggT; rw [Tryz.underlying74, info74]
@[go_sem] theorem zeroA74 : zeroA Tryz.prog 74 = some .nilp := by unfold zeroA; rw [info74]; rfl
@[go_sem] theorem zeroOk74 : zeroOk Tryz.prog 74 = true := by unfold zeroOk; rw [zeroA74, cellsOf74]; rfl
attribute [go_sem] Tryz.underlying74
@[go_sem] theorem has76 : (Tryz.prog.info? 76).isSome = true := by rw [info76]; rfl
@[go_sem] theorem cellsOf76 : Tryz.prog.cellsOf 76 = 1 := by unfold Program.cellsOf; rw [info76]; rfl
@[go_sem] theorem bytesOf76 : bytesOf Tryz.prog 76 = 8 := by unfold bytesOf; rw [info76]; rfl
@[go_sem] theorem takeVar76 (cs : List PV) : takeVar Tryz.prog 76 cs = cs[0]? := by unfold takeVar isAggT; rw [Tryz.underlying76, info76]
@[go_sem] theorem partA76 (cs : List PV) (k : Nat) : partA Tryz.prog 76 cs k = cs[k]? := by unfold partA isAggT; rw [Tryz.underlying76, info76]
@[go_sem] theorem zeroA76 : zeroA Tryz.prog 76 = some .nilfn := by unfold zeroA; rw [info76]; rfl
@[go_sem] theorem zeroOk76 : zeroOk Tryz.prog 76 = true := by unfold zeroOk; rw [zeroA76, cellsOf76]; rfl
attribute [go_sem] Tryz.underlying76
@[go_sem] theorem has79 : (Tryz.prog.info? 79).isSome = true := by rw [info79]; rfl
@[go_sem] theorem cellsOf79 : Tryz.prog.cellsOf 79 = 1 := by unfold Program.cellsOf; rw [info79]; rfl
@[go_sem] theorem bytesOf79 : bytesOf Tryz.prog 79 = 8 := by unfold bytesOf; rw [info79]; rfl
@[go_sem] theorem takeVar79 (cs : List PV) : takeVar Tryz.prog 79 cs = cs[0]? := by unfold takeVar isAggT; rw [Tryz.underlying79, info79]
@[go_sem] theorem partA79 (cs : List PV) (k : Nat) : partA Tryz.prog 79 cs k = cs[k]? := by unfold partA isAggT; rw [Tryz.underlying79, info79]
@[go_sem] theorem zeroA79 : zeroA Tryz.prog 79 = some .nilfn := by unfold zeroA; rw [info79]; rfl
@[go_sem] theorem zeroOk79 : zeroOk Tryz.prog 79 = true := by unfold zeroOk; rw [zeroA79, cellsOf79]; rfl
attribute [go_sem] Tryz.underlying79
@[go_sem] theorem has85 : (Tryz.prog.info? 85).isSome = true := by rw [info85]; rfl
@[go_sem] theorem cellsOf85 : Tryz.prog.cellsOf 85 = 1 := by unfold Program.cellsOf; rw [info85]; rfl
@[go_sem] theorem bytesOf85 : bytesOf Tryz.prog 85 = 8 := by unfold bytesOf; rw [info85]; rfl
@[go_sem] theorem takeVar85 (cs : List PV) : takeVar Tryz.prog 85 cs = cs[0]? := by unfold takeVar isAggT; rw [Tryz.underlying85, info85]
@[go_sem] theorem partA85 (cs : List PV) (k : Nat) : partA Tryz.prog 85 cs k = cs[k]? := by unfold partA isAggT; rw [Tryz.underlying85, info85]
@[go_sem] theorem zeroA85 : zeroA Tryz.prog 85 = some .nilfn := by unfold zeroA; rw [info85]; rfl
@[go_sem] theorem zeroOk85 : zeroOk Tryz.prog 85 = true := by unfold zeroOk; rw [zeroA85, cellsOf85]; rfl
attribute [go_sem] Tryz.underlying85
@[go_sem] theorem has86 : (Tryz.prog.info? 86).isSome = true := by rw [info86]; rfl
@[go_sem] theorem cellsOf86 : Tryz.prog.cellsOf 86 = 1 := by unfold Program.cellsOf; rw [info86]; rfl
@[go_sem] theorem bytesOf86 : bytesOf Tryz.prog 86 = 8 := by unfold bytesOf; rw [info86]; rfl
@[go_sem] theorem takeVar86 (cs : List PV) : takeVar Tryz.prog 86 cs = cs[0]? := by unfold takeVar isAggT; rw [Tryz.underlying86, info86]
@[go_sem] theorem partA86 (cs : List PV) (k : Nat) : partA Tryz.prog 86 cs k = cs[k]? := by unfold partA isAggT; rw [Tryz.underlying86, info86]
@[go_sem] theorem zeroA86 : zeroA Tryz.prog 86 = some .nilfn := by unfold zeroA; rw [info86]; rfl
@[go_sem] theorem zeroOk86 : zeroOk Tryz.prog 86 = true := by unfold zeroOk; rw [zeroA86, cellsOf86]; rfl
attribute [go_sem] Tryz.underlying86
@[go_sem] theorem has87 : (Tryz.prog.info? 87).isSome = true := by rw [info87]; rfl
@[go_sem] theorem cellsOf87 : Tryz.prog.cellsOf 87 = 1 := by unfold Program.cellsOf; rw [info87]; rfl
@[go_sem] theorem bytesOf87 : bytesOf Tryz.prog 87 = 8 := by unfold bytesOf; rw [info87]; rfl
@[go_sem] theorem takeVar87 (cs : List PV) : takeVar Tryz.prog 87 cs = cs[0]? := by unfold takeVar isAggT; rw [Tryz.underlying87, info87]
@[go_sem] theorem partA87 (cs : List PV) (k : Nat) : partA Tryz.prog 87 cs k = cs[k]? := by unfold partA isAggT; rw [Tryz.underlying87, info87]
@[go_sem] theorem zeroA87 : zeroA Tryz.prog 87 = some .nilfn := by unfold zeroA; rw [info87]; rfl
@[go_sem] theorem zeroOk87 : zeroOk Tryz.prog 87 = true := by unfold zeroOk; rw [zeroA87, cellsOf87]; rfl
attribute [go_sem] Tryz.underlying87
@[go_sem] theorem has88 : (Tryz.prog.info? 88).isSome = true := by rw [info88]; rfl
@[go_sem] theorem cellsOf88 : Tryz.prog.cellsOf 88 = 1 := by unfold Program.cellsOf; rw [info88]; rfl
@[go_sem] theorem bytesOf88 : bytesOf Tryz.prog 88 = 8 := by unfold bytesOf; rw [info88]; rfl
@[go_sem] theorem takeVar88 (cs : List PV) : takeVar Tryz.prog 88 cs = cs[0]? := by unfold takeVar isAggT; rw [Tryz.underlying88, info88]
@[go_sem] theorem partA88 (cs : List PV) (k : Nat) : partA Tryz.prog 88 cs k = cs[k]? := by unfold partA isAggT; rw [Tryz.underlying88, info88]
@[go_sem] theorem zeroA88 : zeroA Tryz.prog 88 = some .nilfn := by unfold zeroA; rw [info88]; rfl
@[go_sem] theorem zeroOk88 : zeroOk Tryz.prog 88 = true := by unfold zeroOk; rw [zeroA88, cellsOf88]; rfl
attribute [go_sem] Tryz.underlying88
@[go_sem] theorem has89 : (Tryz.prog.info? 89).isSome = true := by rw [info89]; rfl
@[go_sem] theorem cellsOf89 : Tryz.prog.cellsOf 89 = 1 := by unfold Program.cellsOf; rw [info89]; rfl
@[go_sem] theorem bytesOf89 : bytesOf Tryz.prog 89 = 8 := by unfold bytesOf; rw [info89]; rfl
@[go_sem] theorem takeVar89 (cs : List PV) : takeVar Tryz.prog 89 cs = cs[0]? := by unfold takeVar isAggT; rw [Tryz.underlying89, info89]
@[go_sem] theorem partA89 (cs : List PV) (k : Nat) : partA Tryz.prog 89 cs k = cs[k]? := by unfold partA isAggT; rw [Tryz.underlying89, info89]
@[go_sem] theorem zeroA89 : zeroA Tryz.prog 89 = some (.int IntKind.u64 0) := by unfold zeroA; rw [info89]; rfl
@[go_sem] theorem zeroOk89 : zeroOk Tryz.prog 89 = true := by unfold zeroOk; rw [zeroA89, cellsOf89]; rfl
attribute [go_sem] Tryz.underlying89
@[go_sem] theorem has90 : (Tryz.prog.info? 90).isSome = true := by rw [info90]; rfl
@[go_sem] theorem cellsOf90 : Tryz.prog.cellsOf 90 = 1 := by unfold Program.cellsOf; rw [info90]; rfl
@[go_sem] theorem bytesOf90 : bytesOf Tryz.prog 90 = 8 := by unfold bytesOf; rw [info90]; rfl
@[go_sem] theorem takeVar90 (cs : List PV) : takeVar Tryz.prog 90 cs = cs[0]? := by unfold takeVar isAggT; rw [Tryz.underlying90, info90]
@[go_sem] theorem partA90 (cs : List PV) (k : Nat) : partA Tryz.prog 90 cs k = cs[k]? := by unfold partA isAggT; rw [Tryz.underlying90, info90]
@[go_sem] theorem zeroA90 : zeroA Tryz.prog 90 = some (.int IntKind.u64 0) := by unfold zeroA; rw [info90]; rfl
@[go_sem] theorem zeroOk90 : zeroOk Tryz.prog 90 = true := by unfold zeroOk; rw [zeroA90, cellsOf90]; rfl
attribute [go_sem] Tryz.underlying90
@[go_sem] theorem has91 : (Tryz.prog.info? 91).isSome = true := by rw [info91]; rfl
@[go_sem] theorem cellsOf91 : Tryz.prog.cellsOf 91 = 6 := by unfold Program.cellsOf; rw [info91]; rfl
@[go_sem] theorem bytesOf91 : bytesOf Tryz.prog 91 = 6 := by unfold bytesOf; rw [info91]; rfl
@[go_sem] theorem takeVar91 (cs : List PV) : takeVar Tryz.prog 91 cs = if 6 ≤ cs.length then some (.agg (cs.take 6)) else none := by unfold takeVar isAggT; rw [Tryz.underlying91, info91]; rfl
@[go_sem] theorem partA91 (cs : List PV) (k : Nat) : partA Tryz.prog 91 cs k = if k + 6 ≤ cs.length then some (.agg ((cs.drop k).take 6)) else none := by unfold partA isAggT; rw [Tryz.underlying91, info91]; rfl
@[go_sem] theorem zeroA91 : zeroA Tryz.prog 91 = some (.agg [(.bool false), (.bool false), (.bool false), (.bool false), (.bool false), (.bool false)]) := by unfold zeroA; rw [info91]; rfl
@[go_sem] theorem zeroOk91 : zeroOk Tryz.prog 91 = true := by unfold zeroOk; rw [zeroA91, cellsOf91]; rfl
attribute [go_sem] Tryz.underlying91
@[go_sem] theorem has93 : (Tryz.prog.info? 93).isSome = true := by rw [info93]; rfl
@[go_sem] theorem cellsOf93 : Tryz.prog.cellsOf 93 = 8 := by unfold Program.cellsOf; rw [info93]; rfl
@[go_sem] theorem bytesOf93 : bytesOf Tryz.prog 93 = 24 := by unfold bytesOf; rw [info93]; rfl
@[go_sem] theorem takeVar93 (cs : List PV) : takeVar Tryz.prog 93 cs = if 8 ≤ cs.length then some (.agg (cs.take 8)) else none := by unfold takeVar isAggT; rw [Tryz.underlying93, info93]; rfl
@[go_sem] theorem partA93 (cs : List PV) (k : Nat) : partA Tryz.prog 93 cs k = if k + 8 ≤ cs.length then some (.agg ((cs.drop k).take 8)) else none := by unfold partA isAggT; rw [Tryz.underlying93, info93]; rfl
@[go_sem] theorem zeroA93 : zeroA Tryz.prog 93 = some (.agg [(.int IntKind.u64 0), (.int IntKind.u64 0), (.bool false), (.bool false), (.bool false), (.bool false), (.bool false), (.bool false)]) := by unfold zeroA; rw [info93]; rfl
@[go_sem] theorem zeroOk93 : zeroOk Tryz.prog 93 = true := by unfold zeroOk; rw [zeroA93, cellsOf93]; rfl
@[go_sem] theorem field93_0 : fieldInfo Tryz.prog 93 0 = some (0, 90) := by unfold fieldInfo; rw [Tryz.underlying93]; show (match Tryz.prog.info? 90 with | some i => if i.size = 0 then none else some (0, 90) | none => none) = _; rw [info90]; rfl
@[go_sem] theorem field93_1 : fieldInfo Tryz.prog 93 1 = some (1, 90) := by unfold fieldInfo; rw [Tryz.underlying93]; show (match Tryz.prog.info? 90 with | some i => if i.size = 0 then none else some (1, 90) | none => none) = _; rw [info90]; rfl
@[go_sem] theorem field93_2 : fieldInfo Tryz.prog 93 2 = some (2, 91) := by unfold fieldInfo; rw [Tryz.underlying93]; show (match Tryz.prog.info? 91 with | some i => if i.size = 0 then none else some (2, 91) | none => none) = _; rw [info91]; rfl
attribute [go_sem] Tryz.underlying93
@[go_sem] theorem has94 : (Tryz.prog.info? 94).isSome = true := by rw [info94]; rfl
@[go_sem] theorem cellsOf94 : Tryz.prog.cellsOf 94 = 1 := by unfold Program.cellsOf; rw [info94]; rfl
@[go_sem] theorem bytesOf94 : bytesOf Tryz.prog 94 = 8 := by unfold bytesOf; rw [info94]; rfl
@[go_sem] theorem takeVar94 (cs : List PV) : takeVar Tryz.prog 94 cs = cs[0]? := by unfold takeVar isAggT; rw [Tryz.underlying94, info94]
@[go_sem] theorem partA94 (cs : List PV) (k : Nat) : partA Tryz.prog 94 cs k = cs[k]? := by unfold partA isAggT; rw [Tryz.underlying94, info94]
@[go_sem] theorem zeroA94 : zeroA Tryz.prog 94 = some .nilp := by unfold zeroA; rw [info94]; rfl
@[go_sem] theorem zeroOk94 : zeroOk Tryz.prog 94 = true := by unfold zeroOk; rw [zeroA94, cellsOf94]; rfl
attribute [go_sem] Tryz.underlying94
@[go_sem] theorem has95 : (Tryz.prog.info? 95).isSome = true := by rw [info95]; rfl
@[go_sem] theorem cellsOf95 : Tryz.prog.cellsOf 95 = 1 := by unfold Program.cellsOf; rw [info95]; rfl
@[go_sem] theorem bytesOf95 : bytesOf Tryz.prog 95 = 8 := by unfold bytesOf; rw [info95]; rfl
@[go_sem] theorem takeVar95 (cs : List PV) : takeVar Tryz.prog 95 cs = cs[0]? := by unfold takeVar isAggT; rw [Tryz.underlying95, info95]
@[go_sem] theorem partA95 (cs : List PV) (k : Nat) : partA Tryz.prog 95 cs k = cs[k]? := by unfold partA isAggT; rw [Tryz.underlying95, info95]
@[go_sem] theorem zeroA95 : zeroA Tryz.prog 95 = some .nilfn := by unfold zeroA; rw [info95]; rfl
@[go_sem] theorem zeroOk95 : zeroOk Tryz.prog 95 = true := by unfold zeroOk; rw [zeroA95, cellsOf95]; rfl
attribute [go_sem] Tryz.underlying95
@[go_sem] theorem has96 : (Tryz.prog.info? 96).isSome = true := by rw [info96]; rfl
@[go_sem] theorem cellsOf96 : Tryz.prog.cellsOf 96 = 1 := by unfold Program.cellsOf; rw [info96]; rfl
@[go_sem] theorem bytesOf96 : bytesOf Tryz.prog 96 = 8 := by unfold bytesOf; rw [info96]; rfl
@[go_sem] theorem takeVar96 (cs : List PV) : takeVar Tryz.prog 96 cs = cs[0]? := by unfold takeVar isAggT; rw [Tryz.underlying96, info96]
@[go_sem] theorem partA96 (cs : List PV) (k : Nat) : partA Tryz.prog 96 cs k = cs[k]? := by unfold partA isAggT; rw [Tryz.underlying96, info96]
@[go_sem] theorem zeroA96 : zeroA Tryz.prog 96 = some .nilfn := by unfold zeroA; rw [info96]; rfl
@[go_sem] theorem zeroOk96 : zeroOk Tryz.prog 96 = true := by unfold zeroOk; rw [zeroA96, cellsOf96]; rfl
attribute [go_sem] Tryz.underlying96
@[go_sem] theorem has97 : (Tryz.prog.info? 97).isSome = true := by rw [info97]; rfl
@[go_sem] theorem cellsOf97 : Tryz.prog.cellsOf 97 = 1 := by unfold Program.cellsOf; rw [info97]; rfl
@[go_sem] theorem bytesOf97 : bytesOf Tryz.prog 97 = 8 := by unfold bytesOf; rw [info97]; rfl
@[go_sem] theorem takeVar97 (cs : List PV) : takeVar Tryz.prog 97 cs = cs[0]? := by unfold takeVar isAggT; rw [Tryz.underlying97, info97]
@[go_sem] theorem partA97 (cs : List PV) (k : Nat) : partA Tryz.prog 97 cs k = cs[k]? := by unfold partA isAggT; rw [Tryz.underlying97, info97]
@[go_sem] theorem zeroA97 : zeroA Tryz.prog 97 = some .nilfn := by unfold zeroA; rw [info97]; rfl
@[go_sem] theorem zeroOk97 : zeroOk Tryz.prog 97 = true := by unfold zeroOk; rw [zeroA97, cellsOf97]; rfl
attribute [go_sem] Tryz.underlying97
@[go_sem] theorem has98 : (Tryz.prog.info? 98).isSome = true := by rw [info98]; rfl
@[go_sem] theorem cellsOf98 : Tryz.prog.cellsOf 98 = 1 := by unfold Program.cellsOf; rw [info98]; rfl
@[go_sem] theorem bytesOf98 : bytesOf Tryz.prog 98 = 8 := by unfold bytesOf; rw [info98]; rfl
@[go_sem] theorem takeVar98 (cs : List PV) : takeVar Tryz.prog 98 cs = cs[0]? := by unfold takeVar isAggT; rw [Tryz.underlying98, info98]
@[go_sem] theorem partA98 (cs : List PV) (k : Nat) : partA Tryz.prog 98 cs k = cs[k]? := by unfold partA isAggT; rw [Tryz.underlying98, info98]
@[go_sem] theorem zeroA98 : zeroA Tryz.prog 98 = some .nilfn := by unfold zeroA; rw [info98]; rfl
@[go_sem] theorem zeroOk98 : zeroOk Tryz.prog 98 = true := by unfold zeroOk; rw [zeroA98, cellsOf98]; rfl
attribute [go_sem] Tryz.underlying98
@[go_sem] theorem has99 : (Tryz.prog.info? 99).isSome = true := by rw [info99]; rfl
@[go_sem] theorem cellsOf99 : Tryz.prog.cellsOf 99 = 1 := by unfold Program.cellsOf; rw [info99]; rfl
@[go_sem] theorem bytesOf99 : bytesOf Tryz.prog 99 = 8 := by unfold bytesOf; rw [info99]; rfl
@[go_sem] theorem takeVar99 (cs : List PV) : takeVar Tryz.prog 99 cs = cs[0]? := by unfold takeVar isAggT; rw [Tryz.underlying99, info99]
@[go_sem] theorem partA99 (cs : List PV) (k : Nat) : partA Tryz.prog 99 cs k = cs[k]? := by unfold partA isAggT; rw [Tryz.underlying99, info99]
@[go_sem] theorem zeroA99 : zeroA Tryz.prog 99 = some .nilfn := by unfold zeroA; rw [info99]; rfl
@[go_sem] theorem zeroOk99 : zeroOk Tryz.prog 99 = true := by unfold zeroOk; rw [zeroA99, cellsOf99]; rfl
attribute [go_sem] Tryz.underlying99
@[go_sem] theorem has100 : (Tryz.prog.info? 100).isSome = true := by rw [info100]; rfl
@[go_sem] theorem cellsOf100 : Tryz.prog.cellsOf 100 = 1 := by unfold Program.cellsOf; rw [info100]; rfl
@[go_sem] theorem bytesOf100 : bytesOf Tryz.prog 100 = 8 := by unfold bytesOf; rw [info100]; rfl
@[go_sem] theorem takeVar100 (cs : List PV) : takeVar Tryz.prog 100 cs = cs[0]? := by unfold takeVar isAggT; rw [Tryz.underlying100, info100]
@[go_sem] theorem partA100 (cs : List PV) (k : Nat) : partA Tryz.prog 100 cs k = cs[k]? := by unfold partA isAggT; rw [Tryz.underlying100, info100]
@[go_sem] theorem zeroA100 : zeroA Tryz.prog 100 = some .nilfn := by unfold zeroA; rw [info100]; rfl
@[go_sem] theorem zeroOk100 : zeroOk Tryz.prog 100 = true := by unfold zeroOk; rw [zeroA100, cellsOf100]; rfl
attribute [go_sem] Tryz.underlying100
@[go_sem] theorem has101 : (Tryz.prog.info? 101).isSome = true := by rw [info101]; rfl
@[go_sem] theorem cellsOf101 : Tryz.prog.cellsOf 101 = 1 := by unfold Program.cellsOf; rw [info101]; rfl
@[go_sem] theorem bytesOf101 : bytesOf Tryz.prog 101 = 8 := by unfold bytesOf; rw [info101]; rfl
@[go_sem] theorem takeVar101 (cs : List PV) : takeVar Tryz.prog 101 cs = cs[0]? := by unfold takeVar isAggT; rw [Tryz.underlying101, info101]
@[go_sem] theorem partA101 (cs : List PV) (k : Nat) : partA Tryz.prog 101 cs k = cs[k]? := by unfold partA isAggT; rw [Tryz.underlying101, info101]
@[go_sem] theorem zeroA101 : zeroA Tryz.prog 101 = some .nilfn := by unfold zeroA; rw [info101]; rfl
@[go_sem] theorem zeroOk101 : zeroOk Tryz.prog 101 = true := by unfold zeroOk; rw [zeroA101, cellsOf101]; rfl
attribute [go_sem] Tryz.underlying101
@[go_sem] theorem has102 : (Tryz.prog.info? 102).isSome = true := by rw [info102]; rfl
@[go_sem] theorem cellsOf102 : Tryz.prog.cellsOf 102 = 1 := by unfold Program.cellsOf; rw [info102]; rfl
@[go_sem] theorem bytesOf102 : bytesOf Tryz.prog 102 = 8 := by unfold bytesOf; rw [info102]; rfl
@[go_sem] theorem takeVar102 (cs : List PV) : takeVar Tryz.prog 102 cs = cs[0]? := by unfold takeVar isAggT; rw [Tryz.underlying102, info102]
@[go_sem] theorem partA102 (cs : List PV) (k : Nat) : partA Tryz.prog 102 cs k = cs[k]? := by unfold partA isAggT; rw [Tryz.underlying102, info102]
@[go_sem] theorem zeroA102 : zeroA Tryz.prog 102 = some .nilfn := by unfold zeroA; rw [info102]; rfl
@[go_sem] theorem zeroOk102 : zeroOk Tryz.prog 102 = true := by unfold zeroOk; rw [zeroA102, cellsOf102]; rfl
attribute [go_sem] Tryz.underlying102
@[go_sem] theorem has103 : (Tryz.prog.info? 103).isSome = true := by rw [info103]; rfl
@[go_sem] theorem cellsOf103 : Tryz.prog.cellsOf 103 = 1 := by unfold Program.cellsOf; rw [info103]; rfl
@[go_sem] theorem bytesOf103 : bytesOf Tryz.prog 103 = 16 := by unfold bytesOf; rw [info103]; rfl
@[go_sem] theorem takeVar103 (cs : List PV) : takeVar Tryz.prog 103 cs = cs[0]? := by unfold takeVar isAggT; rw [Tryz.underlying103, info103]
@[go_sem] theorem partA103 (cs : List PV) (k : Nat) : partA Tryz.prog 103 cs k = cs[k]? := by unfold partA isAggT; rw [Tryz.underlying103, info103]
@[go_sem] theorem zeroA103 : zeroA Tryz.prog 103 = some .nilif := by unfold zeroA; rw [info103]; rfl
@[go_sem] theorem zeroOk103 : zeroOk Tryz.prog 103 = true := by unfold zeroOk; rw [zeroA103, cellsOf103]; rfl
attribute [go_sem] Tryz.underlying103
@[go_sem] theorem has104 : (Tryz.prog.info? 104).isSome = true := by rw [info104]; rfl
@[go_sem] theorem cellsOf104 : Tryz.prog.cellsOf 104 = 1 := by unfold Program.cellsOf; rw [info104]; rfl
@[go_sem] theorem bytesOf104 : bytesOf Tryz.prog 104 = 16 := by unfold bytesOf; rw [info104]; rfl
@[go_sem] theorem takeVar104 (cs : List PV) : takeVar Tryz.prog 104 cs = cs[0]? := by unfold takeVar isAggT; rw [Tryz.underlying104, info104]
@[go_sem] theorem partA104 (cs : List PV) (k : Nat) : partA Tryz.prog 104 cs k = cs[k]? := by unfold partA isAggT; rw [Tryz.underlying104, info104]
@[go_sem] theorem zeroA104 : zeroA Tryz.prog 104 = some .nilif := by unfold zeroA; rw [info104]; rfl
@[go_sem] theorem zeroOk104 : zeroOk Tryz.prog 104 = true := by unfold zeroOk; rw [zeroA104, cellsOf104]; rfl
attribute [go_sem] Tryz.underlying104
@[go_sem] theorem has106 : (Tryz.prog.info? 106).isSome = true := by rw [info106]; rfl
@[go_sem] theorem cellsOf106 : Tryz.prog.cellsOf 106 = 1 := by unfold Program.cellsOf; rw [info106]; rfl
@[go_sem] theorem bytesOf106 : bytesOf Tryz.prog 106 = 8 := by unfold bytesOf; rw [info106]; rfl
@[go_sem] theorem takeVar106 (cs : List PV) : takeVar Tryz.prog 106 cs = cs[0]? := by unfold takeVar isAggT; rw [Tryz.underlying106, info106]
@[go_sem] theorem partA106 (cs : List PV) (k : Nat) : partA Tryz.prog 106 cs k = cs[k]? := by unfold partA isAggT; rw [Tryz.underlying106, info106]
@[go_sem] theorem zeroA106 : zeroA Tryz.prog 106 = some .nilfn := by unfold zeroA; rw [info106]; rfl
@[go_sem] theorem zeroOk106 : zeroOk Tryz.prog 106 = true := by unfold zeroOk; rw [zeroA106, cellsOf106]; rfl
attribute [go_sem] Tryz.underlying106
@[go_sem] theorem has107 : (Tryz.prog.info? 107).isSome = true := by rw [info107]; rfl
@[go_sem] theorem cellsOf107 : Tryz.prog.cellsOf 107 = 1 := by unfold Program.cellsOf; rw [info107]; rfl
@[go_sem] theorem bytesOf107 : bytesOf Tryz.prog 107 = 24 := by unfold bytesOf; rw [info107]; rfl
@[go_sem] theorem takeVar107 (cs : List PV) : takeVar Tryz.prog 107 cs = cs[0]? := by unfold takeVar isAggT; rw [Tryz.underlying107, info107]
@[go_sem] theorem partA107 (cs : List PV) (k : Nat) : partA Tryz.prog 107 cs k = cs[k]? := by unfold partA isAggT; rw [Tryz.underlying107, info107]
@[go_sem] theorem zeroA107 : zeroA Tryz.prog 107 = some .emp := by unfold zeroA; rw [info107]; rfl
@[go_sem] theorem zeroOk107 : zeroOk Tryz.prog 107 = true := by unfold zeroOk; rw [zeroA107, cellsOf107]; rfl
attribute [go_sem] Tryz.underlying107
@[go_sem] theorem has110 : (Tryz.prog.info? 110).isSome = true := by rw [info110]; rfl
@[go_sem] theorem cellsOf110 : Tryz.prog.cellsOf 110 = 2 := by unfold Program.cellsOf; rw [info110]; rfl
@[go_sem] theorem bytesOf110 : bytesOf Tryz.prog 110 = 16 := by unfold bytesOf; rw [info110]; rfl
@[go_sem] theorem takeVar110 (cs : List PV) : takeVar Tryz.prog 110 cs = if 2 ≤ cs.length then some (.agg (cs.take 2)) else none := by unfold takeVar isAggT; rw [Tryz.underlying110, info110]; rfl
@[go_sem] theorem partA110 (cs : List PV) (k : Nat) : partA Tryz.prog 110 cs k = if k + 2 ≤ cs.length then some (.agg ((cs.drop k).take 2)) else none := by unfold partA isAggT; rw [Tryz.underlying110, info110]; rfl
@[go_sem] theorem zeroA110 : zeroA Tryz.prog 110 = some (.agg [(.int IntKind.i64 0), (.int IntKind.i64 0)]) := by unfold zeroA; rw [info110]; rfl
@[go_sem] theorem zeroOk110 : zeroOk Tryz.prog 110 = true := by unfold zeroOk; rw [zeroA110, cellsOf110]; rfl
@[go_sem] theorem field110_0 : fieldInfo Tryz.prog 110 0 = some (0, 3) := by unfold fieldInfo; rw [Tryz.underlying110]; show (match Tryz.prog.info? 3 with | some i => if i.size = 0 then none else some (0, 3) | none => none) = _; rw [info3]; rfl
@[go_sem] theorem field110_1 : fieldInfo Tryz.prog 110 1 = some (1, 3) := by unfold fieldInfo; rw [Tryz.underlying110]; show (match Tryz.prog.info? 3 with | some i => if i.size = 0 then none else some (1, 3) | none => none) = _; rw [info3]; rfl
attribute [go_sem] Tryz.underlying110
@[go_sem] theorem has111 : (Tryz.prog.info? 111).isSome = true := by rw [info111]; rfl
@[go_sem] theorem cellsOf111 : Tryz.prog.cellsOf 111 = 1 := by unfold Program.cellsOf; rw [info111]; rfl
@[go_sem] theorem bytesOf111 : bytesOf Tryz.prog 111 = 24 := by unfold bytesOf; rw [info111]; rfl
@[go_sem] theorem takeVar111 (cs : List PV) : takeVar Tryz.prog 111 cs = cs[0]? := by unfold takeVar isAggT; rw [Tryz.underlying111, info111]
@[go_sem] theorem partA111 (cs : List PV) (k : Nat) : partA Tryz.prog 111 cs k = cs[k]? := by unfold partA isAggT; rw [Tryz.underlying111, info111]
@[go_sem] theorem zeroA111 : zeroA Tryz.prog 111 = some .emp := by unfold zeroA; rw [info111]; rfl
@[go_sem] theorem zeroOk111 : zeroOk Tryz.prog 111 = true := by unfold zeroOk; rw [zeroA111, cellsOf111]; rfl
attribute [go_sem] Tryz.underlying111
@[go_sem] theorem has113 : (Tryz.prog.info? 113).isSome = true := by rw [info113]; rfl
@[go_sem] theorem cellsOf113 : Tryz.prog.cellsOf 113 = 5 := by unfold Program.cellsOf; rw [info113]; rfl
@[go_sem] theorem bytesOf113 : bytesOf Tryz.prog 113 = 56 := by unfold bytesOf; rw [info113]; rfl
@[go_sem] theorem takeVar113 (cs : List PV) : takeVar Tryz.prog 113 cs = if 5 ≤ cs.length then some (.agg (cs.take 5)) else none := by unfold takeVar isAggT; rw [Tryz.underlying113, info113]; rfl
@[go_sem] theorem partA113 (cs : List PV) (k : Nat) : partA Tryz.prog 113 cs k = if k + 5 ≤ cs.length then some (.agg ((cs.drop k).take 5)) else none := by unfold partA isAggT; rw [Tryz.underlying113, info113]; rfl
@[go_sem] theorem zeroA113 : zeroA Tryz.prog 113 = some (.agg [(.int IntKind.i64 0), (.int IntKind.i64 0), (.int IntKind.i64 0), (.int IntKind.i64 0), .emp]) := by unfold zeroA; rw [info113]; rfl
@[go_sem] theorem zeroOk113 : zeroOk Tryz.prog 113 = true := by unfold zeroOk; rw [zeroA113, cellsOf113]; rfl
@[go_sem] theorem field113_0 : fieldInfo Tryz.prog 113 0 = some (0, 3) := by unfold fieldInfo; rw [Tryz.underlying113]; show (match Tryz.prog.info? 3 with | some i => if i.size = 0 then none else some (0, 3) | none => none) = _; rw [info3]; rfl
@[go_sem] theorem field113_1 : fieldInfo Tryz.prog 113 1 = some (1, 3) := by unfold fieldInfo; rw [Tryz.underlying113]; show (match Tryz.prog.info? 3 with | some i => if i.size = 0 then none else some (1, 3) | none => none) = _; rw [info3]; rfl
@[go_sem] theorem field113_2 : fieldInfo Tryz.prog 113 2 = some (2, 110) := by unfold fieldInfo; rw [Tryz.underlying113]; show (match Tryz.prog.info? 110 with | some i => if i.size = 0 then none else some (2, 110) | none => none) = _; rw [info110]; rfl
@[go_sem] theorem field113_3 : fieldInfo Tryz.prog 113 3 = some (4, 111) := by unfold fieldInfo; rw [Tryz.underlying113]; show (match Tryz.prog.info? 111 with | some i => if i.size = 0 then none else some (4, 111) | none => none) = _; rw [info111]; rfl
attribute [go_sem] Tryz.underlying113
@[go_sem] theorem has114 : (Tryz.prog.info? 114).isSome = true := by rw [info114]; rfl
@[go_sem] theorem cellsOf114 : Tryz.prog.cellsOf 114 = 10 := by unfold Program.cellsOf; rw [info114]; rfl
@[go_sem] theorem bytesOf114 : bytesOf Tryz.prog 114 = 128 := by unfold bytesOf; rw [info114]; rfl
@[go_sem] theorem takeVar114 (cs : List PV) : takeVar Tryz.prog 114 cs = if 10 ≤ cs.length then some (.agg (cs.take 10)) else none := by unfold takeVar isAggT; rw [Tryz.underlying114, info114]; rfl
@[go_sem] theorem partA114 (cs : List PV) (k : Nat) : partA Tryz.prog 114 cs k = if k + 10 ≤ cs.length then some (.agg ((cs.drop k).take 10)) else none := by unfold partA isAggT; rw [Tryz.underlying114, info114]; rfl
@[go_sem] theorem zeroA114 : zeroA Tryz.prog 114 = some (.agg [(.int IntKind.i64 0), (.int IntKind.i64 0), (.int IntKind.i64 0), (.int IntKind.i64 0), (.int IntKind.i64 0), (.int IntKind.i64 0), (.int IntKind.i64 0), .emp, .emp, .emp]) := by unfold zeroA; rw [info114]; rfl
@[go_sem] theorem zeroOk114 : zeroOk Tryz.prog 114 = true := by unfold zeroOk; rw [zeroA114, cellsOf114]; rfl
@[go_sem] theorem field114_0 : fieldInfo Tryz.prog 114 0 = some (0, 3) := by unfold fieldInfo; rw [Tryz.underlying114]; show (match Tryz.prog.info? 3 with | some i => if i.size = 0 then none else some (0, 3) | none => none) = _; rw [info3]; rfl
@[go_sem] theorem field114_1 : fieldInfo Tryz.prog 114 1 = some (1, 110) := by unfold fieldInfo; rw [Tryz.underlying114]; show (match Tryz.prog.info? 110 with | some i => if i.size = 0 then none else some (1, 110) | none => none) = _; rw [info110]; rfl
@[go_sem] theorem field114_2 : fieldInfo Tryz.prog 114 2 = some (3, 113) := by unfold fieldInfo; rw [Tryz.underlying114]; show (match Tryz.prog.info? 113 with | some i => if i.size = 0 then none else some (3, 113) | none => none) = _; rw [info113]; rfl
@[go_sem] theorem field114_3 : fieldInfo Tryz.prog 114 3 = some (8, 59) := by unfold fieldInfo; rw [Tryz.underlying114]; show (match Tryz.prog.info? 59 with | some i => if i.size = 0 then none else some (8, 59) | none => none) = _; rw [info59]; rfl
@[go_sem] theorem field114_4 : fieldInfo Tryz.prog 114 4 = some (9, 59) := by unfold fieldInfo; rw [Tryz.underlying114]; show (match Tryz.prog.info? 59 with | some i => if i.size = 0 then none else some (9, 59) | none => none) = _; rw [info59]; rfl
attribute [go_sem] Tryz.underlying114
@[go_sem] theorem has115 : (Tryz.prog.info? 115).isSome = true := by rw [info115]; rfl
@[go_sem] theorem cellsOf115 : Tryz.prog.cellsOf 115 = 10 := by unfold Program.cellsOf; rw [info115]; rfl
@[go_sem] theorem bytesOf115 : bytesOf Tryz.prog 115 = 128 := by unfold bytesOf; rw [info115]; rfl
@[go_sem] theorem takeVar115 (cs : List PV) : takeVar Tryz.prog 115 cs = if 10 ≤ cs.length then some (.agg (cs.take 10)) else none := by unfold takeVar isAggT; rw [Tryz.underlying115, info115]; rfl
@[go_sem] theorem partA115 (cs : List PV) (k : Nat) : partA Tryz.prog 115 cs k = if k + 10 ≤ cs.length then some (.agg ((cs.drop k).take 10)) else none := by unfold partA isAggT; rw [Tryz.underlying115, info115]; rfl
@[go_sem] theorem zeroA115 : zeroA Tryz.prog 115 = some (.agg [(.int IntKind.i64 0), (.int IntKind.i64 0), (.int IntKind.i64 0), (.int IntKind.i64 0), (.int IntKind.i64 0), (.int IntKind.i64 0), (.int IntKind.i64 0), .emp, .emp, .emp]) := by unfold zeroA; rw [info115]; rfl
@[go_sem] theorem zeroOk115 : zeroOk Tryz.prog 115 = true := by unfold zeroOk; rw [zeroA115, cellsOf115]; rfl
@[go_sem] theorem field115_0 : fieldInfo Tryz.prog 115 0 = some (0, 3) := by unfold fieldInfo; rw [Tryz.underlying115]; show (match Tryz.prog.info? 3 with | some i => if i.size = 0 then none else some (0, 3) | none => none) = _; rw [info3]; rfl
@[go_sem] theorem field115_1 : fieldInfo Tryz.prog 115 1 = some (1, 110) := by unfold fieldInfo; rw [Tryz.underlying115]; show (match Tryz.prog.info? 110 with | some i => if i.size = 0 then none else some (1, 110) | none => none) = _; rw [info110]; rfl
@[go_sem] theorem field115_2 : fieldInfo Tryz.prog 115 2 = some (3, 113) := by unfold fieldInfo; rw [Tryz.underlying115]; show (match Tryz.prog.info? 113 with | some i => if i.size = 0 then none else some (3, 113) | none => none) = _; rw [info113]; rfl
@[go_sem] theorem field115_3 : fieldInfo Tryz.prog 115 3 = some (8, 59) := by unfold fieldInfo; rw [Tryz.underlying115]; show (match Tryz.prog.info? 59 with | some i => if i.size = 0 then none else some (8, 59) | none => none) = _; rw [info59]; rfl
@[go_sem] theorem field115_4 : fieldInfo Tryz.prog 115 4 = some (9, 59) := by unfold fieldInfo; rw [Tryz.underlying115]; show (match Tryz.prog.info? 59 with | some i => if i.size = 0 then none else some (9, 59) | none => none) = _; rw [info59]; rfl
attribute [go_sem] Tryz.underlying115
@[go_sem] theorem has116 : (Tryz.prog.info? 116).isSome = true := by rw [info116]; rfl
@[go_sem] theorem cellsOf116 : Tryz.prog.cellsOf 116 = 1 := by unfold Program.cellsOf; rw [info116]; rfl
@[go_sem] theorem bytesOf116 : bytesOf Tryz.prog 116 = 8 := by unfold bytesOf; rw [info116]; rfl
@[go_sem] theorem takeVar116 (cs : List PV) : takeVar Tryz.prog 116 cs = cs[0]? := by unfold takeVar isAggT; rw [Tryz.underlying116, info116]
@[go_sem] theorem partA116 (cs : List PV) (k : Nat) : partA Tryz.prog 116 cs k = cs[k]? := by unfold partA isAggT; rw [Tryz.underlying116, info116]
@[go_sem] theorem zeroA116 : zeroA Tryz.prog 116 = some .nilfn := by unfold zeroA; rw [info116]; rfl
@[go_sem] theorem zeroOk116 : zeroOk Tryz.prog 116 = true := by unfold zeroOk; rw [zeroA116, cellsOf116]; rfl
attribute [go_sem] Tryz.underlying116
@[go_sem] theorem has120 : (Tryz.prog.info? 120).isSome = true := by rw [info120]; rfl
@[go_sem] theorem cellsOf120 : Tryz.prog.cellsOf 120 = 1 := by unfold Program.cellsOf; rw [info120]; rfl
@[go_sem] theorem bytesOf120 : bytesOf Tryz.prog 120 = 8 := by unfold bytesOf; rw [info120]; rfl
@[go_sem] theorem takeVar120 (cs : List PV) : takeVar Tryz.prog 120 cs = cs[0]? := by unfold takeVar isAggT; rw [Tryz.underlying120, info120]
@[go_sem] theorem partA120 (cs : List PV) (k : Nat) : partA Tryz.prog 120 cs k = cs[k]? := by unfold partA isAggT; rw [Tryz.underlying120, info120]
@[go_sem] theorem zeroA120 : zeroA Tryz.prog 120 = some .nilfn := by unfold zeroA; rw [info120]; rfl
@[go_sem] theorem zeroOk120 : zeroOk Tryz.prog 120 = true := by unfold zeroOk; rw [zeroA120, cellsOf120]; rfl
attribute [go_sem] Tryz.underlying120
@[go_sem] theorem has121 : (Tryz.prog.info? 121).isSome = true := by rw [info121]; rfl
@[go_sem] theorem cellsOf121 : Tryz.prog.cellsOf 121 = 1 := by unfold Program.cellsOf; rw [info121]; rfl
@[go_sem] theorem bytesOf121 : bytesOf Tryz.prog 121 = 8 := by unfold bytesOf; rw [info121]; rfl
@[go_sem] theorem takeVar121 (cs : List PV) : takeVar Tryz.prog 121 cs = cs[0]? := by unfold takeVar isAggT; rw [Tryz.underlying121, info121]
@[go_sem] theorem partA121 (cs : List PV) (k : Nat) : partA Tryz.prog 121 cs k = cs[k]? := by unfold partA isAggT; rw [Tryz.underlying121, info121]
@[go_sem] theorem zeroA121 : zeroA Tryz.prog 121 = some .nilfn := by unfold zeroA; rw [info121]; rfl
@[go_sem] theorem zeroOk121 : zeroOk Tryz.prog 121 = true := by unfold zeroOk; rw [zeroA121, cellsOf121]; rfl
attribute [go_sem] Tryz.underlying121
@[go_sem] theorem has123 : (Tryz.prog.info? 123).isSome = true := by rw [info123]; rfl
@[go_sem] theorem cellsOf123 : Tryz.prog.cellsOf 123 = 2 := by unfold Program.cellsOf; rw [info123]; rfl
@[go_sem] theorem bytesOf123 : bytesOf Tryz.prog 123 = 32 := by unfold bytesOf; rw [info123]; rfl
@[go_sem] theorem takeVar123 (cs : List PV) : takeVar Tryz.prog 123 cs = if 2 ≤ cs.length then some (.agg (cs.take 2)) else none := by unfold takeVar isAggT; rw [Tryz.underlying123, info123]; rfl
@[go_sem] theorem partA123 (cs : List PV) (k : Nat) : partA Tryz.prog 123 cs k = if k + 2 ≤ cs.length then some (.agg ((cs.drop k).take 2)) else none := by unfold partA isAggT; rw [Tryz.underlying123, info123]; rfl
@[go_sem] theorem zeroA123 : zeroA Tryz.prog 123 = some (.agg [.emp, (.int IntKind.i64 0)]) := by unfold zeroA; rw [info123]; rfl
@[go_sem] theorem zeroOk123 : zeroOk Tryz.prog 123 = true := by unfold zeroOk; rw [zeroA123, cellsOf123]; rfl
@[go_sem] theorem field123_0 : fieldInfo Tryz.prog 123 0 = some (0, 22) := by unfold fieldInfo; rw [Tryz.underlying123]; show (match Tryz.prog.info? 22 with | some i => if i.size = 0 then none else some (0, 22) | none => none) = _; rw [info22]; rfl
@[go_sem] theorem field123_1 : fieldInfo Tryz.prog 123 1 = some (1, 3) := by unfold fieldInfo; rw [Tryz.underlying123]; show (match Tryz.prog.info? 3 with | some i => if i.size = 0 then none else some (1, 3) | none => none) = _; rw [info3]; rfl
attribute [go_sem] Tryz.underlying123
@[go_sem] theorem has126 : (Tryz.prog.info? 126).isSome = true := by rw [info126]; rfl
@[go_sem] theorem cellsOf126 : Tryz.prog.cellsOf 126 = 1 := by unfold Program.cellsOf; rw [info126]; rfl
@[go_sem] theorem bytesOf126 : bytesOf Tryz.prog 126 = 8 := by unfold bytesOf; rw [info126]; rfl
@[go_sem] theorem takeVar126 (cs : List PV) : takeVar Tryz.prog 126 cs = cs[0]? := by unfold takeVar isAggT; rw [Tryz.underlying126, info126]
@[go_sem] theorem partA126 (cs : List PV) (k : Nat) : partA Tryz.prog 126 cs k = cs[k]? := by unfold partA isAggT; rw [Tryz.underlying126, info126]
@[go_sem] theorem zeroA126 : zeroA Tryz.prog 126 = some .nilfn := by unfold zeroA; rw [info126]; rfl
@[go_sem] theorem zeroOk126 : zeroOk Tryz.prog 126 = true := by unfold zeroOk; rw [zeroA126, cellsOf126]; rfl
attribute [go_sem] Tryz.underlying126
@[go_sem] theorem has128 : (Tryz.prog.info? 128).isSome = true := by rw [info128]; rfl
@[go_sem] theorem cellsOf128 : Tryz.prog.cellsOf 128 = 1 := by unfold Program.cellsOf; rw [info128]; rfl
@[go_sem] theorem bytesOf128 : bytesOf Tryz.prog 128 = 8 := by unfold bytesOf; rw [info128]; rfl
@[go_sem] theorem takeVar128 (cs : List PV) : takeVar Tryz.prog 128 cs = cs[0]? := by unfold takeVar isAggT; rw [Tryz.underlying128, info128]
@[go_sem] theorem partA128 (cs : List PV) (k : Nat) : partA Tryz.prog 128 cs k = cs[k]? := by unfold partA isAggT; rw [Tryz.underlying128, info128]
@[go_sem] theorem zeroA128 : zeroA Tryz.prog 128 = some .nilfn := by unfold zeroA; rw [info128]; rfl
@[go_sem] theorem zeroOk128 : zeroOk Tryz.prog 128 = true := by unfold zeroOk; rw [zeroA128, cellsOf128]; rfl
attribute [go_sem] Tryz.underlying128
@[go_sem] theorem has129 : (Tryz.prog.info? 129).isSome = true := by rw [info129]; rfl
@[go_sem] theorem cellsOf129 : Tryz.prog.cellsOf 129 = 1 := by unfold Program.cellsOf; rw [info129]; rfl
@[go_sem] theorem bytesOf129 : bytesOf Tryz.prog 129 = 8 := by unfold bytesOf; rw [info129]; rfl
@[go_sem] theorem takeVar129 (cs : List PV) : takeVar Tryz.prog 129 cs = cs[0]? := by unfold takeVar isAggT; rw [Tryz.underlying129, info129]
@[go_sem] theorem partA129 (cs : List PV) (k : Nat) : partA Tryz.prog 129 cs k = cs[k]? := by unfold partA isAggT; rw [Tryz.underlying129, info129]
@[go_sem] theorem zeroA129 : zeroA Tryz.prog 129 = some .nilfn := by unfold zeroA; rw [info129]; rfl
@[go_sem] theorem zeroOk129 : zeroOk Tryz.prog 129 = true := by unfold zeroOk; rw [zeroA129, cellsOf129]; rfl
attribute [go_sem] Tryz.underlying129
@[go_sem] theorem has131 : (Tryz.prog.info? 131).isSome = true := by rw [info131]; rfl
@[go_sem] theorem cellsOf131 : Tryz.prog.cellsOf 131 = 1 := by unfold Program.cellsOf; rw [info131]; rfl
@[go_sem] theorem bytesOf131 : bytesOf Tryz.prog 131 = 8 := by unfold bytesOf; rw [info131]; rfl
@[go_sem] theorem takeVar131 (cs : List PV) : takeVar Tryz.prog 131 cs = cs[0]? := by unfold takeVar isAggT; rw [Tryz.underlying131, info131]
@[go_sem] theorem partA131 (cs : List PV) (k : Nat) : partA Tryz.prog 131 cs k = cs[k]? := by unfold partA isAggT; rw [Tryz.underlying131, info131]
@[go_sem] theorem zeroA131 : zeroA Tryz.prog 131 = some .nilfn := by unfold zeroA; rw [info131]; rfl
@[go_sem] theorem zeroOk131 : zeroOk Tryz.prog 131 = true := by unfold zeroOk; rw [zeroA131, cellsOf131]; rfl
attribute [go_sem] Tryz.underlying131
@[go_sem] theorem has132 : (Tryz.prog.info? 132).isSome = true := by rw [info132]; rfl
@[go_sem] theorem cellsOf132 : Tryz.prog.cellsOf 132 = 1 := by unfold Program.cellsOf; rw [info132]; rfl
@[go_sem] theorem bytesOf132 : bytesOf Tryz.prog 132 = 8 := by unfold bytesOf; rw [info132]; rfl
@[go_sem] theorem takeVar132 (cs : List PV) : takeVar Tryz.prog 132 cs = cs[0]? := by unfold takeVar isAggT; rw [Tryz.underlying132, info132]
@[go_sem] theorem partA132 (cs : List PV) (k : Nat) : partA Tryz.prog 132 cs k = cs[k]? := by unfold partA isAggT; rw [Tryz.underlying132, info132]
@[go_sem] theorem zeroA132 : zeroA Tryz.prog 132 = some .nilfn := by unfold zeroA; rw [info132]; rfl
@[go_sem] theorem zeroOk132 : zeroOk Tryz.prog 132 = true := by unfold zeroOk; rw [zeroA132, cellsOf132]; rfl
attribute [go_sem] Tryz.underlying132
@[go_sem] theorem has137 : (Tryz.prog.info? 137).isSome = true := by rw [info137]; rfl
@[go_sem] theorem cellsOf137 : Tryz.prog.cellsOf 137 = 1 := by unfold Program.cellsOf; rw [info137]; rfl
@[go_sem] theorem bytesOf137 : bytesOf Tryz.prog 137 = 16 := by unfold bytesOf; rw [info137]; rfl
@[go_sem] theorem takeVar137 (cs : List PV) : takeVar Tryz.prog 137 cs = cs[0]? := by unfold takeVar isAggT; rw [Tryz.underlying137, info137]
@[go_sem] theorem partA137 (cs : List PV) (k : Nat) : partA Tryz.prog 137 cs k = cs[k]? := by unfold partA isAggT; rw [Tryz.underlying137, info137]
@[go_sem] theorem zeroA137 : zeroA Tryz.prog 137 = some .nilif := by unfold zeroA; rw [info137]; rfl
@[go_sem] theorem zeroOk137 : zeroOk Tryz.prog 137 = true := by unfold zeroOk; rw [zeroA137, cellsOf137]; rfl
attribute [go_sem] Tryz.underlying137
@[go_sem] theorem has138 : (Tryz.prog.info? 138).isSome = true := by rw [info138]; rfl
@[go_sem] theorem cellsOf138 : Tryz.prog.cellsOf 138 = 1 := by unfold Program.cellsOf; rw [info138]; rfl
@[go_sem] theorem bytesOf138 : bytesOf Tryz.prog 138 = 8 := by unfold bytesOf; rw [info138]; rfl
@[go_sem] theorem takeVar138 (cs : List PV) : takeVar Tryz.prog 138 cs = cs[0]? := by unfold takeVar isAggT; rw [Tryz.underlying138, info138]
@[go_sem] theorem partA138 (cs : List PV) (k : Nat) : partA Tryz.prog 138 cs k = cs[k]? := by unfold partA isAggT; rw [Tryz.underlying138, info138]
@[go_sem] theorem zeroA138 : zeroA Tryz.prog 138 = some .nilm := by unfold zeroA; rw [info138]; rfl
@[go_sem] theorem zeroOk138 : zeroOk Tryz.prog 138 = true := by unfold zeroOk; rw [zeroA138, cellsOf138]; rfl
attribute [go_sem] Tryz.underlying138
@[go_sem] theorem has139 : (Tryz.prog.info? 139).isSome = true := by rw [info139]; rfl
@[go_sem] theorem cellsOf139 : Tryz.prog.cellsOf 139 = 1 := by unfold Program.cellsOf; rw [info139]; rfl
@[go_sem] theorem bytesOf139 : bytesOf Tryz.prog 139 = 8 := by unfold bytesOf; rw [info139]; rfl
@[go_sem] theorem takeVar139 (cs : List PV) : takeVar Tryz.prog 139 cs = cs[0]? := by unfold takeVar isAggT; rw [Tryz.underlying139, info139]
@[go_sem] theorem partA139 (cs : List PV) (k : Nat) : partA Tryz.prog 139 cs k = cs[k]? := by unfold partA isAggT; rw [Tryz.underlying139, info139]
@[go_sem] theorem zeroA139 : zeroA Tryz.prog 139 = some .nilfn := by unfold zeroA; rw [info139]; rfl
@[go_sem] theorem zeroOk139 : zeroOk Tryz.prog 139 = true := by unfold zeroOk; rw [zeroA139, cellsOf139]; rfl
attribute [go_sem] Tryz.underlying139
@[go_sem] theorem has141 : (Tryz.prog.info? 141).isSome = true := by rw [info141]; rfl
@[go_sem] theorem cellsOf141 : Tryz.prog.cellsOf 141 = 1 := by unfold Program.cellsOf; rw [info141]; rfl
@[go_sem] theorem bytesOf141 : bytesOf Tryz.prog 141 = 8 := by unfold bytesOf; rw [info141]; rfl
@[go_sem] theorem takeVar141 (cs : List PV) : takeVar Tryz.prog 141 cs = cs[0]? := by unfold takeVar isAggT; rw [Tryz.underlying141, info141]
@[go_sem] theorem partA141 (cs : List PV) (k : Nat) : partA Tryz.prog 141 cs k = cs[k]? := by unfold partA isAggT; rw [Tryz.underlying141, info141]
@[go_sem] theorem zeroA141 : zeroA Tryz.prog 141 = some .nilfn := by unfold zeroA; rw [info141]; rfl
@[go_sem] theorem zeroOk141 : zeroOk Tryz.prog 141 = true := by unfold zeroOk; rw [zeroA141, cellsOf141]; rfl
attribute [go_sem] Tryz.underlying141
@[go_sem] theorem has142 : (Tryz.prog.info? 142).isSome = true := by rw [info142]; rfl
@[go_sem] theorem cellsOf142 : Tryz.prog.cellsOf 142 = 1 := by unfold Program.cellsOf; rw [info142]; rfl
@[go_sem] theorem bytesOf142 : bytesOf Tryz.prog 142 = 8 := by unfold bytesOf; rw [info142]; rfl
@[go_sem] theorem takeVar142 (cs : List PV) : takeVar Tryz.prog 142 cs = cs[0]? := by unfold takeVar isAggT; rw [Tryz.underlying142, info142]
@[go_sem] theorem partA142 (cs : List PV) (k : Nat) : partA Tryz.prog 142 cs k = cs[k]? := by unfold partA isAggT; rw [Tryz.underlying142, info142]
@[go_sem] theorem zeroA142 : zeroA Tryz.prog 142 = some .nilfn := by unfold zeroA; rw [info142]; rfl
@[go_sem] theorem zeroOk142 : zeroOk Tryz.prog 142 = true := by unfold zeroOk; rw [zeroA142, cellsOf142]; rfl
attribute [go_sem] Tryz.underlying142
@[go_sem] theorem has143 : (Tryz.prog.info? 143).isSome = true := by rw [info143]; rfl
@[go_sem] theorem cellsOf143 : Tryz.prog.cellsOf 143 = 1 := by unfold Program.cellsOf; rw [info143]; rfl
@[go_sem] theorem bytesOf143 : bytesOf Tryz.prog 143 = 8 := by unfold bytesOf; rw [info143]; rfl
@[go_sem] theorem takeVar143 (cs : List PV) : takeVar Tryz.prog 143 cs = cs[0]? := by unfold takeVar isAggT; rw [Tryz.underlying143, info143]
@[go_sem] theorem partA143 (cs : List PV) (k : Nat) : partA Tryz.prog 143 cs k = cs[k]? := by unfold partA isAggT; rw [Tryz.underlying143, info143]
@[go_sem] theorem zeroA143 : zeroA Tryz.prog 143 = some .nilfn := by unfold zeroA; rw [info143]; rfl
@[go_sem] theorem zeroOk143 : zeroOk Tryz.prog 143 = true := by unfold zeroOk; rw [zeroA143, cellsOf143]; rfl
attribute [go_sem] Tryz.underlying143
@[go_sem] theorem has148 : (Tryz.prog.info? 148).isSome = true := by rw [info148]; rfl
@[go_sem] theorem cellsOf148 : Tryz.prog.cellsOf 148 = 6 := by unfold Program.cellsOf; rw [info148]; rfl
@[go_sem] theorem bytesOf148 : bytesOf Tryz.prog 148 = 48 := by unfold bytesOf; rw [info148]; rfl
@[go_sem] theorem takeVar148 (cs : List PV) : takeVar Tryz.prog 148 cs = if 6 ≤ cs.length then some (.agg (cs.take 6)) else none := by unfold takeVar isAggT; rw [Tryz.underlying148, info148]; rfl
@[go_sem] theorem partA148 (cs : List PV) (k : Nat) : partA Tryz.prog 148 cs k = if k + 6 ≤ cs.length then some (.agg ((cs.drop k).take 6)) else none := by unfold partA isAggT; rw [Tryz.underlying148, info148]; rfl
@[go_sem] theorem zeroA148 : zeroA Tryz.prog 148 = some (.agg [(.int IntKind.i64 0), (.int IntKind.i64 0), (.int IntKind.i64 0), (.int IntKind.i64 0), (.int IntKind.i64 0), (.int IntKind.i64 0)]) := by unfold zeroA; rw [info148]; rfl
@[go_sem] theorem zeroOk148 : zeroOk Tryz.prog 148 = true := by unfold zeroOk; rw [zeroA148, cellsOf148]; rfl
attribute [go_sem] Tryz.underlying148
@[go_sem] theorem has149 : (Tryz.prog.info? 149).isSome = true := by rw [info149]; rfl
@[go_sem] theorem cellsOf149 : Tryz.prog.cellsOf 149 = 18 := by unfold Program.cellsOf; rw [info149]; rfl
@[go_sem] theorem bytesOf149 : bytesOf Tryz.prog 149 = 144 := by unfold bytesOf; rw [info149]; rfl
@[go_sem] theorem takeVar149 (cs : List PV) : takeVar Tryz.prog 149 cs = if 18 ≤ cs.length then some (.agg (cs.take 18)) else none := by unfold takeVar isAggT; rw [Tryz.underlying149, info149]; rfl
@[go_sem] theorem partA149 (cs : List PV) (k : Nat) : partA Tryz.prog 149 cs k = if k + 18 ≤ cs.length then some (.agg ((cs.drop k).take 18)) else none := by unfold partA isAggT; rw [Tryz.underlying149, info149]; rfl
@[go_sem] theorem zeroA149 : zeroA Tryz.prog 149 = some (.agg [(.int IntKind.i64 0), (.int IntKind.i64 0), (.int IntKind.i64 0), (.int IntKind.i64 0), (.int IntKind.i64 0), (.int IntKind.i64 0), (.int IntKind.i64 0), (.int IntKind.i64 0), (.int IntKind.i64 0), (.int IntKind.i64 0), (.int IntKind.i64 0), (.int IntKind.i64 0), (.int IntKind.i64 0), (.int IntKind.i64 0), (.int IntKind.i64 0), (.int IntKind.i64 0), (.int IntKind.i64 0), (.int IntKind.i64 0)]) := by unfold zeroA; rw [info149]; rfl
@[go_sem] theorem zeroOk149 : zeroOk Tryz.prog 149 = true := by unfold zeroOk; rw [zeroA149, cellsOf149]; rfl
attribute [go_sem] Tryz.underlying149
@[go_sem] theorem has151 : (Tryz.prog.info? 151).isSome = true := by rw [info151]; rfl
@[go_sem] theorem cellsOf151 : Tryz.prog.cellsOf 151 = 18 := by unfold Program.cellsOf; rw [info151]; rfl
@[go_sem] theorem bytesOf151 : bytesOf Tryz.prog 151 = 144 := by unfold bytesOf; rw [info151]; rfl
@[go_sem] theorem takeVar151 (cs : List PV) : takeVar Tryz.prog 151 cs = if 18 ≤ cs.length then some (.agg (cs.take 18)) else none := by unfold takeVar isAggT; rw [Tryz.underlying151, info151]; rfl
@[go_sem] theorem partA151 (cs : List PV) (k : Nat) : partA Tryz.prog 151 cs k = if k + 18 ≤ cs.length then some (.agg ((cs.drop k).take 18)) else none := by unfold partA isAggT; rw [Tryz.underlying151, info151]; rfl
@[go_sem] theorem zeroA151 : zeroA Tryz.prog 151 = some (.agg [(.int IntKind.i64 0), (.int IntKind.i64 0), (.int IntKind.i64 0), (.int IntKind.i64 0), (.int IntKind.i64 0), (.int IntKind.i64 0), (.int IntKind.i64 0), (.int IntKind.i64 0), (.int IntKind.i64 0), (.int IntKind.i64 0), (.int IntKind.i64 0), (.int IntKind.i64 0), (.int IntKind.i64 0), (.int IntKind.i64 0), (.int IntKind.i64 0), (.int IntKind.i64 0), (.int IntKind.i64 0), (.int IntKind.i64 0)]) := by unfold zeroA; rw [info151]; rfl
@[go_sem] theorem zeroOk151 : zeroOk Tryz.prog 151 = true := by unfold zeroOk; rw [zeroA151, cellsOf151]; rfl
@[go_sem] theorem field151_0 : fieldInfo Tryz.prog 151 0 = some (0, 149) := by unfold fieldInfo; rw [Tryz.underlying151]; show (match Tryz.prog.info? 149 with | some i => if i.size = 0 then none else some (0, 149) | none => none) = _; rw [info149]; rfl
attribute [go_sem] Tryz.underlying151
@[go_sem] theorem has152 : (Tryz.prog.info? 152).isSome = true := by rw [info152]; rfl
@[go_sem] theorem cellsOf152 : Tryz.prog.cellsOf 152 = 1 := by unfold Program.cellsOf; rw [info152]; rfl
@[go_sem] theorem bytesOf152 : bytesOf Tryz.prog 152 = 8 := by unfold bytesOf; rw [info152]; rfl
@[go_sem] theorem takeVar152 (cs : List PV) : takeVar Tryz.prog 152 cs = cs[0]? := by unfold takeVar isAggT; rw [Tryz.underlying152, info152]
@[go_sem] theorem partA152 (cs : List PV) (k : Nat) : partA Tryz.prog 152 cs k = cs[k]? := by unfold partA isAggT; rw [Tryz.underlying152, info152]
@[go_sem] theorem zeroA152 : zeroA Tryz.prog 152 = some .nilfn := by unfold zeroA; rw [info152]; rfl
@[go_sem] theorem zeroOk152 : zeroOk Tryz.prog 152 = true := by unfold zeroOk; rw [zeroA152, cellsOf152]; rfl
attribute [go_sem] Tryz.underlying152
@[go_sem] theorem has153 : (Tryz.prog.info? 153).isSome = true := by rw [info153]; rfl
@[go_sem] theorem cellsOf153 : Tryz.prog.cellsOf 153 = 1 := by unfold Program.cellsOf; rw [info153]; rfl
@[go_sem] theorem bytesOf153 : bytesOf Tryz.prog 153 = 24 := by unfold bytesOf; rw [info153]; rfl
@[go_sem] theorem takeVar153 (cs : List PV) : takeVar Tryz.prog 153 cs = cs[0]? := by unfold takeVar isAggT; rw [Tryz.underlying153, info153]
@[go_sem] theorem partA153 (cs : List PV) (k : Nat) : partA Tryz.prog 153 cs k = cs[k]? := by unfold partA isAggT; rw [Tryz.underlying153, info153]
@[go_sem] theorem zeroA153 : zeroA Tryz.prog 153 = some .emp := by unfold zeroA; rw [info153]; rfl
@[go_sem] theorem zeroOk153 : zeroOk Tryz.prog 153 = true := by unfold zeroOk; rw [zeroA153, cellsOf153]; rfl
attribute [go_sem] Tryz.underlying153
@[go_sem] theorem has154 : (Tryz.prog.info? 154).isSome = true := by rw [info154]; rfl
@[go_sem] theorem cellsOf154 : Tryz.prog.cellsOf 154 = 1 := by unfold Program.cellsOf; rw [info154]; rfl
@[go_sem] theorem bytesOf154 : bytesOf Tryz.prog 154 = 8 := by unfold bytesOf; rw [info154]; rfl
@[go_sem] theorem takeVar154 (cs : List PV) : takeVar Tryz.prog 154 cs = cs[0]? := by unfold takeVar isAggT; rw [Tryz.underlying154, info154]
@[go_sem] theorem partA154 (cs : List PV) (k : Nat) : partA Tryz.prog 154 cs k = cs[k]? := by unfold partA isAggT; rw [Tryz.underlying154, info154]
@[go_sem] theorem zeroA154 : zeroA Tryz.prog 154 = some .nilfn := by unfold zeroA; rw [info154]; rfl
@[go_sem] theorem zeroOk154 : zeroOk Tryz.prog 154 = true := by unfold zeroOk; rw [zeroA154, cellsOf154]; rfl
attribute [go_sem] Tryz.underlying154
@[go_sem] theorem has155 : (Tryz.prog.info? 155).isSome = true := by rw [info155]; rfl
@[go_sem] theorem cellsOf155 : Tryz.prog.cellsOf 155 = 1 := by unfold Program.cellsOf; rw [info155]; rfl
@[go_sem] theorem bytesOf155 : bytesOf Tryz.prog 155 = 8 := by unfold bytesOf; rw [info155]; rfl
@[go_sem] theorem takeVar155 (cs : List PV) : takeVar Tryz.prog 155 cs = cs[0]? := by unfold takeVar isAggT; rw [Tryz.underlying155, info155]
@[go_sem] theorem partA155 (cs : List PV) (k : Nat) : partA Tryz.prog 155 cs k = cs[k]? := by unfold partA isAggT; rw [Tryz.underlying155, info155]
@[go_sem] theorem zeroA155 : zeroA Tryz.prog 155 = some .nilfn := by unfold zeroA; rw [info155]; rfl
@[go_sem] theorem zeroOk155 : zeroOk Tryz.prog 155 = true := by unfold zeroOk; rw [zeroA155, cellsOf155]; rfl
attribute [go_sem] Tryz.underlying155
@[go_sem] theorem has162 : (Tryz.prog.info? 162).isSome = true := by rw [info162]; rfl
@[go_sem] theorem cellsOf162 : Tryz.prog.cellsOf 162 = 1 := by unfold Program.cellsOf; rw [info162]; rfl
@[go_sem] theorem bytesOf162 : bytesOf Tryz.prog 162 = 8 := by unfold bytesOf; rw [info162]; rfl
@[go_sem] theorem takeVar162 (cs : List PV) : takeVar Tryz.prog 162 cs = cs[0]? := by unfold takeVar isAggT; rw [Tryz.underlying162, info162]
@[go_sem] theorem partA162 (cs : List PV) (k : Nat) : partA Tryz.prog 162 cs k = cs[k]? := by unfold partA isAggT; rw [Tryz.underlying162, info162]
@[go_sem] theorem zeroA162 : zeroA Tryz.prog 162 = some .nilfn := by unfold zeroA; rw [info162]; rfl
@[go_sem] theorem zeroOk162 : zeroOk Tryz.prog 162 = true := by unfold zeroOk; rw [zeroA162, cellsOf162]; rfl
attribute [go_sem] Tryz.underlying162
@[go_sem] theorem has164 : (Tryz.prog.info? 164).isSome = true := by rw [info164]; rfl
@[go_sem] theorem cellsOf164 : Tryz.prog.cellsOf 164 = 0 := by unfold Program.cellsOf; rw [info164]; rfl
@[go_sem] theorem bytesOf164 : bytesOf Tryz.prog 164 = 0 := by unfold bytesOf; rw [info164]; rfl
@[go_sem] theorem takeVar164 (cs : List PV) : takeVar Tryz.prog 164 cs = if 0 ≤ cs.length then some (.agg (cs.take 0)) else none := by unfold takeVar isAggT; rw [Tryz.underlying164, info164]; rfl
@[go_sem] theorem partA164 (cs : List PV) (k : Nat) : partA Tryz.prog 164 cs k = if k + 0 ≤ cs.length then some (.agg ((cs.drop k).take 0)) else none := by unfold partA isAggT; rw [Tryz.underlying164, info164]; rfl
@[go_sem] theorem zeroA164 : zeroA Tryz.prog 164 = some (.agg []) := by unfold zeroA; rw [info164]; rfl
@[go_sem] theorem zeroOk164 : zeroOk Tryz.prog 164 = true := by unfold zeroOk; rw [zeroA164, cellsOf164]; rfl
attribute [go_sem] Tryz.underlying164
@[go_sem] theorem has165 : (Tryz.prog.info? 165).isSome = true := by rw [info165]; rfl
@[go_sem] theorem cellsOf165 : Tryz.prog.cellsOf 165 = 0 := by unfold Program.cellsOf; rw [info165]; rfl
@[go_sem] theorem bytesOf165 : bytesOf Tryz.prog 165 = 0 := by unfold bytesOf; rw [info165]; rfl
@[go_sem] theorem takeVar165 (cs : List PV) : takeVar Tryz.prog 165 cs = if 0 ≤ cs.length then some (.agg (cs.take 0)) else none := by unfold takeVar isAggT; rw [Tryz.underlying165, info165]; rfl
@[go_sem] theorem partA165 (cs : List PV) (k : Nat) : partA Tryz.prog 165 cs k = if k + 0 ≤ cs.length then some (.agg ((cs.drop k).take 0)) else none := by unfold partA isAggT; rw [Tryz.underlying165, info165]; rfl
@[go_sem] theorem zeroA165 : zeroA Tryz.prog 165 = some (.agg []) := by unfold zeroA; rw [info165]; rfl
@[go_sem] theorem zeroOk165 : zeroOk Tryz.prog 165 = true := by unfold zeroOk; rw [zeroA165, cellsOf165]; rfl
attribute [go_sem] Tryz.underlying165
@[go_sem] theorem has166 : (Tryz.prog.info? 166).isSome = true := by rw [info166]; rfl
@[go_sem] theorem cellsOf166 : Tryz.prog.cellsOf 166 = 0 := by unfold Program.cellsOf; rw [info166]; rfl
@[go_sem] theorem bytesOf166 : bytesOf Tryz.prog 166 = 0 := by unfold bytesOf; rw [info166]; rfl
@[go_sem] theorem takeVar166 (cs : List PV) : takeVar Tryz.prog 166 cs = if 0 ≤ cs.length then some (.agg (cs.take 0)) else none := by unfold takeVar isAggT; rw [Tryz.underlying166, info166]; rfl
@[go_sem] theorem partA166 (cs : List PV) (k : Nat) : partA Tryz.prog 166 cs k = if k + 0 ≤ cs.length then some (.agg ((cs.drop k).take 0)) else none := by unfold partA isAggT; rw [Tryz.underlying166, info166]; rfl
@[go_sem] theorem zeroA166 : zeroA Tryz.prog 166 = some (.agg []) := by unfold zeroA; rw [info166]; rfl
@[go_sem] theorem zeroOk166 : zeroOk Tryz.prog 166 = true := by unfold zeroOk; rw [zeroA166, cellsOf166]; rfl
attribute [go_sem] Tryz.underlying166
@[go_sem] theorem has167 : (Tryz.prog.info? 167).isSome = true := by rw [info167]; rfl
@[go_sem] theorem cellsOf167 : Tryz.prog.cellsOf 167 = 0 := by unfold Program.cellsOf; rw [info167]; rfl
@[go_sem] theorem bytesOf167 : bytesOf Tryz.prog 167 = 0 := by unfold bytesOf; rw [info167]; rfl
@[go_sem] theorem takeVar167 (cs : List PV) : takeVar Tryz.prog 167 cs = if 0 ≤ cs.length then some (.agg (cs.take 0)) else none := by unfold takeVar isAggT; rw [Tryz.underlying167, info167]; rfl
@[go_sem] theorem partA167 (cs : List PV) (k : Nat) : partA Tryz.prog 167 cs k = if k + 0 ≤ cs.length then some (.agg ((cs.drop k).take 0)) else none := by unfold partA isAggT; rw [Tryz.underlying167, info167]; rfl
@[go_sem] theorem zeroA167 : zeroA Tryz.prog 167 = some (.agg []) := by unfold zeroA; rw [info167]; rfl
@[go_sem] theorem zeroOk167 : zeroOk Tryz.prog 167 = true := by unfold zeroOk; rw [zeroA167, cellsOf167]; rfl
attribute [go_sem] Tryz.underlying167
@[go_sem] theorem has168 : (Tryz.prog.info? 168).isSome = true := by rw [info168]; rfl
@[go_sem] theorem cellsOf168 : Tryz.prog.cellsOf 168 = 1 := by unfold Program.cellsOf; rw [info168]; rfl
@[go_sem] theorem bytesOf168 : bytesOf Tryz.prog 168 = 8 := by unfold bytesOf; rw [info168]; rfl
@[go_sem] theorem takeVar168 (cs : List PV) : takeVar Tryz.prog 168 cs = cs[0]? := by unfold takeVar isAggT; rw [Tryz.underlying168, info168]
@[go_sem] theorem partA168 (cs : List PV) (k : Nat) : partA Tryz.prog 168 cs k = cs[k]? := by unfold partA isAggT; rw [Tryz.underlying168, info168]
@[go_sem] theorem zeroA168 : zeroA Tryz.prog 168 = some .nilfn := by unfold zeroA; rw [info168]; rfl
@[go_sem] theorem zeroOk168 : zeroOk Tryz.prog 168 = true := by unfold zeroOk; rw [zeroA168, cellsOf168]; rfl
attribute [go_sem] Tryz.underlying168
@[go_sem] theorem has169 : (Tryz.prog.info? 169).isSome = true := by rw [info169]; rfl
@[go_sem] theorem cellsOf169 : Tryz.prog.cellsOf 169 = 1 := by unfold Program.cellsOf; rw [info169]; rfl
@[go_sem] theorem bytesOf169 : bytesOf Tryz.prog 169 = 8 := by unfold bytesOf; rw [info169]; rfl
@[go_sem] theorem takeVar169 (cs : List PV) : takeVar Tryz.prog 169 cs = cs[0]? := by unfold takeVar isAggT; rw [Tryz.underlying169, info169]
@[go_sem] theorem partA169 (cs : List PV) (k : Nat) : partA Tryz.prog 169 cs k = cs[k]? := by unfold partA isAggT; rw [Tryz.underlying169, info169]
@[go_sem] theorem zeroA169 : zeroA Tryz.prog 169 = some .nilfn := by unfold zeroA; rw [info169]; rfl
@[go_sem] theorem zeroOk169 : zeroOk Tryz.prog 169 = true := by unfold zeroOk; rw [zeroA169, cellsOf169]; rfl
attribute [go_sem] Tryz.underlying169
@[go_sem] theorem has170 : (Tryz.prog.info? 170).isSome = true := by rw [info170]; rfl
@[go_sem] theorem cellsOf170 : Tryz.prog.cellsOf 170 = 1 := by unfold Program.cellsOf; rw [info170]; rfl
@[go_sem] theorem bytesOf170 : bytesOf Tryz.prog 170 = 8 := by unfold bytesOf; rw [info170]; rfl
@[go_sem] theorem takeVar170 (cs : List PV) : takeVar Tryz.prog 170 cs = cs[0]? := by unfold takeVar isAggT; rw [Tryz.underlying170, info170]
@[go_sem] theorem partA170 (cs : List PV) (k : Nat) : partA Tryz.prog 170 cs k = cs[k]? := by unfold partA isAggT; rw [Tryz.underlying170, info170]
@[go_sem] theorem zeroA170 : zeroA Tryz.prog 170 = some .nilfn := by unfold zeroA; rw [info170]; rfl
@[go_sem] theorem zeroOk170 : zeroOk Tryz.prog 170 = true := by unfold zeroOk; rw [zeroA170, cellsOf170]; rfl
attribute [go_sem] Tryz.underlying170
@[go_sem] theorem has175 : (Tryz.prog.info? 175).isSome = true := by rw [info175]; rfl
@[go_sem] theorem cellsOf175 : Tryz.prog.cellsOf 175 = 1 := by unfold Program.cellsOf; rw [info175]; rfl
@[go_sem] theorem bytesOf175 : bytesOf Tryz.prog 175 = 8 := by unfold bytesOf; rw [info175]; rfl
@[go_sem] theorem takeVar175 (cs : List PV) : takeVar Tryz.prog 175 cs = cs[0]? := by unfold takeVar isAggT; rw [Tryz.underlying175, info175]
@[go_sem] theorem partA175 (cs : List PV) (k : Nat) : partA Tryz.prog 175 cs k = cs[k]? := by unfold partA isAggT; rw [Tryz.underlying175, info175]
@[go_sem] theorem zeroA175 : zeroA Tryz.prog 175 = some .nilp := by unfold zeroA; rw [info175]; rfl
@[go_sem] theorem zeroOk175 : zeroOk Tryz.prog 175 = true := by unfold zeroOk; rw [zeroA175, cellsOf175]; rfl
attribute [go_sem] Tryz.underlying175
@[go_sem] theorem has181 : (Tryz.prog.info? 181).isSome = true := by rw [info181]; rfl
@[go_sem] theorem cellsOf181 : Tryz.prog.cellsOf 181 = 1 := by unfold Program.cellsOf; rw [info181]; rfl
@[go_sem] theorem bytesOf181 : bytesOf Tryz.prog 181 = 8 := by unfold bytesOf; rw [info181]; rfl
@[go_sem] theorem takeVar181 (cs : List PV) : takeVar Tryz.prog 181 cs = cs[0]? := by unfold takeVar isAggT; rw [Tryz.underlying181, info181]
@[go_sem] theorem partA181 (cs : List PV) (k : Nat) : partA Tryz.prog 181 cs k = cs[k]? := by unfold partA isAggT; rw [Tryz.underlying181, info181]
@[go_sem] theorem zeroA181 : zeroA Tryz.prog 181 = some .nilfn := by unfold zeroA; rw [info181]; rfl
@[go_sem] theorem zeroOk181 : zeroOk Tryz.prog 181 = true := by unfold zeroOk; rw [zeroA181, cellsOf181]; rfl
attribute [go_sem] Tryz.underlying181
@[go_sem] theorem has186 : (Tryz.prog.info? 186).isSome = true := by rw [info186]; rfl
@[go_sem] theorem cellsOf186 : Tryz.prog.cellsOf 186 = 0 := by unfold Program.cellsOf; rw [info186]; rfl
@[go_sem] theorem bytesOf186 : bytesOf Tryz.prog 186 = 0 := by unfold bytesOf; rw [info186]; rfl
@[go_sem] theorem takeVar186 (cs : List PV) : takeVar Tryz.prog 186 cs = if 0 ≤ cs.length then some (.agg (cs.take 0)) else none := by unfold takeVar isAggT; rw [Tryz.underlying186, info186]; rfl
@[go_sem] theorem partA186 (cs : List PV) (k : Nat) : partA Tryz.prog 186 cs k = if k + 0 ≤ cs.length then some (.agg ((cs.drop k).take 0)) else none := by unfold partA isAggT; rw [Tryz.underlying186, info186]; rfl
@[go_sem] theorem zeroA186 : zeroA Tryz.prog 186 = some (.agg []) := by unfold zeroA; rw [info186]; rfl
@[go_sem] theorem zeroOk186 : zeroOk Tryz.prog 186 = true := by unfold zeroOk; rw [zeroA186, cellsOf186]; rfl
attribute [go_sem] Tryz.underlying186
@[go_sem] theorem has187 : (Tryz.prog.info? 187).isSome = true := by rw [info187]; rfl
@[go_sem] theorem cellsOf187 : Tryz.prog.cellsOf 187 = 0 := by unfold Program.cellsOf; rw [info187]; rfl
@[go_sem] theorem bytesOf187 : bytesOf Tryz.prog 187 = 0 := by unfold bytesOf; rw [info187]; rfl
@[go_sem] theorem takeVar187 (cs : List PV) : takeVar Tryz.prog 187 cs = if 0 ≤ cs.length then some (.agg (cs.take 0)) else none := by unfold takeVar isAggT; rw [Tryz.underlying187, info187]; rfl
@[go_sem] theorem partA187 (cs : List PV) (k : Nat) : partA Tryz.prog 187 cs k = if k + 0 ≤ cs.length then some (.agg ((cs.drop k).take 0)) else none := by unfold partA isAggT; rw [Tryz.underlying187, info187]; rfl
@[go_sem] theorem zeroA187 : zeroA Tryz.prog 187 = some (.agg []) := by unfold zeroA; rw [info187]; rfl
@[go_sem] theorem zeroOk187 : zeroOk Tryz.prog 187 = true := by unfold zeroOk; rw [zeroA187, cellsOf187]; rfl
attribute [go_sem] Tryz.underlying187
@[go_sem] theorem has188 : (Tryz.prog.info? 188).isSome = true := by rw [info188]; rfl
@[go_sem] theorem cellsOf188 : Tryz.prog.cellsOf 188 = 0 := by unfold Program.cellsOf; rw [info188]; rfl
@[go_sem] theorem bytesOf188 : bytesOf Tryz.prog 188 = 0 := by unfold bytesOf; rw [info188]; rfl
@[go_sem] theorem takeVar188 (cs : List PV) : takeVar Tryz.prog 188 cs = if 0 ≤ cs.length then some (.agg (cs.take 0)) else none := by unfold takeVar isAggT; rw [Tryz.underlying188, info188]; rfl
@[go_sem] theorem partA188 (cs : List PV) (k : Nat) : partA Tryz.prog 188 cs k = if k + 0 ≤ cs.length then some (.agg ((cs.drop k).take 0)) else none := by unfold partA isAggT; rw [Tryz.underlying188, info188]; rfl
@[go_sem] theorem zeroA188 : zeroA Tryz.prog 188 = some (.agg []) := by unfold zeroA; rw [info188]; rfl
@[go_sem] theorem zeroOk188 : zeroOk Tryz.prog 188 = true := by unfold zeroOk; rw [zeroA188, cellsOf188]; rfl
attribute [go_sem] Tryz.underlying188
@[go_sem] theorem has189 : (Tryz.prog.info? 189).isSome = true := by rw [info189]; rfl
@[go_sem] theorem cellsOf189 : Tryz.prog.cellsOf 189 = 0 := by unfold Program.cellsOf; rw [info189]; rfl
@[go_sem] theorem bytesOf189 : bytesOf Tryz.prog 189 = 0 := by unfold bytesOf; rw [info189]; rfl
@[go_sem] theorem takeVar189 (cs : List PV) : takeVar Tryz.prog 189 cs = if 0 ≤ cs.length then some (.agg (cs.take 0)) else none := by unfold takeVar isAggT; rw [Tryz.underlying189, info189]; rfl
@[go_sem] theorem partA189 (cs : List PV) (k : Nat) : partA Tryz.prog 189 cs k = if k + 0 ≤ cs.length then some (.agg ((cs.drop k).take 0)) else none := by unfold partA isAggT; rw [Tryz.underlying189, info189]; rfl
@[go_sem] theorem zeroA189 : zeroA Tryz.prog 189 = some (.agg []) := by unfold zeroA; rw [info189]; rfl
@[go_sem] theorem zeroOk189 : zeroOk Tryz.prog 189 = true := by unfold zeroOk; rw [zeroA189, cellsOf189]; rfl
attribute [go_sem] Tryz.underlying189
@[go_sem] theorem has192 : (Tryz.prog.info? 192).isSome = true := by rw [info192]; rfl
@[go_sem] theorem cellsOf192 : Tryz.prog.cellsOf 192 = 1 := by unfold Program.cellsOf; rw [info192]; rfl
@[go_sem] theorem bytesOf192 : bytesOf Tryz.prog 192 = 8 := by unfold bytesOf; rw [info192]; rfl
@[go_sem] theorem takeVar192 (cs : List PV) : takeVar Tryz.prog 192 cs = cs[0]? := by unfold takeVar isAggT; rw [Tryz.underlying192, info192]
@[go_sem] theorem partA192 (cs : List PV) (k : Nat) : partA Tryz.prog 192 cs k = cs[k]? := by unfold partA isAggT; rw [Tryz.underlying192, info192]
@[go_sem] theorem zeroA192 : zeroA Tryz.prog 192 = some .nilfn := by unfold zeroA; rw [info192]; rfl
@[go_sem] theorem zeroOk192 : zeroOk Tryz.prog 192 = true := by unfold zeroOk; rw [zeroA192, cellsOf192]; rfl
attribute [go_sem] Tryz.underlying192
@[go_sem] theorem has194 : (Tryz.prog.info? 194).isSome = true := by rw [info194]; rfl
@[go_sem] theorem cellsOf194 : Tryz.prog.cellsOf 194 = 1 := by unfold Program.cellsOf; rw [info194]; rfl
@[go_sem] theorem bytesOf194 : bytesOf Tryz.prog 194 = 8 := by unfold bytesOf; rw [info194]; rfl
@[go_sem] theorem takeVar194 (cs : List PV) : takeVar Tryz.prog 194 cs = cs[0]? := by unfold takeVar isAggT; rw [Tryz.underlying194, info194]
@[go_sem] theorem partA194 (cs : List PV) (k : Nat) : partA Tryz.prog 194 cs k = cs[k]? := by unfold partA isAggT; rw [Tryz.underlying194, info194]
@[go_sem] theorem zeroA194 : zeroA Tryz.prog 194 = some .nilfn := by unfold zeroA; rw [info194]; rfl
@[go_sem] theorem zeroOk194 : zeroOk Tryz.prog 194 = true := by unfold zeroOk; rw [zeroA194, cellsOf194]; rfl
attribute [go_sem] Tryz.underlying194
@[go_sem] theorem has203 : (Tryz.prog.info? 203).isSome = true := by rw [info203]; rfl
@[go_sem] theorem cellsOf203 : Tryz.prog.cellsOf 203 = 6 := by unfold Program.cellsOf; rw [info203]; rfl
@[go_sem] theorem bytesOf203 : bytesOf Tryz.prog 203 = 80 := by unfold bytesOf; rw [info203]; rfl
@[go_sem] theorem takeVar203 (cs : List PV) : takeVar Tryz.prog 203 cs = if 6 ≤ cs.length then some (.agg (cs.take 6)) else none := by unfold takeVar isAggT; rw [Tryz.underlying203, info203]; rfl
@[go_sem] theorem partA203 (cs : List PV) (k : Nat) : partA Tryz.prog 203 cs k = if k + 6 ≤ cs.length then some (.agg ((cs.drop k).take 6)) else none := by unfold partA isAggT; rw [Tryz.underlying203, info203]; rfl
@[go_sem] theorem zeroA203 : zeroA Tryz.prog 203 = some (.agg [(.int IntKind.i64 0), (.int IntKind.i64 0), (.int IntKind.i64 0), (.int IntKind.i64 0), .emp, .emp]) := by unfold zeroA; rw [info203]; rfl
@[go_sem] theorem zeroOk203 : zeroOk Tryz.prog 203 = true := by unfold zeroOk; rw [zeroA203, cellsOf203]; rfl
@[go_sem] theorem field203_0 : fieldInfo Tryz.prog 203 0 = some (0, 46) := by unfold fieldInfo; rw [Tryz.underlying203]; show (match Tryz.prog.info? 46 with | some i => if i.size = 0 then none else some (0, 46) | none => none) = _; rw [info46]; rfl
@[go_sem] theorem field203_1 : fieldInfo Tryz.prog 203 1 = some (5, 61) := by unfold fieldInfo; rw [Tryz.underlying203]; show (match Tryz.prog.info? 61 with | some i => if i.size = 0 then none else some (5, 61) | none => none) = _; rw [info61]; rfl
attribute [go_sem] Tryz.underlying203
@[go_sem] theorem has209 : (Tryz.prog.info? 209).isSome = true := by rw [info209]; rfl
@[go_sem] theorem cellsOf209 : Tryz.prog.cellsOf 209 = 4 := by unfold Program.cellsOf; rw [info209]; rfl
@[go_sem] theorem bytesOf209 : bytesOf Tryz.prog 209 = 40 := by unfold bytesOf; rw [info209]; rfl
@[go_sem] theorem takeVar209 (cs : List PV) : takeVar Tryz.prog 209 cs = if 4 ≤ cs.length then some (.agg (cs.take 4)) else none := by unfold takeVar isAggT; rw [Tryz.underlying209, info209]; rfl
@[go_sem] theorem partA209 (cs : List PV) (k : Nat) : partA Tryz.prog 209 cs k = if k + 4 ≤ cs.length then some (.agg ((cs.drop k).take 4)) else none := by unfold partA isAggT; rw [Tryz.underlying209, info209]; rfl
@[go_sem] theorem zeroA209 : zeroA Tryz.prog 209 = some (.agg [.nilp, .nilp, .nilp, (.str ({ data := #[] }))]) := by unfold zeroA; rw [info209]; rfl
@[go_sem] theorem zeroOk209 : zeroOk Tryz.prog 209 = true := by unfold zeroOk; rw [zeroA209, cellsOf209]; rfl
@[go_sem] theorem field209_0 : fieldInfo Tryz.prog 209 0 = some (0, 17) := by unfold fieldInfo; rw [Tryz.underlying209]; show (match Tryz.prog.info? 17 with | some i => if i.size = 0 then none else some (0, 17) | none => none) = _; rw [info17]; rfl
@[go_sem] theorem field209_1 : fieldInfo Tryz.prog 209 1 = some (1, 17) := by unfold fieldInfo; rw [Tryz.underlying209]; show (match Tryz.prog.info? 17 with | some i => if i.size = 0 then none else some (1, 17) | none => none) = _; rw [info17]; rfl
@[go_sem] theorem field209_2 : fieldInfo Tryz.prog 209 2 = some (2, 17) := by unfold fieldInfo; rw [Tryz.underlying209]; show (match Tryz.prog.info? 17 with | some i => if i.size = 0 then none else some (2, 17) | none => none) = _; rw [info17]; rfl
@[go_sem] theorem field209_3 : fieldInfo Tryz.prog 209 3 = some (3, 9) := by unfold fieldInfo; rw [Tryz.underlying209]; show (match Tryz.prog.info? 9 with | some i => if i.size = 0 then none else some (3, 9) | none => none) = _; rw [info9]; rfl
attribute [go_sem] Tryz.underlying209
@[go_sem] theorem has218 : (Tryz.prog.info? 218).isSome = true := by rw [info218]; rfl
@[go_sem] theorem cellsOf218 : Tryz.prog.cellsOf 218 = 1 := by unfold Program.cellsOf; rw [info218]; rfl
@[go_sem] theorem bytesOf218 : bytesOf Tryz.prog 218 = 8 := by unfold bytesOf; rw [info218]; rfl
@[go_sem] theorem takeVar218 (cs : List PV) : takeVar Tryz.prog 218 cs = cs[0]? := by unfold takeVar isAggT; rw [Tryz.underlying218, info218]
@[go_sem] theorem partA218 (cs : List PV) (k : Nat) : partA Tryz.prog 218 cs k = cs[k]? := by unfold partA isAggT; rw [Tryz.underlying218, info218]
@[go_sem] theorem zeroA218 : zeroA Tryz.prog 218 = some .nilp := by unfold zeroA; rw [info218]; rfl
@[go_sem] theorem zeroOk218 : zeroOk Tryz.prog 218 = true := by unfold zeroOk; rw [zeroA218, cellsOf218]; rfl
attribute [go_sem] Tryz.underlying218
@[go_sem] theorem has240 : (Tryz.prog.info? 240).isSome = true := by rw [info240]; rfl
@[go_sem] theorem cellsOf240 : Tryz.prog.cellsOf 240 = 1 := by unfold Program.cellsOf; rw [info240]; rfl
@[go_sem] theorem bytesOf240 : bytesOf Tryz.prog 240 = 8 := by unfold bytesOf; rw [info240]; rfl
@[go_sem] theorem takeVar240 (cs : List PV) : takeVar Tryz.prog 240 cs = cs[0]? := by unfold takeVar isAggT; rw [Tryz.underlying240, info240]
@[go_sem] theorem partA240 (cs : List PV) (k : Nat) : partA Tryz.prog 240 cs k = cs[k]? := by unfold partA isAggT; rw [Tryz.underlying240, info240]
@[go_sem] theorem zeroA240 : zeroA Tryz.prog 240 = some .nilfn := by unfold zeroA; rw [info240]; rfl
@[go_sem] theorem zeroOk240 : zeroOk Tryz.prog 240 = true := by unfold zeroOk; rw [zeroA240, cellsOf240]; rfl
attribute [go_sem] Tryz.underlying240
@[go_sem] theorem has241 : (Tryz.prog.info? 241).isSome = true := by rw [info241]; rfl
@[go_sem] theorem cellsOf241 : Tryz.prog.cellsOf 241 = 1 := by unfold Program.cellsOf; rw [info241]; rfl
@[go_sem] theorem bytesOf241 : bytesOf Tryz.prog 241 = 8 := by unfold bytesOf; rw [info241]; rfl
@[go_sem] theorem takeVar241 (cs : List PV) : takeVar Tryz.prog 241 cs = cs[0]? := by unfold takeVar isAggT; rw [Tryz.underlying241, info241]
@[go_sem] theorem partA241 (cs : List PV) (k : Nat) : partA Tryz.prog 241 cs k = cs[k]? := by unfold partA isAggT; rw [Tryz.underlying241, info241]
@[go_sem] theorem zeroA241 : zeroA Tryz.prog 241 = some (.int IntKind.i64 0) := by unfold zeroA; rw [info241]; rfl
@[go_sem] theorem zeroOk241 : zeroOk Tryz.prog 241 = true := by unfold zeroOk; rw [zeroA241, cellsOf241]; rfl
attribute [go_sem] Tryz.underlying241
@[go_sem] theorem buildA7 (ps : List (Nat × PV)) : buildA Tryz.prog 7 ps = (match fillL [(0, 1), (1, 1), (2, 1), (3, 1)] [(.int IntKind.i64 0), (.int IntKind.i64 0), (.bool false), (.int IntKind.u8 0)] ps with | some cs => some (.agg cs) | none => none) := buildA_of zeroA7 (placesA_struct Tryz.underlying7 (by simp only [List.all_cons, List.all_nil, has2, has3, has4, has6, Bool.and_self]) (by simp only [List.map_cons, List.map_nil, cellsOf2, cellsOf3, cellsOf4, cellsOf6])) ps
@[go_sem] theorem buildA8 (ps : List (Nat × PV)) : buildA Tryz.prog 8 ps = (match fillL [(0, 1), (1, 1), (2, 1), (3, 1)] [(.int IntKind.i64 0), (.int IntKind.i64 0), (.bool false), (.int IntKind.u8 0)] ps with | some cs => some (.agg cs) | none => none) := buildA_of zeroA8 (placesA_struct Tryz.underlying8 (by simp only [List.all_cons, List.all_nil, has2, has3, has4, has6, Bool.and_self]) (by simp only [List.map_cons, List.map_nil, cellsOf2, cellsOf3, cellsOf4, cellsOf6])) ps
@[go_sem] theorem buildA13 (ps : List (Nat × PV)) : buildA Tryz.prog 13 ps = (match fillL [(0, 1), (1, 1)] [(.str ({ data := #[] })), (.int IntKind.u64 0)] ps with | some cs => some (.agg cs) | none => none) := buildA_of zeroA13 (placesA_struct Tryz.underlying13 (by simp only [List.all_cons, List.all_nil, has9, has12, Bool.and_self]) (by simp only [List.map_cons, List.map_nil, cellsOf9, cellsOf12])) ps
@[go_sem] theorem buildA14 (ps : List (Nat × PV)) : buildA Tryz.prog 14 ps = (match fillL [(0, 1), (1, 1)] [(.str ({ data := #[] })), (.int IntKind.u64 0)] ps with | some cs => some (.agg cs) | none => none) := buildA_of zeroA14 (placesA_struct Tryz.underlying14 (by simp only [List.all_cons, List.all_nil, has9, has12, Bool.and_self]) (by simp only [List.map_cons, List.map_nil, cellsOf9, cellsOf12])) ps
@[go_sem] theorem buildA19 (ps : List (Nat × PV)) : buildA Tryz.prog 19 ps = (match fillL [(0, 1)] [.nilp] ps with | some cs => some (.agg cs) | none => none) := buildA_of zeroA19 (placesA_struct Tryz.underlying19 (by simp only [List.all_cons, List.all_nil, has17, Bool.and_self]) (by simp only [List.map_cons, List.map_nil, cellsOf17])) ps
@[go_sem] theorem buildA25 (ps : List (Nat × PV)) : buildA Tryz.prog 25 ps = (match fillL [(0, 1), (1, 1), (2, 1)] [(.int IntKind.i64 0), .emp, .emp] ps with | some cs => some (.agg cs) | none => none) := buildA_of zeroA25 (placesA_struct Tryz.underlying25 (by simp only [List.all_cons, List.all_nil, has3, has23, has24, Bool.and_self]) (by simp only [List.map_cons, List.map_nil, cellsOf3, cellsOf23, cellsOf24])) ps
@[go_sem] theorem buildA26 (ps : List (Nat × PV)) : buildA Tryz.prog 26 ps = (match fillL [(0, 1), (1, 1), (2, 1)] [(.int IntKind.i64 0), .emp, .emp] ps with | some cs => some (.agg cs) | none => none) := buildA_of zeroA26 (placesA_struct Tryz.underlying26 (by simp only [List.all_cons, List.all_nil, has3, has23, has24, Bool.and_self]) (by simp only [List.map_cons, List.map_nil, cellsOf3, cellsOf23, cellsOf24])) ps
@[go_sem] theorem buildA28 (ps : List (Nat × PV)) : buildA Tryz.prog 28 ps = (match fillL [(0, 1), (1, 1)] [.emp, .emp] ps with | some cs => some (.agg cs) | none => none) := buildA_of zeroA28 (placesA_struct Tryz.underlying28 (by simp only [List.all_cons, List.all_nil, has27, Bool.and_self]) (by simp only [List.map_cons, List.map_nil, cellsOf27])) ps
@[go_sem] theorem buildA29 (ps : List (Nat × PV)) : buildA Tryz.prog 29 ps = (match fillL [(0, 1), (1, 1)] [.emp, .emp] ps with | some cs => some (.agg cs) | none => none) := buildA_of zeroA29 (placesA_struct Tryz.underlying29 (by simp only [List.all_cons, List.all_nil, has27, Bool.and_self]) (by simp only [List.map_cons, List.map_nil, cellsOf27])) ps
@[go_sem] theorem buildA31 (ps : List (Nat × PV)) : buildA Tryz.prog 31 ps = (match fillL [(0, 1), (1, 1), (2, 1)] [.emp, .emp, .emp] ps with | some cs => some (.agg cs) | none => none) := buildA_of zeroA31 (placesA_struct Tryz.underlying31 (by simp only [List.all_cons, List.all_nil, has30, Bool.and_self]) (by simp only [List.map_cons, List.map_nil, cellsOf30])) ps
@[go_sem] theorem buildA32 (ps : List (Nat × PV)) : buildA Tryz.prog 32 ps = (match fillL [(0, 1), (1, 1), (2, 1)] [.emp, .emp, .emp] ps with | some cs => some (.agg cs) | none => none) := buildA_of zeroA32 (placesA_struct Tryz.underlying32 (by simp only [List.all_cons, List.all_nil, has30, Bool.and_self]) (by simp only [List.map_cons, List.map_nil, cellsOf30])) ps
@[go_sem] theorem buildA38 (ps : List (Nat × PV)) : buildA Tryz.prog 38 ps = (match fillL [(0, 1), (1, 1)] [(.int IntKind.i64 0), (.int IntKind.i64 0)] ps with | some cs => some (.agg cs) | none => none) := buildA_of zeroA38 (placesA_struct Tryz.underlying38 (by simp only [List.all_cons, List.all_nil, has3, Bool.and_self]) (by simp only [List.map_cons, List.map_nil, cellsOf3])) ps
@[go_sem] theorem buildA39 (ps : List (Nat × PV)) : buildA Tryz.prog 39 ps = (match fillL [(0, 1), (1, 1)] [(.int IntKind.i64 0), (.int IntKind.i64 0)] ps with | some cs => some (.agg cs) | none => none) := buildA_of zeroA39 (placesA_struct Tryz.underlying39 (by simp only [List.all_cons, List.all_nil, has3, Bool.and_self]) (by simp only [List.map_cons, List.map_nil, cellsOf3])) ps
@[go_sem] theorem buildA41 (ps : List (Nat × PV)) : buildA Tryz.prog 41 ps = (match fillL [(0, 1), (1, 1), (2, 2)] [(.int IntKind.i64 0), (.int IntKind.i64 0), (.int IntKind.i64 0), (.int IntKind.i64 0)] ps with | some cs => some (.agg cs) | none => none) := buildA_of zeroA41 (placesA_struct Tryz.underlying41 (by simp only [List.all_cons, List.all_nil, has3, has39, Bool.and_self]) (by simp only [List.map_cons, List.map_nil, cellsOf3, cellsOf39])) ps
@[go_sem] theorem buildA46 (ps : List (Nat × PV)) : buildA Tryz.prog 46 ps = (match fillL [(0, 1), (1, 1), (2, 2), (4, 1)] [(.int IntKind.i64 0), (.int IntKind.i64 0), (.int IntKind.i64 0), (.int IntKind.i64 0), .emp] ps with | some cs => some (.agg cs) | none => none) := buildA_of zeroA46 (placesA_struct Tryz.underlying46 (by simp only [List.all_cons, List.all_nil, has3, has39, has44, Bool.and_self]) (by simp only [List.map_cons, List.map_nil, cellsOf3, cellsOf39, cellsOf44])) ps
@[go_sem] theorem buildA47 (ps : List (Nat × PV)) : buildA Tryz.prog 47 ps = (match fillL [(0, 1), (1, 1), (2, 5)] [.emp, .emp, (.int IntKind.i64 0), (.int IntKind.i64 0), (.int IntKind.i64 0), (.int IntKind.i64 0), .emp] ps with | some cs => some (.agg cs) | none => none) := buildA_of zeroA47 (placesA_struct Tryz.underlying47 (by simp only [List.all_cons, List.all_nil, has30, has46, Bool.and_self]) (by simp only [List.map_cons, List.map_nil, cellsOf30, cellsOf46])) ps
@[go_sem] theorem buildA48 (ps : List (Nat × PV)) : buildA Tryz.prog 48 ps = (match fillL [(0, 1), (1, 1), (2, 5)] [.emp, .emp, (.int IntKind.i64 0), (.int IntKind.i64 0), (.int IntKind.i64 0), (.int IntKind.i64 0), .emp] ps with | some cs => some (.agg cs) | none => none) := buildA_of zeroA48 (placesA_struct Tryz.underlying48 (by simp only [List.all_cons, List.all_nil, has30, has46, Bool.and_self]) (by simp only [List.map_cons, List.map_nil, cellsOf30, cellsOf46])) ps
@[go_sem] theorem buildA93 (ps : List (Nat × PV)) : buildA Tryz.prog 93 ps = (match fillL [(0, 1), (1, 1), (2, 6)] [(.int IntKind.u64 0), (.int IntKind.u64 0), (.bool false), (.bool false), (.bool false), (.bool false), (.bool false), (.bool false)] ps with | some cs => some (.agg cs) | none => none) := buildA_of zeroA93 (placesA_struct Tryz.underlying93 (by simp only [List.all_cons, List.all_nil, has90, has91, Bool.and_self]) (by simp only [List.map_cons, List.map_nil, cellsOf90, cellsOf91])) ps
@[go_sem] theorem buildA110 (ps : List (Nat × PV)) : buildA Tryz.prog 110 ps = (match fillL [(0, 1), (1, 1)] [(.int IntKind.i64 0), (.int IntKind.i64 0)] ps with | some cs => some (.agg cs) | none => none) := buildA_of zeroA110 (placesA_struct Tryz.underlying110 (by simp only [List.all_cons, List.all_nil, has3, Bool.and_self]) (by simp only [List.map_cons, List.map_nil, cellsOf3])) ps
@[go_sem] theorem buildA113 (ps : List (Nat × PV)) : buildA Tryz.prog 113 ps = (match fillL [(0, 1), (1, 1), (2, 2), (4, 1)] [(.int IntKind.i64 0), (.int IntKind.i64 0), (.int IntKind.i64 0), (.int IntKind.i64 0), .emp] ps with | some cs => some (.agg cs) | none => none) := buildA_of zeroA113 (placesA_struct Tryz.underlying113 (by simp only [List.all_cons, List.all_nil, has3, has110, has111, Bool.and_self]) (by simp only [List.map_cons, List.map_nil, cellsOf3, cellsOf110, cellsOf111])) ps
@[go_sem] theorem buildA114 (ps : List (Nat × PV)) : buildA Tryz.prog 114 ps = (match fillL [(0, 1), (1, 2), (3, 5), (8, 1), (9, 1)] [(.int IntKind.i64 0), (.int IntKind.i64 0), (.int IntKind.i64 0), (.int IntKind.i64 0), (.int IntKind.i64 0), (.int IntKind.i64 0), (.int IntKind.i64 0), .emp, .emp, .emp] ps with | some cs => some (.agg cs) | none => none) := buildA_of zeroA114 (placesA_struct Tryz.underlying114 (by simp only [List.all_cons, List.all_nil, has3, has59, has110, has113, Bool.and_self]) (by simp only [List.map_cons, List.map_nil, cellsOf3, cellsOf59, cellsOf110, cellsOf113])) ps
@[go_sem] theorem buildA115 (ps : List (Nat × PV)) : buildA Tryz.prog 115 ps = (match fillL [(0, 1), (1, 2), (3, 5), (8, 1), (9, 1)] [(.int IntKind.i64 0), (.int IntKind.i64 0), (.int IntKind.i64 0), (.int IntKind.i64 0), (.int IntKind.i64 0), (.int IntKind.i64 0), (.int IntKind.i64 0), .emp, .emp, .emp] ps with | some cs => some (.agg cs) | none => none) := buildA_of zeroA115 (placesA_struct Tryz.underlying115 (by simp only [List.all_cons, List.all_nil, has3, has59, has110, has113, Bool.and_self]) (by simp only [List.map_cons, List.map_nil, cellsOf3, cellsOf59, cellsOf110, cellsOf113])) ps
@[go_sem] theorem buildA123 (ps : List (Nat × PV)) : buildA Tryz.prog 123 ps = (match fillL [(0, 1), (1, 1)] [.emp, (.int IntKind.i64 0)] ps with | some cs => some (.agg cs) | none => none) := buildA_of zeroA123 (placesA_struct Tryz.underlying123 (by simp only [List.all_cons, List.all_nil, has3, has22, Bool.and_self]) (by simp only [List.map_cons, List.map_nil, cellsOf3, cellsOf22])) ps
@[go_sem] theorem buildA151 (ps : List (Nat × PV)) : buildA Tryz.prog 151 ps = (match fillL [(0, 18)] [(.int IntKind.i64 0), (.int IntKind.i64 0), (.int IntKind.i64 0), (.int IntKind.i64 0), (.int IntKind.i64 0), (.int IntKind.i64 0), (.int IntKind.i64 0), (.int IntKind.i64 0), (.int IntKind.i64 0), (.int IntKind.i64 0), (.int IntKind.i64 0), (.int IntKind.i64 0), (.int IntKind.i64 0), (.int IntKind.i64 0), (.int IntKind.i64 0), (.int IntKind.i64 0), (.int IntKind.i64 0), (.int IntKind.i64 0)] ps with | some cs => some (.agg cs) | none => none) := buildA_of zeroA151 (placesA_struct Tryz.underlying151 (by simp only [List.all_cons, List.all_nil, has149, Bool.and_self]) (by simp only [List.map_cons, List.map_nil, cellsOf149])) ps
@[go_sem] theorem buildA203 (ps : List (Nat × PV)) : buildA Tryz.prog 203 ps = (match fillL [(0, 5), (5, 1)] [(.int IntKind.i64 0), (.int IntKind.i64 0), (.int IntKind.i64 0), (.int IntKind.i64 0), .emp, .emp] ps with | some cs => some (.agg cs) | none => none) := buildA_of zeroA203 (placesA_struct Tryz.underlying203 (by simp only [List.all_cons, List.all_nil, has46, has61, Bool.and_self]) (by simp only [List.map_cons, List.map_nil, cellsOf46, cellsOf61])) ps
@[go_sem] theorem buildA209 (ps : List (Nat × PV)) : buildA Tryz.prog 209 ps = (match fillL [(0, 1), (1, 1), (2, 1), (3, 1)] [.nilp, .nilp, .nilp, (.str ({ data := #[] }))] ps with | some cs => some (.agg cs) | none => none) := buildA_of zeroA209 (placesA_struct Tryz.underlying209 (by simp only [List.all_cons, List.all_nil, has9, has17, Bool.and_self]) (by simp only [List.map_cons, List.map_nil, cellsOf9, cellsOf17])) ps
end Go.Proofs.YtnilkkcobeaglaaGreat
