/- A part of a proof: lemmas and contracts of functions; the last text of the claim says what is proved. -/
import Derived.Test.YtmicbfojofcigaaGreatX2b32928777
import Derived.Test.YtmicbfojofcigaaGreatChecked
set_option linter.unusedSectionVars false
set_option linter.unusedSimpArgs false
set_option linter.unusedVariables false
namespace Go.Proofs.YtmicbfojofcigaaGreat
open Go Sg
set_option maxRecDepth 100000
theorem info0 : Tryz.prog.info? 0 = some Tryz.t0 := by unfold Tables.info?; exact Tryz.type0
theorem info1 : Tryz.prog.info? 1 = some Tryz.t1 := by unfold Tables.info?; exact Tryz.type1
theorem info2 : Tryz.prog.info? 2 = some Tryz.t2 := by unfold Tables.info?; exact Tryz.type2
theorem info3 : Tryz.prog.info? 3 = some Tryz.t3 := by unfold Tables.info?; exact Tryz.type3
theorem info4 : Tryz.prog.info? 4 = some Tryz.t4 := by unfold Tables.info?; exact Tryz.type4
theorem info5 : Tryz.prog.info? 5 = some Tryz.t5 := by unfold Tables.info?; exact Tryz.type5
theorem info6 : Tryz.prog.info? 6 = some Tryz.t6 := by unfold Tables.info?; exact Tryz.type6
theorem info7 : Tryz.prog.info? 7 = some Tryz.t7 := by unfold Tables.info?; exact Tryz.type7
theorem info8 : Tryz.prog.info? 8 = some Tryz.t8 := by unfold Tables.info?; exact Tryz.type8
theorem info9 : Tryz.prog.info? 9 = some Tryz.t9 := by unfold Tables.info?; exact Tryz.type9
theorem info10 : Tryz.prog.info? 10 = some Tryz.t10 := by unfold Tables.info?; exact Tryz.type10
theorem info11 : Tryz.prog.info? 11 = some Tryz.t11 := by unfold Tables.info?; exact Tryz.type11
theorem info12 : Tryz.prog.info? 12 = some Tryz.t12 := by unfold Tables.info?; exact Tryz.type12
theorem info14 : Tryz.prog.info? 14 = some Tryz.t14 := by unfold Tables.info?; exact Tryz.type14
theorem info16 : Tryz.prog.info? 16 = some Tryz.t16 := by unfold Tables.info?; exact Tryz.type16
theorem info17 : Tryz.prog.info? 17 = some Tryz.t17 := by unfold Tables.info?; exact Tryz.type17
theorem info18 : Tryz.prog.info? 18 = some Tryz.t18 := by unfold Tables.info?; exact Tryz.type18
theorem info19 : Tryz.prog.info? 19 = some Tryz.t19 := by unfold Tables.info?; exact Tryz.type19
theorem info20 : Tryz.prog.info? 20 = some Tryz.t20 := by unfold Tables.info?; exact Tryz.type20
theorem info22 : Tryz.prog.info? 22 = some Tryz.t22 := by unfold Tables.info?; exact Tryz.type22
theorem info24 : Tryz.prog.info? 24 = some Tryz.t24 := by unfold Tables.info?; exact Tryz.type24
theorem info25 : Tryz.prog.info? 25 = some Tryz.t25 := by unfold Tables.info?; exact Tryz.type25
theorem info26 : Tryz.prog.info? 26 = some Tryz.t26 := by unfold Tables.info?; exact Tryz.type26
theorem info27 : Tryz.prog.info? 27 = some Tryz.t27 := by unfold Tables.info?; exact Tryz.type27
theorem info28 : Tryz.prog.info? 28 = some Tryz.t28 := by unfold Tables.info?; exact Tryz.type28
theorem info29 : Tryz.prog.info? 29 = some Tryz.t29 := by unfold Tables.info?; exact Tryz.type29
theorem info30 : Tryz.prog.info? 30 = some Tryz.t30 := by unfold Tables.info?; exact Tryz.type30
theorem info31 : Tryz.prog.info? 31 = some Tryz.t31 := by unfold Tables.info?; exact Tryz.type31
theorem info32 : Tryz.prog.info? 32 = some Tryz.t32 := by unfold Tables.info?; exact Tryz.type32
theorem info33 : Tryz.prog.info? 33 = some Tryz.t33 := by unfold Tables.info?; exact Tryz.type33
theorem info34 : Tryz.prog.info? 34 = some Tryz.t34 := by unfold Tables.info?; exact Tryz.type34
theorem info35 : Tryz.prog.info? 35 = some Tryz.t35 := by unfold Tables.info?; exact Tryz.type35
theorem info36 : Tryz.prog.info? 36 = some Tryz.t36 := by unfold Tables.info?; exact Tryz.type36
theorem info38 : Tryz.prog.info? 38 = some Tryz.t38 := by unfold Tables.info?; exact Tryz.type38
theorem info39 : Tryz.prog.info? 39 = some Tryz.t39 := by unfold Tables.info?; exact Tryz.type39
theorem info40 : Tryz.prog.info? 40 = some Tryz.t40 := by unfold Tables.info?; exact Tryz.type40
theorem info41 : Tryz.prog.info? 41 = some Tryz.t41 := by unfold Tables.info?; exact Tryz.type41
theorem info42 : Tryz.prog.info? 42 = some Tryz.t42 := by unfold Tables.info?; exact Tryz.type42
theorem info43 : Tryz.prog.info? 43 = some Tryz.t43 := by unfold Tables.info?; exact Tryz.type43
theorem info44 : Tryz.prog.info? 44 = some Tryz.t44 := by unfold Tables.info?; exact Tryz.type44
theorem info45 : Tryz.prog.info? 45 = some Tryz.t45 := by unfold Tables.info?; exact Tryz.type45
theorem info47 : Tryz.prog.info? 47 = some Tryz.t47 := by unfold Tables.info?; exact Tryz.type47
theorem info48 : Tryz.prog.info? 48 = some Tryz.t48 := by unfold Tables.info?; exact Tryz.type48
theorem info49 : Tryz.prog.info? 49 = some Tryz.t49 := by unfold Tables.info?; exact Tryz.type49
theorem info50 : Tryz.prog.info? 50 = some Tryz.t50 := by unfold Tables.info?; exact Tryz.type50
theorem info51 : Tryz.prog.info? 51 = some Tryz.t51 := by unfold Tables.info?; exact Tryz.type51
theorem info52 : Tryz.prog.info? 52 = some Tryz.t52 := by unfold Tables.info?; exact Tryz.type52
theorem info53 : Tryz.prog.info? 53 = some Tryz.t53 := by unfold Tables.info?; exact Tryz.type53
theorem info54 : Tryz.prog.info? 54 = some Tryz.t54 := by unfold Tables.info?; exact Tryz.type54
theorem info55 : Tryz.prog.info? 55 = some Tryz.t55 := by unfold Tables.info?; exact Tryz.type55
theorem info56 : Tryz.prog.info? 56 = some Tryz.t56 := by unfold Tables.info?; exact Tryz.type56
theorem info57 : Tryz.prog.info? 57 = some Tryz.t57 := by unfold Tables.info?; exact Tryz.type57
theorem info59 : Tryz.prog.info? 59 = some Tryz.t59 := by unfold Tables.info?; exact Tryz.type59
theorem info60 : Tryz.prog.info? 60 = some Tryz.t60 := by unfold Tables.info?; exact Tryz.type60
theorem info61 : Tryz.prog.info? 61 = some Tryz.t61 := by unfold Tables.info?; exact Tryz.type61
theorem info62 : Tryz.prog.info? 62 = some Tryz.t62 := by unfold Tables.info?; exact Tryz.type62
theorem info64 : Tryz.prog.info? 64 = some Tryz.t64 := by unfold Tables.info?; exact Tryz.type64
theorem info65 : Tryz.prog.info? 65 = some Tryz.t65 := by unfold Tables.info?; exact Tryz.type65
theorem info70 : Tryz.prog.info? 70 = some Tryz.t70 := by unfold Tables.info?; exact Tryz.type70
theorem info73 : Tryz.prog.info? 73 = some Tryz.t73 := by unfold Tables.info?; exact Tryz.type73
theorem info75 : Tryz.prog.info? 75 = some Tryz.t75 := by unfold Tables.info?; exact Tryz.type75
theorem info76 : Tryz.prog.info? 76 = some Tryz.t76 := by unfold Tables.info?; exact Tryz.type76
theorem info79 : Tryz.prog.info? 79 = some Tryz.t79 := by unfold Tables.info?; exact Tryz.type79
theorem info83 : Tryz.prog.info? 83 = some Tryz.t83 := by unfold Tables.info?; exact Tryz.type83
theorem info85 : Tryz.prog.info? 85 = some Tryz.t85 := by unfold Tables.info?; exact Tryz.type85
theorem info86 : Tryz.prog.info? 86 = some Tryz.t86 := by unfold Tables.info?; exact Tryz.type86
theorem info87 : Tryz.prog.info? 87 = some Tryz.t87 := by unfold Tables.info?; exact Tryz.type87
theorem info88 : Tryz.prog.info? 88 = some Tryz.t88 := by unfold Tables.info?; exact Tryz.type88
theorem info89 : Tryz.prog.info? 89 = some Tryz.t89 := by unfold Tables.info?; exact Tryz.type89
theorem info90 : Tryz.prog.info? 90 = some Tryz.t90 := by unfold Tables.info?; exact Tryz.type90
theorem info92 : Tryz.prog.info? 92 = some Tryz.t92 := by unfold Tables.info?; exact Tryz.type92
theorem info93 : Tryz.prog.info? 93 = some Tryz.t93 := by unfold Tables.info?; exact Tryz.type93
theorem info94 : Tryz.prog.info? 94 = some Tryz.t94 := by unfold Tables.info?; exact Tryz.type94
theorem info95 : Tryz.prog.info? 95 = some Tryz.t95 := by unfold Tables.info?; exact Tryz.type95
theorem info96 : Tryz.prog.info? 96 = some Tryz.t96 := by unfold Tables.info?; exact Tryz.type96
theorem info97 : Tryz.prog.info? 97 = some Tryz.t97 := by unfold Tables.info?; exact Tryz.type97
theorem info98 : Tryz.prog.info? 98 = some Tryz.t98 := by unfold Tables.info?; exact Tryz.type98
theorem info99 : Tryz.prog.info? 99 = some Tryz.t99 := by unfold Tables.info?; exact Tryz.type99
theorem info100 : Tryz.prog.info? 100 = some Tryz.t100 := by unfold Tables.info?; exact Tryz.type100
theorem info101 : Tryz.prog.info? 101 = some Tryz.t101 := by unfold Tables.info?; exact Tryz.type101
theorem info102 : Tryz.prog.info? 102 = some Tryz.t102 := by unfold Tables.info?; exact Tryz.type102
theorem info103 : Tryz.prog.info? 103 = some Tryz.t103 := by unfold Tables.info?; exact Tryz.type103
theorem info104 : Tryz.prog.info? 104 = some Tryz.t104 := by unfold Tables.info?; exact Tryz.type104
theorem info105 : Tryz.prog.info? 105 = some Tryz.t105 := by unfold Tables.info?; exact Tryz.type105
theorem info106 : Tryz.prog.info? 106 = some Tryz.t106 := by unfold Tables.info?; exact Tryz.type106
theorem info107 : Tryz.prog.info? 107 = some Tryz.t107 := by unfold Tables.info?; exact Tryz.type107
theorem info108 : Tryz.prog.info? 108 = some Tryz.t108 := by unfold Tables.info?; exact Tryz.type108
theorem info109 : Tryz.prog.info? 109 = some Tryz.t109 := by unfold Tables.info?; exact Tryz.type109
theorem info110 : Tryz.prog.info? 110 = some Tryz.t110 := by unfold Tables.info?; exact Tryz.type110
theorem info111 : Tryz.prog.info? 111 = some Tryz.t111 := by unfold Tables.info?; exact Tryz.type111
theorem info112 : Tryz.prog.info? 112 = some Tryz.t112 := by unfold Tables.info?; exact Tryz.type112
theorem info113 : Tryz.prog.info? 113 = some Tryz.t113 := by unfold Tables.info?; exact Tryz.type113
theorem info114 : Tryz.prog.info? 114 = some Tryz.t114 := by unfold Tables.info?; exact Tryz.type114
theorem info115 : Tryz.prog.info? 115 = some Tryz.t115 := by unfold Tables.info?; exact Tryz.type115
theorem info116 : Tryz.prog.info? 116 = some Tryz.t116 := by unfold Tables.info?; exact Tryz.type116
theorem info117 : Tryz.prog.info? 117 = some Tryz.t117 := by unfold Tables.info?; exact Tryz.type117
theorem info118 : Tryz.prog.info? 118 = some Tryz.t118 := by unfold Tables.info?; exact Tryz.type118
theorem info119 : Tryz.prog.info? 119 = some Tryz.t119 := by unfold Tables.info?; exact Tryz.type119
theorem info120 : Tryz.prog.info? 120 = some Tryz.t120 := by unfold Tables.info?; exact Tryz.type120
theorem info121 : Tryz.prog.info? 121 = some Tryz.t121 := by unfold Tables.info?; exact Tryz.type121
theorem info122 : Tryz.prog.info? 122 = some Tryz.t122 := by unfold Tables.info?; exact Tryz.type122
theorem info125 : Tryz.prog.info? 125 = some Tryz.t125 := by unfold Tables.info?; exact Tryz.type125
theorem info126 : Tryz.prog.info? 126 = some Tryz.t126 := by unfold Tables.info?; exact Tryz.type126
theorem info127 : Tryz.prog.info? 127 = some Tryz.t127 := by unfold Tables.info?; exact Tryz.type127
theorem info130 : Tryz.prog.info? 130 = some Tryz.t130 := by unfold Tables.info?; exact Tryz.type130
theorem info131 : Tryz.prog.info? 131 = some Tryz.t131 := by unfold Tables.info?; exact Tryz.type131
theorem info134 : Tryz.prog.info? 134 = some Tryz.t134 := by unfold Tables.info?; exact Tryz.type134
theorem info137 : Tryz.prog.info? 137 = some Tryz.t137 := by unfold Tables.info?; exact Tryz.type137
theorem info139 : Tryz.prog.info? 139 = some Tryz.t139 := by unfold Tables.info?; exact Tryz.type139
theorem info141 : Tryz.prog.info? 141 = some Tryz.t141 := by unfold Tables.info?; exact Tryz.type141
theorem info142 : Tryz.prog.info? 142 = some Tryz.t142 := by unfold Tables.info?; exact Tryz.type142
theorem info144 : Tryz.prog.info? 144 = some Tryz.t144 := by unfold Tables.info?; exact Tryz.type144
theorem info148 : Tryz.prog.info? 148 = some Tryz.t148 := by unfold Tables.info?; exact Tryz.type148
theorem info150 : Tryz.prog.info? 150 = some Tryz.t150 := by unfold Tables.info?; exact Tryz.type150
theorem info151 : Tryz.prog.info? 151 = some Tryz.t151 := by unfold Tables.info?; exact Tryz.type151
theorem info152 : Tryz.prog.info? 152 = some Tryz.t152 := by unfold Tables.info?; exact Tryz.type152
theorem info160 : Tryz.prog.info? 160 = some Tryz.t160 := by unfold Tables.info?; exact Tryz.type160
theorem info162 : Tryz.prog.info? 162 = some Tryz.t162 := by unfold Tables.info?; exact Tryz.type162
theorem info171 : Tryz.prog.info? 171 = some Tryz.t171 := by unfold Tables.info?; exact Tryz.type171
theorem info174 : Tryz.prog.info? 174 = some Tryz.t174 := by unfold Tables.info?; exact Tryz.type174
theorem info175 : Tryz.prog.info? 175 = some Tryz.t175 := by unfold Tables.info?; exact Tryz.type175
theorem info176 : Tryz.prog.info? 176 = some Tryz.t176 := by unfold Tables.info?; exact Tryz.type176
theorem info186 : Tryz.prog.info? 186 = some Tryz.t186 := by unfold Tables.info?; exact Tryz.type186
theorem info194 : Tryz.prog.info? 194 = some Tryz.t194 := by unfold Tables.info?; exact Tryz.type194
@[go_sem] theorem has1 : (Tryz.prog.info? 1).isSome = true := by rw [info1]; rfl
@[go_sem] theorem cellsOf1 : Tryz.prog.cellsOf 1 = 1 := by unfold Program.cellsOf; rw [info1]; rfl
@[go_sem] theorem bytesOf1 : bytesOf Tryz.prog 1 = 8 := by unfold bytesOf; rw [info1]; rfl
@[go_sem] theorem takeVar1 (cs : List PV) : takeVar Tryz.prog 1 cs = cs[0]? := by unfold takeVar isAggT; rw [Tryz.underlying1, info1]
@[go_sem] theorem partA1 (cs : List PV) (k : Nat) : partA Tryz.prog 1 cs k = cs[k]? := by unfold partA isAggT; rw [Tryz.underlying1, info1]
@[go_sem] theorem zeroA1 : zeroA Tryz.prog 1 = some .nilfn := by unfold zeroA; rw [info1]; rfl
@[go_sem] theorem zeroOk1 : zeroOk Tryz.prog 1 = true := by unfold zeroOk; rw [zeroA1, cellsOf1]; rfl
attribute [go_sem] Tryz.underlying1
@[go_sem] theorem has2 : (Tryz.prog.info? 2).isSome = true := by rw [info2]; rfl
@[go_sem] theorem cellsOf2 : Tryz.prog.cellsOf 2 = 1 := by unfold Program.cellsOf; rw [info2]; rfl
@[go_sem] theorem bytesOf2 : bytesOf Tryz.prog 2 = 8 := by unfold bytesOf; rw [info2]; rfl
@[go_sem] theorem takeVar2 (cs : List PV) : takeVar Tryz.prog 2 cs = cs[0]? := by unfold takeVar isAggT; rw [Tryz.underlying2, info2]
@[go_sem] theorem partA2 (cs : List PV) (k : Nat) : partA Tryz.prog 2 cs k = cs[k]? := by unfold partA isAggT; rw [Tryz.underlying2, info2]
@[go_sem] theorem zeroA2 : zeroA Tryz.prog 2 = some (.int IntKind.i64 0) := by unfold zeroA; rw [info2]; rfl
@[go_sem] theorem zeroOk2 : zeroOk Tryz.prog 2 = true := by unfold zeroOk; rw [zeroA2, cellsOf2]; rfl
attribute [go_sem] Tryz.underlying2
@[go_sem] theorem has3 : (Tryz.prog.info? 3).isSome = true := by rw [info3]; rfl
@[go_sem] theorem cellsOf3 : Tryz.prog.cellsOf 3 = 1 := by unfold Program.cellsOf; rw [info3]; rfl
@[go_sem] theorem bytesOf3 : bytesOf Tryz.prog 3 = 8 := by unfold bytesOf; rw [info3]; rfl
@[go_sem] theorem takeVar3 (cs : List PV) : takeVar Tryz.prog 3 cs = cs[0]? := by unfold takeVar isAggT; rw [Tryz.underlying3, info3]
@[go_sem] theorem partA3 (cs : List PV) (k : Nat) : partA Tryz.prog 3 cs k = cs[k]? := by unfold partA isAggT; rw [Tryz.underlying3, info3]
@[go_sem] theorem zeroA3 : zeroA Tryz.prog 3 = some (.int IntKind.i64 0) := by unfold zeroA; rw [info3]; rfl
@[go_sem] theorem zeroOk3 : zeroOk Tryz.prog 3 = true := by unfold zeroOk; rw [zeroA3, cellsOf3]; rfl
attribute [go_sem] Tryz.underlying3
@[go_sem] theorem has4 : (Tryz.prog.info? 4).isSome = true := by rw [info4]; rfl
@[go_sem] theorem cellsOf4 : Tryz.prog.cellsOf 4 = 1 := by unfold Program.cellsOf; rw [info4]; rfl
@[go_sem] theorem bytesOf4 : bytesOf Tryz.prog 4 = 1 := by unfold bytesOf; rw [info4]; rfl
@[go_sem] theorem takeVar4 (cs : List PV) : takeVar Tryz.prog 4 cs = cs[0]? := by unfold takeVar isAggT; rw [Tryz.underlying4, info4]
@[go_sem] theorem partA4 (cs : List PV) (k : Nat) : partA Tryz.prog 4 cs k = cs[k]? := by unfold partA isAggT; rw [Tryz.underlying4, info4]
@[go_sem] theorem zeroA4 : zeroA Tryz.prog 4 = some (.bool false) := by unfold zeroA; rw [info4]; rfl
@[go_sem] theorem zeroOk4 : zeroOk Tryz.prog 4 = true := by unfold zeroOk; rw [zeroA4, cellsOf4]; rfl
attribute [go_sem] Tryz.underlying4
@[go_sem] theorem has5 : (Tryz.prog.info? 5).isSome = true := by rw [info5]; rfl
@[go_sem] theorem cellsOf5 : Tryz.prog.cellsOf 5 = 1 := by unfold Program.cellsOf; rw [info5]; rfl
@[go_sem] theorem bytesOf5 : bytesOf Tryz.prog 5 = 1 := by unfold bytesOf; rw [info5]; rfl
@[go_sem] theorem takeVar5 (cs : List PV) : takeVar Tryz.prog 5 cs = cs[0]? := by unfold takeVar isAggT; rw [Tryz.underlying5, info5]
@[go_sem] theorem partA5 (cs : List PV) (k : Nat) : partA Tryz.prog 5 cs k = cs[k]? := by unfold partA isAggT; rw [Tryz.underlying5, info5]
@[go_sem] theorem zeroA5 : zeroA Tryz.prog 5 = some (.int IntKind.u8 0) := by unfold zeroA; rw [info5]; rfl
@[go_sem] theorem zeroOk5 : zeroOk Tryz.prog 5 = true := by unfold zeroOk; rw [zeroA5, cellsOf5]; rfl
attribute [go_sem] Tryz.underlying5
@[go_sem] theorem has6 : (Tryz.prog.info? 6).isSome = true := by rw [info6]; rfl
@[go_sem] theorem cellsOf6 : Tryz.prog.cellsOf 6 = 1 := by unfold Program.cellsOf; rw [info6]; rfl
@[go_sem] theorem bytesOf6 : bytesOf Tryz.prog 6 = 1 := by unfold bytesOf; rw [info6]; rfl
@[go_sem] theorem takeVar6 (cs : List PV) : takeVar Tryz.prog 6 cs = cs[0]? := by unfold takeVar isAggT; rw [Tryz.underlying6, info6]
@[go_sem] theorem partA6 (cs : List PV) (k : Nat) : partA Tryz.prog 6 cs k = cs[k]? := by unfold partA isAggT; rw [Tryz.underlying6, info6]
@[go_sem] theorem zeroA6 : zeroA Tryz.prog 6 = some (.int IntKind.u8 0) := by unfold zeroA; rw [info6]; rfl
@[go_sem] theorem zeroOk6 : zeroOk Tryz.prog 6 = true := by unfold zeroOk; rw [zeroA6, cellsOf6]; rfl
attribute [go_sem] Tryz.underlying6
@[go_sem] theorem has7 : (Tryz.prog.info? 7).isSome = true := by rw [info7]; rfl
@[go_sem] theorem cellsOf7 : Tryz.prog.cellsOf 7 = 4 := by unfold Program.cellsOf; rw [info7]; rfl
@[go_sem] theorem bytesOf7 : bytesOf Tryz.prog 7 = 24 := by unfold bytesOf; rw [info7]; rfl
@[go_sem] theorem takeVar7 (cs : List PV) : takeVar Tryz.prog 7 cs = if 4 ≤ cs.length then some (.agg (cs.take 4)) else none := by unfold takeVar isAggT; rw [Tryz.underlying7, info7]; rfl
@[go_sem] theorem partA7 (cs : List PV) (k : Nat) : partA Tryz.prog 7 cs k = if k + 4 ≤ cs.length then some (.agg ((cs.drop k).take 4)) else none := by unfold partA isAggT; rw [Tryz.underlying7, info7]; rfl
@[go_sem] theorem zeroA7 : zeroA Tryz.prog 7 = some (.agg [(.int IntKind.i64 0), (.int IntKind.i64 0), (.bool false), (.int IntKind.u8 0)]) := by unfold zeroA; rw [info7]; rfl
@[go_sem] theorem zeroOk7 : zeroOk Tryz.prog 7 = true := by unfold zeroOk; rw [zeroA7, cellsOf7]; rfl
@[go_sem] theorem field7_0 : fieldInfo Tryz.prog 7 0 = some (0, 2) := by unfold fieldInfo; rw [Tryz.underlying7]; show (match Tryz.prog.info? 2 with | some i => if i.size = 0 then none else some (0, 2) | none => none) = _; rw [info2]; rfl
@[go_sem] theorem field7_1 : fieldInfo Tryz.prog 7 1 = some (1, 3) := by unfold fieldInfo; rw [Tryz.underlying7]; show (match Tryz.prog.info? 3 with | some i => if i.size = 0 then none else some (1, 3) | none => none) = _; rw [info3]; rfl
@[go_sem] theorem field7_2 : fieldInfo Tryz.prog 7 2 = some (2, 4) := by unfold fieldInfo; rw [Tryz.underlying7]; show (match Tryz.prog.info? 4 with | some i => if i.size = 0 then none else some (2, 4) | none => none) = _; rw [info4]; rfl
@[go_sem] theorem field7_3 : fieldInfo Tryz.prog 7 3 = some (3, 6) := by unfold fieldInfo; rw [Tryz.underlying7]; show (match Tryz.prog.info? 6 with | some i => if i.size = 0 then none else some (3, 6) | none => none) = _; rw [info6]; rfl
attribute [go_sem] Tryz.underlying7
@[go_sem] theorem has8 : (Tryz.prog.info? 8).isSome = true := by rw [info8]; rfl
@[go_sem] theorem cellsOf8 : Tryz.prog.cellsOf 8 = 4 := by unfold Program.cellsOf; rw [info8]; rfl
@[go_sem] theorem bytesOf8 : bytesOf Tryz.prog 8 = 24 := by unfold bytesOf; rw [info8]; rfl
@[go_sem] theorem takeVar8 (cs : List PV) : takeVar Tryz.prog 8 cs = if 4 ≤ cs.length then some (.agg (cs.take 4)) else none := by unfold takeVar isAggT; rw [Tryz.underlying8, info8]; rfl
@[go_sem] theorem partA8 (cs : List PV) (k : Nat) : partA Tryz.prog 8 cs k = if k + 4 ≤ cs.length then some (.agg ((cs.drop k).take 4)) else none := by unfold partA isAggT; rw [Tryz.underlying8, info8]; rfl
@[go_sem] theorem zeroA8 : zeroA Tryz.prog 8 = some (.agg [(.int IntKind.i64 0), (.int IntKind.i64 0), (.bool false), (.int IntKind.u8 0)]) := by unfold zeroA; rw [info8]; rfl
@[go_sem] theorem zeroOk8 : zeroOk Tryz.prog 8 = true := by unfold zeroOk; rw [zeroA8, cellsOf8]; rfl
@[go_sem] theorem field8_0 : fieldInfo Tryz.prog 8 0 = some (0, 2) := by unfold fieldInfo; rw [Tryz.underlying8]; show (match Tryz.prog.info? 2 with | some i => if i.size = 0 then none else some (0, 2) | none => none) = _; rw [info2]; rfl
@[go_sem] theorem field8_1 : fieldInfo Tryz.prog 8 1 = some (1, 3) := by unfold fieldInfo; rw [Tryz.underlying8]; show (match Tryz.prog.info? 3 with | some i => if i.size = 0 then none else some (1, 3) | none => none) = _; rw [info3]; rfl
@[go_sem] theorem field8_2 : fieldInfo Tryz.prog 8 2 = some (2, 4) := by unfold fieldInfo; rw [Tryz.underlying8]; show (match Tryz.prog.info? 4 with | some i => if i.size = 0 then none else some (2, 4) | none => none) = _; rw [info4]; rfl
@[go_sem] theorem field8_3 : fieldInfo Tryz.prog 8 3 = some (3, 6) := by unfold fieldInfo; rw [Tryz.underlying8]; show (match Tryz.prog.info? 6 with | some i => if i.size = 0 then none else some (3, 6) | none => none) = _; rw [info6]; rfl
attribute [go_sem] Tryz.underlying8
@[go_sem] theorem has9 : (Tryz.prog.info? 9).isSome = true := by rw [info9]; rfl
@[go_sem] theorem cellsOf9 : Tryz.prog.cellsOf 9 = 1 := by unfold Program.cellsOf; rw [info9]; rfl
@[go_sem] theorem bytesOf9 : bytesOf Tryz.prog 9 = 16 := by unfold bytesOf; rw [info9]; rfl
@[go_sem] theorem takeVar9 (cs : List PV) : takeVar Tryz.prog 9 cs = cs[0]? := by unfold takeVar isAggT; rw [Tryz.underlying9, info9]
@[go_sem] theorem partA9 (cs : List PV) (k : Nat) : partA Tryz.prog 9 cs k = cs[k]? := by unfold partA isAggT; rw [Tryz.underlying9, info9]
@[go_sem] theorem zeroA9 : zeroA Tryz.prog 9 = some (.str ({ data := #[] })) := by unfold zeroA; rw [info9]; rfl
@[go_sem] theorem zeroOk9 : zeroOk Tryz.prog 9 = true := by unfold zeroOk; rw [zeroA9, cellsOf9]; rfl
attribute [go_sem] Tryz.underlying9
@[go_sem] theorem has10 : (Tryz.prog.info? 10).isSome = true := by rw [info10]; rfl
@[go_sem] theorem cellsOf10 : Tryz.prog.cellsOf 10 = 1 := by unfold Program.cellsOf; rw [info10]; rfl
@[go_sem] theorem bytesOf10 : bytesOf Tryz.prog 10 = 16 := by unfold bytesOf; rw [info10]; rfl
@[go_sem] theorem takeVar10 (cs : List PV) : takeVar Tryz.prog 10 cs = cs[0]? := by unfold takeVar isAggT; rw [Tryz.underlying10, info10]
@[go_sem] theorem partA10 (cs : List PV) (k : Nat) : partA Tryz.prog 10 cs k = cs[k]? := by unfold partA isAggT; rw [Tryz.underlying10, info10]
@[go_sem] theorem zeroA10 : zeroA Tryz.prog 10 = some (.str ({ data := #[] })) := by unfold zeroA; rw [info10]; rfl
@[go_sem] theorem zeroOk10 : zeroOk Tryz.prog 10 = true := by unfold zeroOk; rw [zeroA10, cellsOf10]; rfl
attribute [go_sem] Tryz.underlying10
@[go_sem] theorem has11 : (Tryz.prog.info? 11).isSome = true := by rw [info11]; rfl
@[go_sem] theorem cellsOf11 : Tryz.prog.cellsOf 11 = 1 := by unfold Program.cellsOf; rw [info11]; rfl
@[go_sem] theorem bytesOf11 : bytesOf Tryz.prog 11 = 16 := by unfold bytesOf; rw [info11]; rfl
@[go_sem] theorem takeVar11 (cs : List PV) : takeVar Tryz.prog 11 cs = cs[0]? := by unfold takeVar isAggT; rw [Tryz.underlying11, info11]
@[go_sem] theorem partA11 (cs : List PV) (k : Nat) : partA Tryz.prog 11 cs k = cs[k]? := by unfold partA isAggT; rw [Tryz.underlying11, info11]
@[go_sem] theorem zeroA11 : zeroA Tryz.prog 11 = some (.str ({ data := #[] })) := by unfold zeroA; rw [info11]; rfl
@[go_sem] theorem zeroOk11 : zeroOk Tryz.prog 11 = true := by unfold zeroOk; rw [zeroA11, cellsOf11]; rfl
attribute [go_sem] Tryz.underlying11
@[go_sem] theorem has12 : (Tryz.prog.info? 12).isSome = true := by rw [info12]; rfl
@[go_sem] theorem cellsOf12 : Tryz.prog.cellsOf 12 = 1 := by unfold Program.cellsOf; rw [info12]; rfl
@[go_sem] theorem has14 : (Tryz.prog.info? 14).isSome = true := by rw [info14]; rfl
@[go_sem] theorem cellsOf14 : Tryz.prog.cellsOf 14 = 2 := by unfold Program.cellsOf; rw [info14]; rfl
@[go_sem] theorem bytesOf14 : bytesOf Tryz.prog 14 = 24 := by unfold bytesOf; rw [info14]; rfl
@[go_sem] theorem takeVar14 (cs : List PV) : takeVar Tryz.prog 14 cs = if 2 ≤ cs.length then some (.agg (cs.take 2)) else none := by unfold takeVar isAggT; rw [Tryz.underlying14, info14]; rfl
@[go_sem] theorem partA14 (cs : List PV) (k : Nat) : partA Tryz.prog 14 cs k = if k + 2 ≤ cs.length then some (.agg ((cs.drop k).take 2)) else none := by unfold partA isAggT; rw [Tryz.underlying14, info14]; rfl
@[go_sem] theorem zeroA14 : zeroA Tryz.prog 14 = some (.agg [(.str ({ data := #[] })), (.int IntKind.u64 0)]) := by unfold zeroA; rw [info14]; rfl
@[go_sem] theorem zeroOk14 : zeroOk Tryz.prog 14 = true := by unfold zeroOk; rw [zeroA14, cellsOf14]; rfl
@[go_sem] theorem field14_0 : fieldInfo Tryz.prog 14 0 = some (0, 9) := by unfold fieldInfo; rw [Tryz.underlying14]; show (match Tryz.prog.info? 9 with | some i => if i.size = 0 then none else some (0, 9) | none => none) = _; rw [info9]; rfl
@[go_sem] theorem field14_1 : fieldInfo Tryz.prog 14 1 = some (1, 12) := by unfold fieldInfo; rw [Tryz.underlying14]; show (match Tryz.prog.info? 12 with | some i => if i.size = 0 then none else some (1, 12) | none => none) = _; rw [info12]; rfl
attribute [go_sem] Tryz.underlying14
@[go_sem] theorem has16 : (Tryz.prog.info? 16).isSome = true := by rw [info16]; rfl
@[go_sem] theorem cellsOf16 : Tryz.prog.cellsOf 16 = 1 := by unfold Program.cellsOf; rw [info16]; rfl
@[go_sem] theorem bytesOf16 : bytesOf Tryz.prog 16 = 8 := by unfold bytesOf; rw [info16]; rfl
@[go_sem] theorem takeVar16 (cs : List PV) : takeVar Tryz.prog 16 cs = cs[0]? := by unfold takeVar isAggT; rw [Tryz.underlying16, info16]
@[go_sem] theorem partA16 (cs : List PV) (k : Nat) : partA Tryz.prog 16 cs k = cs[k]? := by unfold partA isAggT; rw [Tryz.underlying16, info16]
@[go_sem] theorem zeroA16 : zeroA Tryz.prog 16 = some .nilp := by unfold zeroA; rw [info16]; rfl
@[go_sem] theorem zeroOk16 : zeroOk Tryz.prog 16 = true := by unfold zeroOk; rw [zeroA16, cellsOf16]; rfl
attribute [go_sem] Tryz.underlying16
@[go_sem] theorem has17 : (Tryz.prog.info? 17).isSome = true := by rw [info17]; rfl
@[go_sem] theorem cellsOf17 : Tryz.prog.cellsOf 17 = 1 := by unfold Program.cellsOf; rw [info17]; rfl
@[go_sem] theorem has18 : (Tryz.prog.info? 18).isSome = true := by rw [info18]; rfl
@[go_sem] theorem cellsOf18 : Tryz.prog.cellsOf 18 = 1 := by unfold Program.cellsOf; rw [info18]; rfl
@[go_sem] theorem bytesOf18 : bytesOf Tryz.prog 18 = 8 := by unfold bytesOf; rw [info18]; rfl
@[go_sem] theorem takeVar18 (cs : List PV) : takeVar Tryz.prog 18 cs = if 1 ≤ cs.length then some (.agg (cs.take 1)) else none := by unfold takeVar isAggT; rw [Tryz.underlying18, info18]; rfl
@[go_sem] theorem partA18 (cs : List PV) (k : Nat) : partA Tryz.prog 18 cs k = if k + 1 ≤ cs.length then some (.agg ((cs.drop k).take 1)) else none := by unfold partA isAggT; rw [Tryz.underlying18, info18]; rfl
@[go_sem] theorem zeroA18 : zeroA Tryz.prog 18 = some (.agg [.nilp]) := by unfold zeroA; rw [info18]; rfl
@[go_sem] theorem zeroOk18 : zeroOk Tryz.prog 18 = true := by unfold zeroOk; rw [zeroA18, cellsOf18]; rfl
@[go_sem] theorem field18_0 : fieldInfo Tryz.prog 18 0 = some (0, 17) := by unfold fieldInfo; rw [Tryz.underlying18]; show (match Tryz.prog.info? 17 with | some i => if i.size = 0 then none else some (0, 17) | none => none) = _; rw [info17]; rfl
attribute [go_sem] Tryz.underlying18
@[go_sem] theorem has19 : (Tryz.prog.info? 19).isSome = true := by rw [info19]; rfl
@[go_sem] theorem cellsOf19 : Tryz.prog.cellsOf 19 = 1 := by unfold Program.cellsOf; rw [info19]; rfl
@[go_sem] theorem bytesOf19 : bytesOf Tryz.prog 19 = 8 := by unfold bytesOf; rw [info19]; rfl
@[go_sem] theorem takeVar19 (cs : List PV) : takeVar Tryz.prog 19 cs = if 1 ≤ cs.length then some (.agg (cs.take 1)) else none := by unfold takeVar isAggT; rw [Tryz.underlying19, info19]; rfl
@[go_sem] theorem partA19 (cs : List PV) (k : Nat) : partA Tryz.prog 19 cs k = if k + 1 ≤ cs.length then some (.agg ((cs.drop k).take 1)) else none := by unfold partA isAggT; rw [Tryz.underlying19, info19]; rfl
@[go_sem] theorem zeroA19 : zeroA Tryz.prog 19 = some (.agg [.nilp]) := by unfold zeroA; rw [info19]; rfl
@[go_sem] theorem zeroOk19 : zeroOk Tryz.prog 19 = true := by unfold zeroOk; rw [zeroA19, cellsOf19]; rfl
@[go_sem] theorem field19_0 : fieldInfo Tryz.prog 19 0 = some (0, 17) := by unfold fieldInfo; rw [Tryz.underlying19]; show (match Tryz.prog.info? 17 with | some i => if i.size = 0 then none else some (0, 17) | none => none) = _; rw [info17]; rfl
attribute [go_sem] Tryz.underlying19
@[go_sem] theorem has20 : (Tryz.prog.info? 20).isSome = true := by rw [info20]; rfl
@[go_sem] theorem cellsOf20 : Tryz.prog.cellsOf 20 = 1 := by unfold Program.cellsOf; rw [info20]; rfl
@[go_sem] theorem bytesOf20 : bytesOf Tryz.prog 20 = 16 := by unfold bytesOf; rw [info20]; rfl
@[go_sem] theorem takeVar20 (cs : List PV) : takeVar Tryz.prog 20 cs = cs[0]? := by unfold takeVar isAggT; rw [Tryz.underlying20, info20]
@[go_sem] theorem partA20 (cs : List PV) (k : Nat) : partA Tryz.prog 20 cs k = cs[k]? := by unfold partA isAggT; rw [Tryz.underlying20, info20]
@[go_sem] theorem zeroA20 : zeroA Tryz.prog 20 = some .nilif := by unfold zeroA; rw [info20]; rfl
@[go_sem] theorem zeroOk20 : zeroOk Tryz.prog 20 = true := by unfold zeroOk; rw [zeroA20, cellsOf20]; rfl
attribute [go_sem] Tryz.underlying20
@[go_sem] theorem has22 : (Tryz.prog.info? 22).isSome = true := by rw [info22]; rfl
@[go_sem] theorem cellsOf22 : Tryz.prog.cellsOf 22 = 1 := by unfold Program.cellsOf; rw [info22]; rfl
@[go_sem] theorem bytesOf22 : bytesOf Tryz.prog 22 = 24 := by unfold bytesOf; rw [info22]; rfl
@[go_sem] theorem takeVar22 (cs : List PV) : takeVar Tryz.prog 22 cs = cs[0]? := by unfold takeVar isAggT; rw [Tryz.underlying22, info22]
@[go_sem] theorem partA22 (cs : List PV) (k : Nat) : partA Tryz.prog 22 cs k = cs[k]? := by unfold partA isAggT; rw [Tryz.underlying22, info22]
@[go_sem] theorem zeroA22 : zeroA Tryz.prog 22 = some .emp := by unfold zeroA; rw [info22]; rfl
@[go_sem] theorem zeroOk22 : zeroOk Tryz.prog 22 = true := by unfold zeroOk; rw [zeroA22, cellsOf22]; rfl
attribute [go_sem] Tryz.underlying22
@[go_sem] theorem has24 : (Tryz.prog.info? 24).isSome = true := by rw [info24]; rfl
@[go_sem] theorem cellsOf24 : Tryz.prog.cellsOf 24 = 2 := by unfold Program.cellsOf; rw [info24]; rfl
@[go_sem] theorem bytesOf24 : bytesOf Tryz.prog 24 = 16 := by unfold bytesOf; rw [info24]; rfl
@[go_sem] theorem takeVar24 (cs : List PV) : takeVar Tryz.prog 24 cs = if 2 ≤ cs.length then some (.agg (cs.take 2)) else none := by unfold takeVar isAggT; rw [Tryz.underlying24, info24]; rfl
@[go_sem] theorem partA24 (cs : List PV) (k : Nat) : partA Tryz.prog 24 cs k = if k + 2 ≤ cs.length then some (.agg ((cs.drop k).take 2)) else none := by unfold partA isAggT; rw [Tryz.underlying24, info24]; rfl
@[go_sem] theorem zeroA24 : zeroA Tryz.prog 24 = some (.agg [(.int IntKind.i64 0), (.int IntKind.i64 0)]) := by unfold zeroA; rw [info24]; rfl
@[go_sem] theorem zeroOk24 : zeroOk Tryz.prog 24 = true := by unfold zeroOk; rw [zeroA24, cellsOf24]; rfl
@[go_sem] theorem field24_0 : fieldInfo Tryz.prog 24 0 = some (0, 3) := by unfold fieldInfo; rw [Tryz.underlying24]; show (match Tryz.prog.info? 3 with | some i => if i.size = 0 then none else some (0, 3) | none => none) = _; rw [info3]; rfl
@[go_sem] theorem field24_1 : fieldInfo Tryz.prog 24 1 = some (1, 3) := by unfold fieldInfo; rw [Tryz.underlying24]; show (match Tryz.prog.info? 3 with | some i => if i.size = 0 then none else some (1, 3) | none => none) = _; rw [info3]; rfl
attribute [go_sem] Tryz.underlying24
@[go_sem] theorem has25 : (Tryz.prog.info? 25).isSome = true := by rw [info25]; rfl
@[go_sem] theorem cellsOf25 : Tryz.prog.cellsOf 25 = 1 := by unfold Program.cellsOf; rw [info25]; rfl
@[go_sem] theorem bytesOf25 : bytesOf Tryz.prog 25 = 24 := by unfold bytesOf; rw [info25]; rfl
@[go_sem] theorem takeVar25 (cs : List PV) : takeVar Tryz.prog 25 cs = cs[0]? := by unfold takeVar isAggT; rw [Tryz.underlying25, info25]
@[go_sem] theorem partA25 (cs : List PV) (k : Nat) : partA Tryz.prog 25 cs k = cs[k]? := by unfold partA isAggT; rw [Tryz.underlying25, info25]
@[go_sem] theorem zeroA25 : zeroA Tryz.prog 25 = some .emp := by unfold zeroA; rw [info25]; rfl
@[go_sem] theorem zeroOk25 : zeroOk Tryz.prog 25 = true := by unfold zeroOk; rw [zeroA25, cellsOf25]; rfl
attribute [go_sem] Tryz.underlying25
@[go_sem] theorem has26 : (Tryz.prog.info? 26).isSome = true := by rw [info26]; rfl
@[go_sem] theorem cellsOf26 : Tryz.prog.cellsOf 26 = 5 := by unfold Program.cellsOf; rw [info26]; rfl
@[go_sem] theorem bytesOf26 : bytesOf Tryz.prog 26 = 56 := by unfold bytesOf; rw [info26]; rfl
@[go_sem] theorem takeVar26 (cs : List PV) : takeVar Tryz.prog 26 cs = if 5 ≤ cs.length then some (.agg (cs.take 5)) else none := by unfold takeVar isAggT; rw [Tryz.underlying26, info26]; rfl
@[go_sem] theorem partA26 (cs : List PV) (k : Nat) : partA Tryz.prog 26 cs k = if k + 5 ≤ cs.length then some (.agg ((cs.drop k).take 5)) else none := by unfold partA isAggT; rw [Tryz.underlying26, info26]; rfl
@[go_sem] theorem zeroA26 : zeroA Tryz.prog 26 = some (.agg [(.int IntKind.i64 0), (.int IntKind.i64 0), (.int IntKind.i64 0), (.int IntKind.i64 0), .emp]) := by unfold zeroA; rw [info26]; rfl
@[go_sem] theorem zeroOk26 : zeroOk Tryz.prog 26 = true := by unfold zeroOk; rw [zeroA26, cellsOf26]; rfl
@[go_sem] theorem field26_0 : fieldInfo Tryz.prog 26 0 = some (0, 3) := by unfold fieldInfo; rw [Tryz.underlying26]; show (match Tryz.prog.info? 3 with | some i => if i.size = 0 then none else some (0, 3) | none => none) = _; rw [info3]; rfl
@[go_sem] theorem field26_1 : fieldInfo Tryz.prog 26 1 = some (1, 3) := by unfold fieldInfo; rw [Tryz.underlying26]; show (match Tryz.prog.info? 3 with | some i => if i.size = 0 then none else some (1, 3) | none => none) = _; rw [info3]; rfl
@[go_sem] theorem field26_2 : fieldInfo Tryz.prog 26 2 = some (2, 24) := by unfold fieldInfo; rw [Tryz.underlying26]; show (match Tryz.prog.info? 24 with | some i => if i.size = 0 then none else some (2, 24) | none => none) = _; rw [info24]; rfl
@[go_sem] theorem field26_3 : fieldInfo Tryz.prog 26 3 = some (4, 25) := by unfold fieldInfo; rw [Tryz.underlying26]; show (match Tryz.prog.info? 25 with | some i => if i.size = 0 then none else some (4, 25) | none => none) = _; rw [info25]; rfl
attribute [go_sem] Tryz.underlying26
@[go_sem] theorem has27 : (Tryz.prog.info? 27).isSome = true := by rw [info27]; rfl
@[go_sem] theorem cellsOf27 : Tryz.prog.cellsOf 27 = 5 := by unfold Program.cellsOf; rw [info27]; rfl
@[go_sem] theorem bytesOf27 : bytesOf Tryz.prog 27 = 56 := by unfold bytesOf; rw [info27]; rfl
@[go_sem] theorem takeVar27 (cs : List PV) : takeVar Tryz.prog 27 cs = if 5 ≤ cs.length then some (.agg (cs.take 5)) else none := by unfold takeVar isAggT; rw [Tryz.underlying27, info27]; rfl
@[go_sem] theorem partA27 (cs : List PV) (k : Nat) : partA Tryz.prog 27 cs k = if k + 5 ≤ cs.length then some (.agg ((cs.drop k).take 5)) else none := by unfold partA isAggT; rw [Tryz.underlying27, info27]; rfl
@[go_sem] theorem zeroA27 : zeroA Tryz.prog 27 = some (.agg [(.int IntKind.i64 0), (.int IntKind.i64 0), (.int IntKind.i64 0), (.int IntKind.i64 0), .emp]) := by unfold zeroA; rw [info27]; rfl
@[go_sem] theorem zeroOk27 : zeroOk Tryz.prog 27 = true := by unfold zeroOk; rw [zeroA27, cellsOf27]; rfl
@[go_sem] theorem field27_0 : fieldInfo Tryz.prog 27 0 = some (0, 3) := by unfold fieldInfo; rw [Tryz.underlying27]; show (match Tryz.prog.info? 3 with | some i => if i.size = 0 then none else some (0, 3) | none => none) = _; rw [info3]; rfl
@[go_sem] theorem field27_1 : fieldInfo Tryz.prog 27 1 = some (1, 3) := by unfold fieldInfo; rw [Tryz.underlying27]; show (match Tryz.prog.info? 3 with | some i => if i.size = 0 then none else some (1, 3) | none => none) = _; rw [info3]; rfl
@[go_sem] theorem field27_2 : fieldInfo Tryz.prog 27 2 = some (2, 24) := by unfold fieldInfo; rw [Tryz.underlying27]; show (match Tryz.prog.info? 24 with | some i => if i.size = 0 then none else some (2, 24) | none => none) = _; rw [info24]; rfl
@[go_sem] theorem field27_3 : fieldInfo Tryz.prog 27 3 = some (4, 25) := by unfold fieldInfo; rw [Tryz.underlying27]; show (match Tryz.prog.info? 25 with | some i => if i.size = 0 then none else some (4, 25) | none => none) = _; rw [info25]; rfl
attribute [go_sem] Tryz.underlying27
@[go_sem] theorem has28 : (Tryz.prog.info? 28).isSome = true := by rw [info28]; rfl
@[go_sem] theorem cellsOf28 : Tryz.prog.cellsOf 28 = 1 := by unfold Program.cellsOf; rw [info28]; rfl
@[go_sem] theorem bytesOf28 : bytesOf Tryz.prog 28 = 8 := by unfold bytesOf; rw [info28]; rfl
@[go_sem] theorem takeVar28 (cs : List PV) : takeVar Tryz.prog 28 cs = cs[0]? := by unfold takeVar isAggT; rw [Tryz.underlying28, info28]
@[go_sem] theorem partA28 (cs : List PV) (k : Nat) : partA Tryz.prog 28 cs k = cs[k]? := by unfold partA isAggT; rw [Tryz.underlying28, info28]
@[go_sem] theorem zeroA28 : zeroA Tryz.prog 28 = some .nilfn := by unfold zeroA; rw [info28]; rfl
@[go_sem] theorem zeroOk28 : zeroOk Tryz.prog 28 = true := by unfold zeroOk; rw [zeroA28, cellsOf28]; rfl
attribute [go_sem] Tryz.underlying28
@[go_sem] theorem has29 : (Tryz.prog.info? 29).isSome = true := by rw [info29]; rfl
@[go_sem] theorem cellsOf29 : Tryz.prog.cellsOf 29 = 1 := by unfold Program.cellsOf; rw [info29]; rfl
@[go_sem] theorem bytesOf29 : bytesOf Tryz.prog 29 = 8 := by unfold bytesOf; rw [info29]; rfl
@[go_sem] theorem takeVar29 (cs : List PV) : takeVar Tryz.prog 29 cs = cs[0]? := by unfold takeVar isAggT; rw [Tryz.underlying29, info29]
@[go_sem] theorem partA29 (cs : List PV) (k : Nat) : partA Tryz.prog 29 cs k = cs[k]? := by unfold partA isAggT; rw [Tryz.underlying29, info29]
@[go_sem] theorem zeroA29 : zeroA Tryz.prog 29 = some .nilfn := by unfold zeroA; rw [info29]; rfl
@[go_sem] theorem zeroOk29 : zeroOk Tryz.prog 29 = true := by unfold zeroOk; rw [zeroA29, cellsOf29]; rfl
attribute [go_sem] Tryz.underlying29
@[go_sem] theorem has30 : (Tryz.prog.info? 30).isSome = true := by rw [info30]; rfl
@[go_sem] theorem cellsOf30 : Tryz.prog.cellsOf 30 = 1 := by unfold Program.cellsOf; rw [info30]; rfl
@[go_sem] theorem bytesOf30 : bytesOf Tryz.prog 30 = 8 := by unfold bytesOf; rw [info30]; rfl
@[go_sem] theorem takeVar30 (cs : List PV) : takeVar Tryz.prog 30 cs = cs[0]? := by unfold takeVar isAggT; rw [Tryz.underlying30, info30]
@[go_sem] theorem partA30 (cs : List PV) (k : Nat) : partA Tryz.prog 30 cs k = cs[k]? := by unfold partA isAggT; rw [Tryz.underlying30, info30]
@[go_sem] theorem zeroA30 : zeroA Tryz.prog 30 = some .nilfn := by unfold zeroA; rw [info30]; rfl
@[go_sem] theorem zeroOk30 : zeroOk Tryz.prog 30 = true := by unfold zeroOk; rw [zeroA30, cellsOf30]; rfl
attribute [go_sem] Tryz.underlying30
@[go_sem] theorem has31 : (Tryz.prog.info? 31).isSome = true := by rw [info31]; rfl
@[go_sem] theorem cellsOf31 : Tryz.prog.cellsOf 31 = 1 := by unfold Program.cellsOf; rw [info31]; rfl
@[go_sem] theorem bytesOf31 : bytesOf Tryz.prog 31 = 8 := by unfold bytesOf; rw [info31]; rfl
@[go_sem] theorem takeVar31 (cs : List PV) : takeVar Tryz.prog 31 cs = cs[0]? := by unfold takeVar isAggT; rw [Tryz.underlying31, info31]
@[go_sem] theorem partA31 (cs : List PV) (k : Nat) : partA Tryz.prog 31 cs k = cs[k]? := by unfold partA isAggT; rw [Tryz.underlying31, info31]
@[go_sem] theorem zeroA31 : zeroA Tryz.prog 31 = some .nilfn := by unfold zeroA; rw [info31]; rfl
@[go_sem] theorem zeroOk31 : zeroOk Tryz.prog 31 = true := by unfold zeroOk; rw [zeroA31, cellsOf31]; rfl
attribute [go_sem] Tryz.underlying31
@[go_sem] theorem has32 : (Tryz.prog.info? 32).isSome = true := by rw [info32]; rfl
@[go_sem] theorem cellsOf32 : Tryz.prog.cellsOf 32 = 1 := by unfold Program.cellsOf; rw [info32]; rfl
@[go_sem] theorem bytesOf32 : bytesOf Tryz.prog 32 = 24 := by unfold bytesOf; rw [info32]; rfl
@[go_sem] theorem takeVar32 (cs : List PV) : takeVar Tryz.prog 32 cs = cs[0]? := by unfold takeVar isAggT; rw [Tryz.underlying32, info32]
@[go_sem] theorem partA32 (cs : List PV) (k : Nat) : partA Tryz.prog 32 cs k = cs[k]? := by unfold partA isAggT; rw [Tryz.underlying32, info32]
@[go_sem] theorem zeroA32 : zeroA Tryz.prog 32 = some .emp := by unfold zeroA; rw [info32]; rfl
@[go_sem] theorem zeroOk32 : zeroOk Tryz.prog 32 = true := by unfold zeroOk; rw [zeroA32, cellsOf32]; rfl
attribute [go_sem] Tryz.underlying32
@[go_sem] theorem has33 : (Tryz.prog.info? 33).isSome = true := by rw [info33]; rfl
@[go_sem] theorem cellsOf33 : Tryz.prog.cellsOf 33 = 3 := by unfold Program.cellsOf; rw [info33]; rfl
@[go_sem] theorem bytesOf33 : bytesOf Tryz.prog 33 = 72 := by unfold bytesOf; rw [info33]; rfl
@[go_sem] theorem takeVar33 (cs : List PV) : takeVar Tryz.prog 33 cs = if 3 ≤ cs.length then some (.agg (cs.take 3)) else none := by unfold takeVar isAggT; rw [Tryz.underlying33, info33]; rfl
@[go_sem] theorem partA33 (cs : List PV) (k : Nat) : partA Tryz.prog 33 cs k = if k + 3 ≤ cs.length then some (.agg ((cs.drop k).take 3)) else none := by unfold partA isAggT; rw [Tryz.underlying33, info33]; rfl
@[go_sem] theorem zeroA33 : zeroA Tryz.prog 33 = some (.agg [.emp, .emp, .emp]) := by unfold zeroA; rw [info33]; rfl
@[go_sem] theorem zeroOk33 : zeroOk Tryz.prog 33 = true := by unfold zeroOk; rw [zeroA33, cellsOf33]; rfl
@[go_sem] theorem field33_0 : fieldInfo Tryz.prog 33 0 = some (0, 32) := by unfold fieldInfo; rw [Tryz.underlying33]; show (match Tryz.prog.info? 32 with | some i => if i.size = 0 then none else some (0, 32) | none => none) = _; rw [info32]; rfl
@[go_sem] theorem field33_1 : fieldInfo Tryz.prog 33 1 = some (1, 32) := by unfold fieldInfo; rw [Tryz.underlying33]; show (match Tryz.prog.info? 32 with | some i => if i.size = 0 then none else some (1, 32) | none => none) = _; rw [info32]; rfl
@[go_sem] theorem field33_2 : fieldInfo Tryz.prog 33 2 = some (2, 32) := by unfold fieldInfo; rw [Tryz.underlying33]; show (match Tryz.prog.info? 32 with | some i => if i.size = 0 then none else some (2, 32) | none => none) = _; rw [info32]; rfl
attribute [go_sem] Tryz.underlying33
@[go_sem] theorem has34 : (Tryz.prog.info? 34).isSome = true := by rw [info34]; rfl
@[go_sem] theorem cellsOf34 : Tryz.prog.cellsOf 34 = 3 := by unfold Program.cellsOf; rw [info34]; rfl
@[go_sem] theorem bytesOf34 : bytesOf Tryz.prog 34 = 72 := by unfold bytesOf; rw [info34]; rfl
@[go_sem] theorem takeVar34 (cs : List PV) : takeVar Tryz.prog 34 cs = if 3 ≤ cs.length then some (.agg (cs.take 3)) else none := by unfold takeVar isAggT; rw [Tryz.underlying34, info34]; rfl
@[go_sem] theorem partA34 (cs : List PV) (k : Nat) : partA Tryz.prog 34 cs k = if k + 3 ≤ cs.length then some (.agg ((cs.drop k).take 3)) else none := by unfold partA isAggT; rw [Tryz.underlying34, info34]; rfl
@[go_sem] theorem zeroA34 : zeroA Tryz.prog 34 = some (.agg [.emp, .emp, .emp]) := by unfold zeroA; rw [info34]; rfl
@[go_sem] theorem zeroOk34 : zeroOk Tryz.prog 34 = true := by unfold zeroOk; rw [zeroA34, cellsOf34]; rfl
@[go_sem] theorem field34_0 : fieldInfo Tryz.prog 34 0 = some (0, 32) := by unfold fieldInfo; rw [Tryz.underlying34]; show (match Tryz.prog.info? 32 with | some i => if i.size = 0 then none else some (0, 32) | none => none) = _; rw [info32]; rfl
@[go_sem] theorem field34_1 : fieldInfo Tryz.prog 34 1 = some (1, 32) := by unfold fieldInfo; rw [Tryz.underlying34]; show (match Tryz.prog.info? 32 with | some i => if i.size = 0 then none else some (1, 32) | none => none) = _; rw [info32]; rfl
@[go_sem] theorem field34_2 : fieldInfo Tryz.prog 34 2 = some (2, 32) := by unfold fieldInfo; rw [Tryz.underlying34]; show (match Tryz.prog.info? 32 with | some i => if i.size = 0 then none else some (2, 32) | none => none) = _; rw [info32]; rfl
attribute [go_sem] Tryz.underlying34
@[go_sem] theorem has36 : (Tryz.prog.info? 36).isSome = true := by rw [info36]; rfl
@[go_sem] theorem cellsOf36 : Tryz.prog.cellsOf 36 = 1 := by unfold Program.cellsOf; rw [info36]; rfl
@[go_sem] theorem bytesOf36 : bytesOf Tryz.prog 36 = 8 := by unfold bytesOf; rw [info36]; rfl
@[go_sem] theorem takeVar36 (cs : List PV) : takeVar Tryz.prog 36 cs = cs[0]? := by unfold takeVar isAggT; rw [Tryz.underlying36, info36]
@[go_sem] theorem partA36 (cs : List PV) (k : Nat) : partA Tryz.prog 36 cs k = cs[k]? := by unfold partA isAggT; rw [Tryz.underlying36, info36]
@[go_sem] theorem zeroA36 : zeroA Tryz.prog 36 = some .nilfn := by unfold zeroA; rw [info36]; rfl
@[go_sem] theorem zeroOk36 : zeroOk Tryz.prog 36 = true := by unfold zeroOk; rw [zeroA36, cellsOf36]; rfl
attribute [go_sem] Tryz.underlying36
@[go_sem] theorem has38 : (Tryz.prog.info? 38).isSome = true := by rw [info38]; rfl
@[go_sem] theorem cellsOf38 : Tryz.prog.cellsOf 38 = 1 := by unfold Program.cellsOf; rw [info38]; rfl
@[go_sem] theorem bytesOf38 : bytesOf Tryz.prog 38 = 8 := by unfold bytesOf; rw [info38]; rfl
@[go_sem] theorem takeVar38 (cs : List PV) : takeVar Tryz.prog 38 cs = cs[0]? := by unfold takeVar isAggT; rw [Tryz.underlying38, info38]
@[go_sem] theorem partA38 (cs : List PV) (k : Nat) : partA Tryz.prog 38 cs k = cs[k]? := by unfold partA isAggT; rw [Tryz.underlying38, info38]
@[go_sem] theorem zeroA38 : zeroA Tryz.prog 38 = some .nilfn := by unfold zeroA; rw [info38]; rfl
@[go_sem] theorem zeroOk38 : zeroOk Tryz.prog 38 = true := by unfold zeroOk; rw [zeroA38, cellsOf38]; rfl
attribute [go_sem] Tryz.underlying38
@[go_sem] theorem has39 : (Tryz.prog.info? 39).isSome = true := by rw [info39]; rfl
@[go_sem] theorem cellsOf39 : Tryz.prog.cellsOf 39 = 1 := by unfold Program.cellsOf; rw [info39]; rfl
@[go_sem] theorem bytesOf39 : bytesOf Tryz.prog 39 = 8 := by unfold bytesOf; rw [info39]; rfl
@[go_sem] theorem takeVar39 (cs : List PV) : takeVar Tryz.prog 39 cs = cs[0]? := by unfold takeVar isAggT; rw [Tryz.underlying39, info39]
@[go_sem] theorem partA39 (cs : List PV) (k : Nat) : partA Tryz.prog 39 cs k = cs[k]? := by unfold partA isAggT; rw [Tryz.underlying39, info39]
@[go_sem] theorem zeroA39 : zeroA Tryz.prog 39 = some .nilfn := by unfold zeroA; rw [info39]; rfl
@[go_sem] theorem zeroOk39 : zeroOk Tryz.prog 39 = true := by unfold zeroOk; rw [zeroA39, cellsOf39]; rfl
attribute [go_sem] Tryz.underlying39
@[go_sem] theorem has40 : (Tryz.prog.info? 40).isSome = true := by rw [info40]; rfl
@[go_sem] theorem cellsOf40 : Tryz.prog.cellsOf 40 = 1 := by unfold Program.cellsOf; rw [info40]; rfl
@[go_sem] theorem bytesOf40 : bytesOf Tryz.prog 40 = 24 := by unfold bytesOf; rw [info40]; rfl
@[go_sem] theorem takeVar40 (cs : List PV) : takeVar Tryz.prog 40 cs = cs[0]? := by unfold takeVar isAggT; rw [Tryz.underlying40, info40]
@[go_sem] theorem partA40 (cs : List PV) (k : Nat) : partA Tryz.prog 40 cs k = cs[k]? := by unfold partA isAggT; rw [Tryz.underlying40, info40]
@[go_sem] theorem zeroA40 : zeroA Tryz.prog 40 = some .emp := by unfold zeroA; rw [info40]; rfl
@[go_sem] theorem zeroOk40 : zeroOk Tryz.prog 40 = true := by unfold zeroOk; rw [zeroA40, cellsOf40]; rfl
attribute [go_sem] Tryz.underlying40
@[go_sem] theorem has41 : (Tryz.prog.info? 41).isSome = true := by rw [info41]; rfl
@[go_sem] theorem cellsOf41 : Tryz.prog.cellsOf 41 = 1 := by unfold Program.cellsOf; rw [info41]; rfl
@[go_sem] theorem bytesOf41 : bytesOf Tryz.prog 41 = 8 := by unfold bytesOf; rw [info41]; rfl
@[go_sem] theorem takeVar41 (cs : List PV) : takeVar Tryz.prog 41 cs = cs[0]? := by unfold takeVar isAggT; rw [Tryz.underlying41, info41]
@[go_sem] theorem partA41 (cs : List PV) (k : Nat) : partA Tryz.prog 41 cs k = cs[k]? := by unfold partA isAggT; rw [Tryz.underlying41, info41]
@[go_sem] theorem zeroA41 : zeroA Tryz.prog 41 = some .nilfn := by unfold zeroA; rw [info41]; rfl
@[go_sem] theorem zeroOk41 : zeroOk Tryz.prog 41 = true := by unfold zeroOk; rw [zeroA41, cellsOf41]; rfl
attribute [go_sem] Tryz.underlying41
@[go_sem] theorem has42 : (Tryz.prog.info? 42).isSome = true := by rw [info42]; rfl
@[go_sem] theorem cellsOf42 : Tryz.prog.cellsOf 42 = 1 := by unfold Program.cellsOf; rw [info42]; rfl
@[go_sem] theorem bytesOf42 : bytesOf Tryz.prog 42 = 8 := by unfold bytesOf; rw [info42]; rfl
@[go_sem] theorem takeVar42 (cs : List PV) : takeVar Tryz.prog 42 cs = cs[0]? := by unfold takeVar isAggT; rw [Tryz.underlying42, info42]
@[go_sem] theorem partA42 (cs : List PV) (k : Nat) : partA Tryz.prog 42 cs k = cs[k]? := by unfold partA isAggT; rw [Tryz.underlying42, info42]
@[go_sem] theorem zeroA42 : zeroA Tryz.prog 42 = some .nilfn := by unfold zeroA; rw [info42]; rfl
@[go_sem] theorem zeroOk42 : zeroOk Tryz.prog 42 = true := by unfold zeroOk; rw [zeroA42, cellsOf42]; rfl
attribute [go_sem] Tryz.underlying42
@[go_sem] theorem has43 : (Tryz.prog.info? 43).isSome = true := by rw [info43]; rfl
@[go_sem] theorem cellsOf43 : Tryz.prog.cellsOf 43 = 1 := by unfold Program.cellsOf; rw [info43]; rfl
@[go_sem] theorem bytesOf43 : bytesOf Tryz.prog 43 = 24 := by unfold bytesOf; rw [info43]; rfl
@[go_sem] theorem takeVar43 (cs : List PV) : takeVar Tryz.prog 43 cs = cs[0]? := by unfold takeVar isAggT; rw [Tryz.underlying43, info43]
@[go_sem] theorem partA43 (cs : List PV) (k : Nat) : partA Tryz.prog 43 cs k = cs[k]? := by unfold partA isAggT; rw [Tryz.underlying43, info43]
@[go_sem] theorem zeroA43 : zeroA Tryz.prog 43 = some .emp := by unfold zeroA; rw [info43]; rfl
@[go_sem] theorem zeroOk43 : zeroOk Tryz.prog 43 = true := by unfold zeroOk; rw [zeroA43, cellsOf43]; rfl
attribute [go_sem] Tryz.underlying43
@[go_sem] theorem has44 : (Tryz.prog.info? 44).isSome = true := by rw [info44]; rfl
@[go_sem] theorem cellsOf44 : Tryz.prog.cellsOf 44 = 10 := by unfold Program.cellsOf; rw [info44]; rfl
@[go_sem] theorem bytesOf44 : bytesOf Tryz.prog 44 = 128 := by unfold bytesOf; rw [info44]; rfl
@[go_sem] theorem takeVar44 (cs : List PV) : takeVar Tryz.prog 44 cs = if 10 ≤ cs.length then some (.agg (cs.take 10)) else none := by unfold takeVar isAggT; rw [Tryz.underlying44, info44]; rfl
@[go_sem] theorem partA44 (cs : List PV) (k : Nat) : partA Tryz.prog 44 cs k = if k + 10 ≤ cs.length then some (.agg ((cs.drop k).take 10)) else none := by unfold partA isAggT; rw [Tryz.underlying44, info44]; rfl
@[go_sem] theorem zeroA44 : zeroA Tryz.prog 44 = some (.agg [(.int IntKind.i64 0), (.int IntKind.i64 0), (.int IntKind.i64 0), (.int IntKind.i64 0), (.int IntKind.i64 0), (.int IntKind.i64 0), (.int IntKind.i64 0), .emp, .emp, .emp]) := by unfold zeroA; rw [info44]; rfl
@[go_sem] theorem zeroOk44 : zeroOk Tryz.prog 44 = true := by unfold zeroOk; rw [zeroA44, cellsOf44]; rfl
@[go_sem] theorem field44_0 : fieldInfo Tryz.prog 44 0 = some (0, 3) := by unfold fieldInfo; rw [Tryz.underlying44]; show (match Tryz.prog.info? 3 with | some i => if i.size = 0 then none else some (0, 3) | none => none) = _; rw [info3]; rfl
@[go_sem] theorem field44_1 : fieldInfo Tryz.prog 44 1 = some (1, 24) := by unfold fieldInfo; rw [Tryz.underlying44]; show (match Tryz.prog.info? 24 with | some i => if i.size = 0 then none else some (1, 24) | none => none) = _; rw [info24]; rfl
@[go_sem] theorem field44_2 : fieldInfo Tryz.prog 44 2 = some (3, 27) := by unfold fieldInfo; rw [Tryz.underlying44]; show (match Tryz.prog.info? 27 with | some i => if i.size = 0 then none else some (3, 27) | none => none) = _; rw [info27]; rfl
@[go_sem] theorem field44_3 : fieldInfo Tryz.prog 44 3 = some (8, 43) := by unfold fieldInfo; rw [Tryz.underlying44]; show (match Tryz.prog.info? 43 with | some i => if i.size = 0 then none else some (8, 43) | none => none) = _; rw [info43]; rfl
@[go_sem] theorem field44_4 : fieldInfo Tryz.prog 44 4 = some (9, 43) := by unfold fieldInfo; rw [Tryz.underlying44]; show (match Tryz.prog.info? 43 with | some i => if i.size = 0 then none else some (9, 43) | none => none) = _; rw [info43]; rfl
attribute [go_sem] Tryz.underlying44
@[go_sem] theorem has45 : (Tryz.prog.info? 45).isSome = true := by rw [info45]; rfl
@[go_sem] theorem cellsOf45 : Tryz.prog.cellsOf 45 = 10 := by unfold Program.cellsOf; rw [info45]; rfl
@[go_sem] theorem bytesOf45 : bytesOf Tryz.prog 45 = 128 := by unfold bytesOf; rw [info45]; rfl
@[go_sem] theorem takeVar45 (cs : List PV) : takeVar Tryz.prog 45 cs = if 10 ≤ cs.length then some (.agg (cs.take 10)) else none := by unfold takeVar isAggT; rw [Tryz.underlying45, info45]; rfl
@[go_sem] theorem partA45 (cs : List PV) (k : Nat) : partA Tryz.prog 45 cs k = if k + 10 ≤ cs.length then some (.agg ((cs.drop k).take 10)) else none := by unfold partA isAggT; rw [Tryz.underlying45, info45]; rfl
@[go_sem] theorem zeroA45 : zeroA Tryz.prog 45 = some (.agg [(.int IntKind.i64 0), (.int IntKind.i64 0), (.int IntKind.i64 0), (.int IntKind.i64 0), (.int IntKind.i64 0), (.int IntKind.i64 0), (.int IntKind.i64 0), .emp, .emp, .emp]) := by unfold zeroA; rw [info45]; rfl
@[go_sem] theorem zeroOk45 : zeroOk Tryz.prog 45 = true := by unfold zeroOk; rw [zeroA45, cellsOf45]; rfl
@[go_sem] theorem field45_0 : fieldInfo Tryz.prog 45 0 = some (0, 3) := by unfold fieldInfo; rw [Tryz.underlying45]; show (match Tryz.prog.info? 3 with | some i => if i.size = 0 then none else some (0, 3) | none => none) = _; rw [info3]; rfl
@[go_sem] theorem field45_1 : fieldInfo Tryz.prog 45 1 = some (1, 24) := by unfold fieldInfo; rw [Tryz.underlying45]; show (match Tryz.prog.info? 24 with | some i => if i.size = 0 then none else some (1, 24) | none => none) = _; rw [info24]; rfl
@[go_sem] theorem field45_2 : fieldInfo Tryz.prog 45 2 = some (3, 27) := by unfold fieldInfo; rw [Tryz.underlying45]; show (match Tryz.prog.info? 27 with | some i => if i.size = 0 then none else some (3, 27) | none => none) = _; rw [info27]; rfl
@[go_sem] theorem field45_3 : fieldInfo Tryz.prog 45 3 = some (8, 43) := by unfold fieldInfo; rw [Tryz.underlying45]; show (match Tryz.prog.info? 43 with | some i => if i.size = 0 then none else some (8, 43) | none => none) = _; rw [info43]; rfl
@[go_sem] theorem field45_4 : fieldInfo Tryz.prog 45 4 = some (9, 43) := by unfold fieldInfo; rw [Tryz.underlying45]; show (match Tryz.prog.info? 43 with | some i => if i.size = 0 then none else some (9, 43) | none => none) = _; rw [info43]; rfl
attribute [go_sem] Tryz.underlying45
@[go_sem] theorem has47 : (Tryz.prog.info? 47).isSome = true := by rw [info47]; rfl
@[go_sem] theorem cellsOf47 : Tryz.prog.cellsOf 47 = 1 := by unfold Program.cellsOf; rw [info47]; rfl
@[go_sem] theorem bytesOf47 : bytesOf Tryz.prog 47 = 8 := by unfold bytesOf; rw [info47]; rfl
@[go_sem] theorem takeVar47 (cs : List PV) : takeVar Tryz.prog 47 cs = cs[0]? := by unfold takeVar isAggT; rw [Tryz.underlying47, info47]
@[go_sem] theorem partA47 (cs : List PV) (k : Nat) : partA Tryz.prog 47 cs k = cs[k]? := by unfold partA isAggT; rw [Tryz.underlying47, info47]
@[go_sem] theorem zeroA47 : zeroA Tryz.prog 47 = some .nilfn := by unfold zeroA; rw [info47]; rfl
@[go_sem] theorem zeroOk47 : zeroOk Tryz.prog 47 = true := by unfold zeroOk; rw [zeroA47, cellsOf47]; rfl
attribute [go_sem] Tryz.underlying47
@[go_sem] theorem has48 : (Tryz.prog.info? 48).isSome = true := by rw [info48]; rfl
@[go_sem] theorem cellsOf48 : Tryz.prog.cellsOf 48 = 1 := by unfold Program.cellsOf; rw [info48]; rfl
@[go_sem] theorem bytesOf48 : bytesOf Tryz.prog 48 = 8 := by unfold bytesOf; rw [info48]; rfl
@[go_sem] theorem takeVar48 (cs : List PV) : takeVar Tryz.prog 48 cs = cs[0]? := by unfold takeVar isAggT; rw [Tryz.underlying48, info48]
@[go_sem] theorem partA48 (cs : List PV) (k : Nat) : partA Tryz.prog 48 cs k = cs[k]? := by unfold partA isAggT; rw [Tryz.underlying48, info48]
@[go_sem] theorem zeroA48 : zeroA Tryz.prog 48 = some .nilfn := by unfold zeroA; rw [info48]; rfl
@[go_sem] theorem zeroOk48 : zeroOk Tryz.prog 48 = true := by unfold zeroOk; rw [zeroA48, cellsOf48]; rfl
attribute [go_sem] Tryz.underlying48
@[go_sem] theorem has49 : (Tryz.prog.info? 49).isSome = true := by rw [info49]; rfl
@[go_sem] theorem cellsOf49 : Tryz.prog.cellsOf 49 = 1 := by unfold Program.cellsOf; rw [info49]; rfl
@[go_sem] theorem bytesOf49 : bytesOf Tryz.prog 49 = 8 := by unfold bytesOf; rw [info49]; rfl
@[go_sem] theorem takeVar49 (cs : List PV) : takeVar Tryz.prog 49 cs = cs[0]? := by unfold takeVar isAggT; rw [Tryz.underlying49, info49]
@[go_sem] theorem partA49 (cs : List PV) (k : Nat) : partA Tryz.prog 49 cs k = cs[k]? := by unfold partA isAggT; rw [Tryz.underlying49, info49]
@[go_sem] theorem zeroA49 : zeroA Tryz.prog 49 = some .nilp := by unfold zeroA; rw [info49]; rfl
@[go_sem] theorem zeroOk49 : zeroOk Tryz.prog 49 = true := by unfold zeroOk; rw [zeroA49, cellsOf49]; rfl
attribute [go_sem] Tryz.underlying49
@[go_sem] theorem has50 : (Tryz.prog.info? 50).isSome = true := by rw [info50]; rfl
@[go_sem] theorem cellsOf50 : Tryz.prog.cellsOf 50 = 1 := by unfold Program.cellsOf; rw [info50]; rfl
@[go_sem] theorem bytesOf50 : bytesOf Tryz.prog 50 = 8 := by unfold bytesOf; rw [info50]; rfl
@[go_sem] theorem takeVar50 (cs : List PV) : takeVar Tryz.prog 50 cs = cs[0]? := by unfold takeVar isAggT; rw [Tryz.underlying50, info50]
@[go_sem] theorem partA50 (cs : List PV) (k : Nat) : partA Tryz.prog 50 cs k = cs[k]? := by unfold partA isAggT; rw [Tryz.underlying50, info50]
@[go_sem] theorem zeroA50 : zeroA Tryz.prog 50 = some .nilfn := by unfold zeroA; rw [info50]; rfl
@[go_sem] theorem zeroOk50 : zeroOk Tryz.prog 50 = true := by unfold zeroOk; rw [zeroA50, cellsOf50]; rfl
attribute [go_sem] Tryz.underlying50
@[go_sem] theorem has51 : (Tryz.prog.info? 51).isSome = true := by rw [info51]; rfl
@[go_sem] theorem cellsOf51 : Tryz.prog.cellsOf 51 = 1 := by unfold Program.cellsOf; rw [info51]; rfl
@[go_sem] theorem bytesOf51 : bytesOf Tryz.prog 51 = 8 := by unfold bytesOf; rw [info51]; rfl
@[go_sem] theorem takeVar51 (cs : List PV) : takeVar Tryz.prog 51 cs = cs[0]? := by unfold takeVar isAggT; rw [Tryz.underlying51, info51]
@[go_sem] theorem partA51 (cs : List PV) (k : Nat) : partA Tryz.prog 51 cs k = cs[k]? := by unfold partA isAggT; rw [Tryz.underlying51, info51]
@[go_sem] theorem zeroA51 : zeroA Tryz.prog 51 = some .nilfn := by unfold zeroA; rw [info51]; rfl
@[go_sem] theorem zeroOk51 : zeroOk Tryz.prog 51 = true := by unfold zeroOk; rw [zeroA51, cellsOf51]; rfl
attribute [go_sem] Tryz.underlying51
@[go_sem] theorem has52 : (Tryz.prog.info? 52).isSome = true := by rw [info52]; rfl
@[go_sem] theorem cellsOf52 : Tryz.prog.cellsOf 52 = 1 := by unfold Program.cellsOf; rw [info52]; rfl
@[go_sem] theorem bytesOf52 : bytesOf Tryz.prog 52 = 8 := by unfold bytesOf; rw [info52]; rfl
@[go_sem] theorem takeVar52 (cs : List PV) : takeVar Tryz.prog 52 cs = cs[0]? := by unfold takeVar isAggT; rw [Tryz.underlying52, info52]
@[go_sem] theorem partA52 (cs : List PV) (k : Nat) : partA Tryz.prog 52 cs k = cs[k]? := by unfold partA isAggT; rw [Tryz.underlying52, info52]
@[go_sem] theorem zeroA52 : zeroA Tryz.prog 52 = some .nilfn := by unfold zeroA; rw [info52]; rfl
@[go_sem] theorem zeroOk52 : zeroOk Tryz.prog 52 = true := by unfold zeroOk; rw [zeroA52, cellsOf52]; rfl
attribute [go_sem] Tryz.underlying52
@[go_sem] theorem has53 : (Tryz.prog.info? 53).isSome = true := by rw [info53]; rfl
@[go_sem] theorem cellsOf53 : Tryz.prog.cellsOf 53 = 1 := by unfold Program.cellsOf; rw [info53]; rfl
@[go_sem] theorem bytesOf53 : bytesOf Tryz.prog 53 = 8 := by unfold bytesOf; rw [info53]; rfl
@[go_sem] theorem takeVar53 (cs : List PV) : takeVar Tryz.prog 53 cs = cs[0]? := by unfold takeVar isAggT; rw [Tryz.underlying53, info53]
@[go_sem] theorem partA53 (cs : List PV) (k : Nat) : partA Tryz.prog 53 cs k = cs[k]? := by unfold partA isAggT; rw [Tryz.underlying53, info53]
@[go_sem] theorem zeroA53 : zeroA Tryz.prog 53 = some .nilfn := by unfold zeroA; rw [info53]; rfl
@[go_sem] theorem zeroOk53 : zeroOk Tryz.prog 53 = true := by unfold zeroOk; rw [zeroA53, cellsOf53]; rfl
attribute [go_sem] Tryz.underlying53
@[go_sem] theorem has54 : (Tryz.prog.info? 54).isSome = true := by rw [info54]; rfl
@[go_sem] theorem cellsOf54 : Tryz.prog.cellsOf 54 = 1 := by unfold Program.cellsOf; rw [info54]; rfl
@[go_sem] theorem bytesOf54 : bytesOf Tryz.prog 54 = 8 := by unfold bytesOf; rw [info54]; rfl
@[go_sem] theorem takeVar54 (cs : List PV) : takeVar Tryz.prog 54 cs = cs[0]? := by unfold takeVar isAggT; rw [Tryz.underlying54, info54]
@[go_sem] theorem partA54 (cs : List PV) (k : Nat) : partA Tryz.prog 54 cs k = cs[k]? := by unfold partA isAggT; rw [Tryz.underlying54, info54]
@[go_sem] theorem zeroA54 : zeroA Tryz.prog 54 = some .nilfn := by unfold zeroA; rw [info54]; rfl
@[go_sem] theorem zeroOk54 : zeroOk Tryz.prog 54 = true := by unfold zeroOk; rw [zeroA54, cellsOf54]; rfl
attribute [go_sem] Tryz.underlying54
@[go_sem] theorem has55 : (Tryz.prog.info? 55).isSome = true := by rw [info55]; rfl
@[go_sem] theorem cellsOf55 : Tryz.prog.cellsOf 55 = 1 := by unfold Program.cellsOf; rw [info55]; rfl
@[go_sem] theorem bytesOf55 : bytesOf Tryz.prog 55 = 8 := by unfold bytesOf; rw [info55]; rfl
@[go_sem] theorem takeVar55 (cs : List PV) : takeVar Tryz.prog 55 cs = cs[0]? := by unfold takeVar isAggT; rw [Tryz.underlying55, info55]
@[go_sem] theorem partA55 (cs : List PV) (k : Nat) : partA Tryz.prog 55 cs k = cs[k]? := by unfold partA isAggT; rw [Tryz.underlying55, info55]
@[go_sem] theorem zeroA55 : zeroA Tryz.prog 55 = some .nilfn := by unfold zeroA; rw [info55]; rfl
@[go_sem] theorem zeroOk55 : zeroOk Tryz.prog 55 = true := by unfold zeroOk; rw [zeroA55, cellsOf55]; rfl
attribute [go_sem] Tryz.underlying55
@[go_sem] theorem has56 : (Tryz.prog.info? 56).isSome = true := by rw [info56]; rfl
@[go_sem] theorem cellsOf56 : Tryz.prog.cellsOf 56 = 1 := by unfold Program.cellsOf; rw [info56]; rfl
@[go_sem] theorem bytesOf56 : bytesOf Tryz.prog 56 = 8 := by unfold bytesOf; rw [info56]; rfl
@[go_sem] theorem takeVar56 (cs : List PV) : takeVar Tryz.prog 56 cs = cs[0]? := by unfold takeVar isAggT; rw [Tryz.underlying56, info56]
@[go_sem] theorem partA56 (cs : List PV) (k : Nat) : partA Tryz.prog 56 cs k = cs[k]? := by unfold partA isAggT; rw [Tryz.underlying56, info56]
@[go_sem] theorem zeroA56 : zeroA Tryz.prog 56 = some .nilfn := by unfold zeroA; rw [info56]; rfl
@[go_sem] theorem zeroOk56 : zeroOk Tryz.prog 56 = true := by unfold zeroOk; rw [zeroA56, cellsOf56]; rfl
attribute [go_sem] Tryz.underlying56
@[go_sem] theorem has57 : (Tryz.prog.info? 57).isSome = true := by rw [info57]; rfl
@[go_sem] theorem cellsOf57 : Tryz.prog.cellsOf 57 = 1 := by unfold Program.cellsOf; rw [info57]; rfl
@[go_sem] theorem bytesOf57 : bytesOf Tryz.prog 57 = 8 := by unfold bytesOf; rw [info57]; rfl
@[go_sem] theorem takeVar57 (cs : List PV) : takeVar Tryz.prog 57 cs = cs[0]? := by unfold takeVar isAggT; rw [Tryz.underlying57, info57]
@[go_sem] theorem partA57 (cs : List PV) (k : Nat) : partA Tryz.prog 57 cs k = cs[k]? := by unfold partA isAggT; rw [Tryz.underlying57, info57]
@[go_sem] theorem zeroA57 : zeroA Tryz.prog 57 = some .nilfn := by unfold zeroA; rw [info57]; rfl
@[go_sem] theorem zeroOk57 : zeroOk Tryz.prog 57 = true := by unfold zeroOk; rw [zeroA57, cellsOf57]; rfl
attribute [go_sem] Tryz.underlying57
@[go_sem] theorem has59 : (Tryz.prog.info? 59).isSome = true := by rw [info59]; rfl
@[go_sem] theorem cellsOf59 : Tryz.prog.cellsOf 59 = 1 := by unfold Program.cellsOf; rw [info59]; rfl
@[go_sem] theorem bytesOf59 : bytesOf Tryz.prog 59 = 16 := by unfold bytesOf; rw [info59]; rfl
@[go_sem] theorem takeVar59 (cs : List PV) : takeVar Tryz.prog 59 cs = cs[0]? := by unfold takeVar isAggT; rw [Tryz.underlying59, info59]
@[go_sem] theorem partA59 (cs : List PV) (k : Nat) : partA Tryz.prog 59 cs k = cs[k]? := by unfold partA isAggT; rw [Tryz.underlying59, info59]
@[go_sem] theorem zeroA59 : zeroA Tryz.prog 59 = some .nilif := by unfold zeroA; rw [info59]; rfl
@[go_sem] theorem zeroOk59 : zeroOk Tryz.prog 59 = true := by unfold zeroOk; rw [zeroA59, cellsOf59]; rfl
attribute [go_sem] Tryz.underlying59
@[go_sem] theorem has60 : (Tryz.prog.info? 60).isSome = true := by rw [info60]; rfl
@[go_sem] theorem cellsOf60 : Tryz.prog.cellsOf 60 = 1 := by unfold Program.cellsOf; rw [info60]; rfl
@[go_sem] theorem bytesOf60 : bytesOf Tryz.prog 60 = 8 := by unfold bytesOf; rw [info60]; rfl
@[go_sem] theorem takeVar60 (cs : List PV) : takeVar Tryz.prog 60 cs = cs[0]? := by unfold takeVar isAggT; rw [Tryz.underlying60, info60]
@[go_sem] theorem partA60 (cs : List PV) (k : Nat) : partA Tryz.prog 60 cs k = cs[k]? := by unfold partA isAggT; rw [Tryz.underlying60, info60]
@[go_sem] theorem zeroA60 : zeroA Tryz.prog 60 = some .nilfn := by unfold zeroA; rw [info60]; rfl
@[go_sem] theorem zeroOk60 : zeroOk Tryz.prog 60 = true := by unfold zeroOk; rw [zeroA60, cellsOf60]; rfl
attribute [go_sem] Tryz.underlying60
@[go_sem] theorem has61 : (Tryz.prog.info? 61).isSome = true := by rw [info61]; rfl
@[go_sem] theorem cellsOf61 : Tryz.prog.cellsOf 61 = 1 := by unfold Program.cellsOf; rw [info61]; rfl
@[go_sem] theorem bytesOf61 : bytesOf Tryz.prog 61 = 8 := by unfold bytesOf; rw [info61]; rfl
@[go_sem] theorem takeVar61 (cs : List PV) : takeVar Tryz.prog 61 cs = cs[0]? := by unfold takeVar isAggT; rw [Tryz.underlying61, info61]
@[go_sem] theorem partA61 (cs : List PV) (k : Nat) : partA Tryz.prog 61 cs k = cs[k]? := by unfold partA isAggT; rw [Tryz.underlying61, info61]
@[go_sem] theorem zeroA61 : zeroA Tryz.prog 61 = some .nilfn := by unfold zeroA; rw [info61]; rfl
@[go_sem] theorem zeroOk61 : zeroOk Tryz.prog 61 = true := by unfold zeroOk; rw [zeroA61, cellsOf61]; rfl
attribute [go_sem] Tryz.underlying61
@[go_sem] theorem has62 : (Tryz.prog.info? 62).isSome = true := by rw [info62]; rfl
@[go_sem] theorem cellsOf62 : Tryz.prog.cellsOf 62 = 1 := by unfold Program.cellsOf; rw [info62]; rfl
@[go_sem] theorem bytesOf62 : bytesOf Tryz.prog 62 = 24 := by unfold bytesOf; rw [info62]; rfl
@[go_sem] theorem takeVar62 (cs : List PV) : takeVar Tryz.prog 62 cs = cs[0]? := by unfold takeVar isAggT; rw [Tryz.underlying62, info62]
@[go_sem] theorem partA62 (cs : List PV) (k : Nat) : partA Tryz.prog 62 cs k = cs[k]? := by unfold partA isAggT; rw [Tryz.underlying62, info62]
@[go_sem] theorem zeroA62 : zeroA Tryz.prog 62 = some .emp := by unfold zeroA; rw [info62]; rfl
@[go_sem] theorem zeroOk62 : zeroOk Tryz.prog 62 = true := by unfold zeroOk; rw [zeroA62, cellsOf62]; rfl
attribute [go_sem] Tryz.underlying62
@[go_sem] theorem has64 : (Tryz.prog.info? 64).isSome = true := by rw [info64]; rfl
@[go_sem] theorem cellsOf64 : Tryz.prog.cellsOf 64 = 1 := by unfold Program.cellsOf; rw [info64]; rfl
@[go_sem] theorem bytesOf64 : bytesOf Tryz.prog 64 = 8 := by unfold bytesOf; rw [info64]; rfl
@[go_sem] theorem takeVar64 (cs : List PV) : takeVar Tryz.prog 64 cs = cs[0]? := by unfold takeVar isAggT; rw [Tryz.underlying64, info64]
@[go_sem] theorem partA64 (cs : List PV) (k : Nat) : partA Tryz.prog 64 cs k = cs[k]? := by unfold partA isAggT; rw [Tryz.underlying64, info64]
@[go_sem] theorem zeroA64 : zeroA Tryz.prog 64 = some .nilp := by unfold zeroA; rw [info64]; rfl
@[go_sem] theorem zeroOk64 : zeroOk Tryz.prog 64 = true := by unfold zeroOk; rw [zeroA64, cellsOf64]; rfl
attribute [go_sem] Tryz.underlying64
@[go_sem] theorem has70 : (Tryz.prog.info? 70).isSome = true := by rw [info70]; rfl
@[go_sem] theorem cellsOf70 : Tryz.prog.cellsOf 70 = 1 := by unfold Program.cellsOf; rw [info70]; rfl
@[go_sem] theorem bytesOf70 : bytesOf Tryz.prog 70 = 8 := by unfold bytesOf; rw [info70]; rfl
@[go_sem] theorem takeVar70 (cs : List PV) : takeVar Tryz.prog 70 cs = cs[0]? := by unfold takeVar isAggT; rw [Tryz.underlying70, info70]
@[go_sem] theorem partA70 (cs : List PV) (k : Nat) : partA Tryz.prog 70 cs k = cs[k]? := by unfold partA isAggT; rw [Tryz.underlying70, info70]
@[go_sem] theorem zeroA70 : zeroA Tryz.prog 70 = some .nilfn := by unfold zeroA; rw [info70]; rfl
@[go_sem] theorem zeroOk70 : zeroOk Tryz.prog 70 = true := by unfold zeroOk; rw [zeroA70, cellsOf70]; rfl
attribute [go_sem] Tryz.underlying70
@[go_sem] theorem has73 : (Tryz.prog.info? 73).isSome = true := by rw [info73]; rfl
@[go_sem] theorem cellsOf73 : Tryz.prog.cellsOf 73 = 1 := by unfold Program.cellsOf; rw [info73]; rfl
@[go_sem] theorem bytesOf73 : bytesOf Tryz.prog 73 = 8 := by unfold bytesOf; rw [info73]; rfl
@[go_sem] theorem takeVar73 (cs : List PV) : takeVar Tryz.prog 73 cs = cs[0]? := by unfold takeVar isAggT; rw [Tryz.underlying73, info73]
@[go_sem] theorem partA73 (cs : List PV) (k : Nat) : partA Tryz.prog 73 cs k = cs[k]? := by unfold partA isAggT; rw [Tryz.underlying73, info73]
@[go_sem] theorem zeroA73 : zeroA Tryz.prog 73 = some .nilfn := by unfold zeroA; rw [info73]; rfl
@[go_sem] theorem zeroOk73 : zeroOk Tryz.prog 73 = true := by unfold zeroOk; rw [zeroA73, cellsOf73]; rfl
attribute [go_sem] Tryz.underlying73
@[go_sem] theorem has75 : (Tryz.prog.info? 75).isSome = true := by rw [info75]; rfl
@[go_sem] theorem cellsOf75 : Tryz.prog.cellsOf 75 = 1 := by unfold Program.cellsOf; rw [info75]; rfl
@[go_sem] theorem bytesOf75 : bytesOf Tryz.prog 75 = 8 := by unfold bytesOf; rw [info75]; rfl
@[go_sem] theorem takeVar75 (cs : List PV) : takeVar Tryz.prog 75 cs = cs[0]? := by unfold takeVar isAggT; rw [Tryz.underlying75, info75]
@[go_sem] theorem partA75 (cs : List PV) (k : Nat) : partA Tryz.prog 75 cs k = cs[k]? := by unfold partA isAggT; rw [Tryz.underlying75, info75]
@[go_sem] theorem zeroA75 : zeroA Tryz.prog 75 = some .nilfn := by unfold zeroA; rw [info75]; rfl
@[go_sem] theorem zeroOk75 : zeroOk Tryz.prog 75 = true := by unfold zeroOk; rw [zeroA75, cellsOf75]; rfl
attribute [go_sem] Tryz.underlying75
@[go_sem] theorem has76 : (Tryz.prog.info? 76).isSome = true := by rw [info76]; rfl
@[go_sem] theorem cellsOf76 : Tryz.prog.cellsOf 76 = 1 := by unfold Program.cellsOf; rw [info76]; rfl
@[go_sem] theorem bytesOf76 : bytesOf Tryz.prog 76 = 8 := by unfold bytesOf; rw [info76]; rfl
@[go_sem] theorem takeVar76 (cs : List PV) : takeVar Tryz.prog 76 cs = cs[0]? := by unfold takeVar isAggT; rw [Tryz.underlying76, info76]
@[go_sem] theorem partA76 (cs : List PV) (k : Nat) : partA Tryz.prog 76 cs k = cs[k]? := by unfold partA isAggT; rw [Tryz.underlying76, info76]
@[go_sem] theorem zeroA76 : zeroA Tryz.prog 76 = some .nilp := by unfold zeroA; rw [info76]; rfl
@[go_sem] theorem zeroOk76 : zeroOk Tryz.prog 76 = true := by unfold zeroOk; rw [zeroA76, cellsOf76]; rfl
attribute [go_sem] Tryz.underlying76
@[go_sem] theorem has79 : (Tryz.prog.info? 79).isSome = true := by rw [info79]; rfl
@[go_sem] theorem cellsOf79 : Tryz.prog.cellsOf 79 = 1 := by unfold Program.cellsOf; rw [info79]; rfl
@[go_sem] theorem bytesOf79 : bytesOf Tryz.prog 79 = 8 := by unfold bytesOf; rw [info79]; rfl
@[go_sem] theorem takeVar79 (cs : List PV) : takeVar Tryz.prog 79 cs = cs[0]? := by unfold takeVar isAggT; rw [Tryz.underlying79, info79]
@[go_sem] theorem partA79 (cs : List PV) (k : Nat) : partA Tryz.prog 79 cs k = cs[k]? := by unfold partA isAggT; rw [Tryz.underlying79, info79]
@[go_sem] theorem zeroA79 : zeroA Tryz.prog 79 = some .nilfn := by unfold zeroA; rw [info79]; rfl
@[go_sem] theorem zeroOk79 : zeroOk Tryz.prog 79 = true := by unfold zeroOk; rw [zeroA79, cellsOf79]; rfl
attribute [go_sem] Tryz.underlying79
@[go_sem] theorem has83 : (Tryz.prog.info? 83).isSome = true := by rw [info83]; rfl
@[go_sem] theorem cellsOf83 : Tryz.prog.cellsOf 83 = 2 := by unfold Program.cellsOf; rw [info83]; rfl
@[go_sem] theorem bytesOf83 : bytesOf Tryz.prog 83 = 32 := by unfold bytesOf; rw [info83]; rfl
@[go_sem] theorem takeVar83 (cs : List PV) : takeVar Tryz.prog 83 cs = if 2 ≤ cs.length then some (.agg (cs.take 2)) else none := by unfold takeVar isAggT; rw [Tryz.underlying83, info83]; rfl
@[go_sem] theorem partA83 (cs : List PV) (k : Nat) : partA Tryz.prog 83 cs k = if k + 2 ≤ cs.length then some (.agg ((cs.drop k).take 2)) else none := by unfold partA isAggT; rw [Tryz.underlying83, info83]; rfl
@[go_sem] theorem zeroA83 : zeroA Tryz.prog 83 = some (.agg [.emp, (.int IntKind.i64 0)]) := by unfold zeroA; rw [info83]; rfl
@[go_sem] theorem zeroOk83 : zeroOk Tryz.prog 83 = true := by unfold zeroOk; rw [zeroA83, cellsOf83]; rfl
@[go_sem] theorem field83_0 : fieldInfo Tryz.prog 83 0 = some (0, 22) := by unfold fieldInfo; rw [Tryz.underlying83]; show (match Tryz.prog.info? 22 with | some i => if i.size = 0 then none else some (0, 22) | none => none) = _; rw [info22]; rfl
@[go_sem] theorem field83_1 : fieldInfo Tryz.prog 83 1 = some (1, 3) := by unfold fieldInfo; rw [Tryz.underlying83]; show (match Tryz.prog.info? 3 with | some i => if i.size = 0 then none else some (1, 3) | none => none) = _; rw [info3]; rfl
attribute [go_sem] Tryz.underlying83
@[go_sem] theorem has85 : (Tryz.prog.info? 85).isSome = true := by rw [info85]; rfl
@[go_sem] theorem cellsOf85 : Tryz.prog.cellsOf 85 = 1 := by unfold Program.cellsOf; rw [info85]; rfl
@[go_sem] theorem bytesOf85 : bytesOf Tryz.prog 85 = 8 := by unfold bytesOf; rw [info85]; rfl
@[go_sem] theorem takeVar85 (cs : List PV) : takeVar Tryz.prog 85 cs = cs[0]? := by unfold takeVar isAggT; rw [Tryz.underlying85, info85]
@[go_sem] theorem partA85 (cs : List PV) (k : Nat) : partA Tryz.prog 85 cs k = cs[k]? := by unfold partA isAggT; rw [Tryz.underlying85, info85]
@[go_sem] theorem zeroA85 : zeroA Tryz.prog 85 = some .nilfn := by unfold zeroA; rw [info85]; rfl
@[go_sem] theorem zeroOk85 : zeroOk Tryz.prog 85 = true := by unfold zeroOk; rw [zeroA85, cellsOf85]; rfl
attribute [go_sem] Tryz.underlying85
@[go_sem] theorem has86 : (Tryz.prog.info? 86).isSome = true := by rw [info86]; rfl
@[go_sem] theorem cellsOf86 : Tryz.prog.cellsOf 86 = 5 := by unfold Program.cellsOf; rw [info86]; rfl
@[go_sem] theorem bytesOf86 : bytesOf Tryz.prog 86 = 40 := by unfold bytesOf; rw [info86]; rfl
@[go_sem] theorem takeVar86 (cs : List PV) : takeVar Tryz.prog 86 cs = if 5 ≤ cs.length then some (.agg (cs.take 5)) else none := by unfold takeVar isAggT; rw [Tryz.underlying86, info86]; rfl
@[go_sem] theorem partA86 (cs : List PV) (k : Nat) : partA Tryz.prog 86 cs k = if k + 5 ≤ cs.length then some (.agg ((cs.drop k).take 5)) else none := by unfold partA isAggT; rw [Tryz.underlying86, info86]; rfl
@[go_sem] theorem zeroA86 : zeroA Tryz.prog 86 = some (.agg [.nilfn, .nilfn, .nilfn, .nilfn, .nilfn]) := by unfold zeroA; rw [info86]; rfl
@[go_sem] theorem zeroOk86 : zeroOk Tryz.prog 86 = true := by unfold zeroOk; rw [zeroA86, cellsOf86]; rfl
attribute [go_sem] Tryz.underlying86
@[go_sem] theorem has87 : (Tryz.prog.info? 87).isSome = true := by rw [info87]; rfl
@[go_sem] theorem cellsOf87 : Tryz.prog.cellsOf 87 = 1 := by unfold Program.cellsOf; rw [info87]; rfl
@[go_sem] theorem bytesOf87 : bytesOf Tryz.prog 87 = 8 := by unfold bytesOf; rw [info87]; rfl
@[go_sem] theorem takeVar87 (cs : List PV) : takeVar Tryz.prog 87 cs = cs[0]? := by unfold takeVar isAggT; rw [Tryz.underlying87, info87]
@[go_sem] theorem partA87 (cs : List PV) (k : Nat) : partA Tryz.prog 87 cs k = cs[k]? := by unfold partA isAggT; rw [Tryz.underlying87, info87]
@[go_sem] theorem zeroA87 : zeroA Tryz.prog 87 = some .nilfn := by unfold zeroA; rw [info87]; rfl
@[go_sem] theorem zeroOk87 : zeroOk Tryz.prog 87 = true := by unfold zeroOk; rw [zeroA87, cellsOf87]; rfl
attribute [go_sem] Tryz.underlying87
@[go_sem] theorem has89 : (Tryz.prog.info? 89).isSome = true := by rw [info89]; rfl
@[go_sem] theorem cellsOf89 : Tryz.prog.cellsOf 89 = 1 := by unfold Program.cellsOf; rw [info89]; rfl
@[go_sem] theorem bytesOf89 : bytesOf Tryz.prog 89 = 8 := by unfold bytesOf; rw [info89]; rfl
@[go_sem] theorem takeVar89 (cs : List PV) : takeVar Tryz.prog 89 cs = cs[0]? := by unfold takeVar isAggT; rw [Tryz.underlying89, info89]
@[go_sem] theorem partA89 (cs : List PV) (k : Nat) : partA Tryz.prog 89 cs k = cs[k]? := by unfold partA isAggT; rw [Tryz.underlying89, info89]
@[go_sem] theorem zeroA89 : zeroA Tryz.prog 89 = some .nilfn := by unfold zeroA; rw [info89]; rfl
@[go_sem] theorem zeroOk89 : zeroOk Tryz.prog 89 = true := by unfold zeroOk; rw [zeroA89, cellsOf89]; rfl
attribute [go_sem] Tryz.underlying89
@[go_sem] theorem has90 : (Tryz.prog.info? 90).isSome = true := by rw [info90]; rfl
@[go_sem] theorem cellsOf90 : Tryz.prog.cellsOf 90 = 1 := by unfold Program.cellsOf; rw [info90]; rfl
@[go_sem] theorem bytesOf90 : bytesOf Tryz.prog 90 = 8 := by unfold bytesOf; rw [info90]; rfl
@[go_sem] theorem takeVar90 (cs : List PV) : takeVar Tryz.prog 90 cs = cs[0]? := by unfold takeVar isAggT; rw [Tryz.underlying90, info90]
@[go_sem] theorem partA90 (cs : List PV) (k : Nat) : partA Tryz.prog 90 cs k = cs[k]? := by unfold partA isAggT; rw [Tryz.underlying90, info90]
@[go_sem] theorem zeroA90 : zeroA Tryz.prog 90 = some .nilfn := by unfold zeroA; rw [info90]; rfl
@[go_sem] theorem zeroOk90 : zeroOk Tryz.prog 90 = true := by unfold zeroOk; rw [zeroA90, cellsOf90]; rfl
attribute [go_sem] Tryz.underlying90
@[go_sem] theorem has92 : (Tryz.prog.info? 92).isSome = true := by rw [info92]; rfl
@[go_sem] theorem cellsOf92 : Tryz.prog.cellsOf 92 = 1 := by unfold Program.cellsOf; rw [info92]; rfl
@[go_sem] theorem bytesOf92 : bytesOf Tryz.prog 92 = 8 := by unfold bytesOf; rw [info92]; rfl
@[go_sem] theorem takeVar92 (cs : List PV) : takeVar Tryz.prog 92 cs = cs[0]? := by unfold takeVar isAggT; rw [Tryz.underlying92, info92]
@[go_sem] theorem partA92 (cs : List PV) (k : Nat) : partA Tryz.prog 92 cs k = cs[k]? := by unfold partA isAggT; rw [Tryz.underlying92, info92]
@[go_sem] theorem zeroA92 : zeroA Tryz.prog 92 = some .nilfn := by unfold zeroA; rw [info92]; rfl
@[go_sem] theorem zeroOk92 : zeroOk Tryz.prog 92 = true := by unfold zeroOk; rw [zeroA92, cellsOf92]; rfl
attribute [go_sem] Tryz.underlying92
@[go_sem] theorem has93 : (Tryz.prog.info? 93).isSome = true := by rw [info93]; rfl
@[go_sem] theorem cellsOf93 : Tryz.prog.cellsOf 93 = 1 := by unfold Program.cellsOf; rw [info93]; rfl
@[go_sem] theorem bytesOf93 : bytesOf Tryz.prog 93 = 8 := by unfold bytesOf; rw [info93]; rfl
@[go_sem] theorem takeVar93 (cs : List PV) : takeVar Tryz.prog 93 cs = cs[0]? := by unfold takeVar isAggT; rw [Tryz.underlying93, info93]
@[go_sem] theorem partA93 (cs : List PV) (k : Nat) : partA Tryz.prog 93 cs k = cs[k]? := by unfold partA isAggT; rw [Tryz.underlying93, info93]
@[go_sem] theorem zeroA93 : zeroA Tryz.prog 93 = some .nilfn := by unfold zeroA; rw [info93]; rfl
@[go_sem] theorem zeroOk93 : zeroOk Tryz.prog 93 = true := by unfold zeroOk; rw [zeroA93, cellsOf93]; rfl
attribute [go_sem] Tryz.underlying93
@[go_sem] theorem has94 : (Tryz.prog.info? 94).isSome = true := by rw [info94]; rfl
@[go_sem] theorem cellsOf94 : Tryz.prog.cellsOf 94 = 0 := by unfold Program.cellsOf; rw [info94]; rfl
@[go_sem] theorem bytesOf94 : bytesOf Tryz.prog 94 = 0 := by unfold bytesOf; rw [info94]; rfl
@[go_sem] theorem takeVar94 (cs : List PV) : takeVar Tryz.prog 94 cs = if 0 ≤ cs.length then some (.agg (cs.take 0)) else none := by unfold takeVar isAggT; rw [Tryz.underlying94, info94]; rfl
@[go_sem] theorem partA94 (cs : List PV) (k : Nat) : partA Tryz.prog 94 cs k = if k + 0 ≤ cs.length then some (.agg ((cs.drop k).take 0)) else none := by unfold partA isAggT; rw [Tryz.underlying94, info94]; rfl
@[go_sem] theorem zeroA94 : zeroA Tryz.prog 94 = some (.agg []) := by unfold zeroA; rw [info94]; rfl
@[go_sem] theorem zeroOk94 : zeroOk Tryz.prog 94 = true := by unfold zeroOk; rw [zeroA94, cellsOf94]; rfl
attribute [go_sem] Tryz.underlying94
@[go_sem] theorem has95 : (Tryz.prog.info? 95).isSome = true := by rw [info95]; rfl
@[go_sem] theorem cellsOf95 : Tryz.prog.cellsOf 95 = 0 := by unfold Program.cellsOf; rw [info95]; rfl
@[go_sem] theorem bytesOf95 : bytesOf Tryz.prog 95 = 0 := by unfold bytesOf; rw [info95]; rfl
@[go_sem] theorem takeVar95 (cs : List PV) : takeVar Tryz.prog 95 cs = if 0 ≤ cs.length then some (.agg (cs.take 0)) else none := by unfold takeVar isAggT; rw [Tryz.underlying95, info95]; rfl
@[go_sem] theorem partA95 (cs : List PV) (k : Nat) : partA Tryz.prog 95 cs k = if k + 0 ≤ cs.length then some (.agg ((cs.drop k).take 0)) else none := by unfold partA isAggT; rw [Tryz.underlying95, info95]; rfl
@[go_sem] theorem zeroA95 : zeroA Tryz.prog 95 = some (.agg []) := by unfold zeroA; rw [info95]; rfl
@[go_sem] theorem zeroOk95 : zeroOk Tryz.prog 95 = true := by unfold zeroOk; rw [zeroA95, cellsOf95]; rfl
attribute [go_sem] Tryz.underlying95
@[go_sem] theorem has96 : (Tryz.prog.info? 96).isSome = true := by rw [info96]; rfl
@[go_sem] theorem cellsOf96 : Tryz.prog.cellsOf 96 = 0 := by unfold Program.cellsOf; rw [info96]; rfl
@[go_sem] theorem bytesOf96 : bytesOf Tryz.prog 96 = 0 := by unfold bytesOf; rw [info96]; rfl
@[go_sem] theorem takeVar96 (cs : List PV) : takeVar Tryz.prog 96 cs = if 0 ≤ cs.length then some (.agg (cs.take 0)) else none := by unfold takeVar isAggT; rw [Tryz.underlying96, info96]; rfl
@[go_sem] theorem partA96 (cs : List PV) (k : Nat) : partA Tryz.prog 96 cs k = if k + 0 ≤ cs.length then some (.agg ((cs.drop k).take 0)) else none := by unfold partA isAggT; rw [Tryz.underlying96, info96]; rfl
@[go_sem] theorem zeroA96 : zeroA Tryz.prog 96 = some (.agg []) := by unfold zeroA; rw [info96]; rfl
@[go_sem] theorem zeroOk96 : zeroOk Tryz.prog 96 = true := by unfold zeroOk; rw [zeroA96, cellsOf96]; rfl
attribute [go_sem] Tryz.underlying96
@[go_sem] theorem has97 : (Tryz.prog.info? 97).isSome = true := by rw [info97]; rfl
@[go_sem] theorem cellsOf97 : Tryz.prog.cellsOf 97 = 0 := by unfold Program.cellsOf; rw [info97]; rfl
@[go_sem] theorem bytesOf97 : bytesOf Tryz.prog 97 = 0 := by unfold bytesOf; rw [info97]; rfl
@[go_sem] theorem takeVar97 (cs : List PV) : takeVar Tryz.prog 97 cs = if 0 ≤ cs.length then some (.agg (cs.take 0)) else none := by unfold takeVar isAggT; rw [Tryz.underlying97, info97]; rfl
@[go_sem] theorem partA97 (cs : List PV) (k : Nat) : partA Tryz.prog 97 cs k = if k + 0 ≤ cs.length then some (.agg ((cs.drop k).take 0)) else none := by unfold partA isAggT; rw [Tryz.underlying97, info97]; rfl
@[go_sem] theorem zeroA97 : zeroA Tryz.prog 97 = some (.agg []) := by unfold zeroA; rw [info97]; rfl
@[go_sem] theorem zeroOk97 : zeroOk Tryz.prog 97 = true := by unfold zeroOk; rw [zeroA97, cellsOf97]; rfl
attribute [go_sem] Tryz.underlying97
@[go_sem] theorem has98 : (Tryz.prog.info? 98).isSome = true := by rw [info98]; rfl
@[go_sem] theorem cellsOf98 : Tryz.prog.cellsOf 98 = 0 := by unfold Program.cellsOf; rw [info98]; rfl
@[go_sem] theorem bytesOf98 : bytesOf Tryz.prog 98 = 0 := by unfold bytesOf; rw [info98]; rfl
@[go_sem] theorem takeVar98 (cs : List PV) : takeVar Tryz.prog 98 cs = if 0 ≤ cs.length then some (.agg (cs.take 0)) else none := by unfold takeVar isAggT; rw [Tryz.underlying98, info98]; rfl
@[go_sem] theorem partA98 (cs : List PV) (k : Nat) : partA Tryz.prog 98 cs k = if k + 0 ≤ cs.length then some (.agg ((cs.drop k).take 0)) else none := by unfold partA isAggT; rw [Tryz.underlying98, info98]; rfl
@[go_sem] theorem zeroA98 : zeroA Tryz.prog 98 = some (.agg []) := by unfold zeroA; rw [info98]; rfl
@[go_sem] theorem zeroOk98 : zeroOk Tryz.prog 98 = true := by unfold zeroOk; rw [zeroA98, cellsOf98]; rfl
attribute [go_sem] Tryz.underlying98
@[go_sem] theorem has99 : (Tryz.prog.info? 99).isSome = true := by rw [info99]; rfl
@[go_sem] theorem cellsOf99 : Tryz.prog.cellsOf 99 = 1 := by unfold Program.cellsOf; rw [info99]; rfl
@[go_sem] theorem bytesOf99 : bytesOf Tryz.prog 99 = 8 := by unfold bytesOf; rw [info99]; rfl
@[go_sem] theorem takeVar99 (cs : List PV) : takeVar Tryz.prog 99 cs = cs[0]? := by unfold takeVar isAggT; rw [Tryz.underlying99, info99]
@[go_sem] theorem partA99 (cs : List PV) (k : Nat) : partA Tryz.prog 99 cs k = cs[k]? := by unfold partA isAggT; rw [Tryz.underlying99, info99]
@[go_sem] theorem zeroA99 : zeroA Tryz.prog 99 = some .nilfn := by unfold zeroA; rw [info99]; rfl
@[go_sem] theorem zeroOk99 : zeroOk Tryz.prog 99 = true := by unfold zeroOk; rw [zeroA99, cellsOf99]; rfl
attribute [go_sem] Tryz.underlying99
@[go_sem] theorem has100 : (Tryz.prog.info? 100).isSome = true := by rw [info100]; rfl
@[go_sem] theorem cellsOf100 : Tryz.prog.cellsOf 100 = 6 := by unfold Program.cellsOf; rw [info100]; rfl
@[go_sem] theorem bytesOf100 : bytesOf Tryz.prog 100 = 48 := by unfold bytesOf; rw [info100]; rfl
@[go_sem] theorem takeVar100 (cs : List PV) : takeVar Tryz.prog 100 cs = if 6 ≤ cs.length then some (.agg (cs.take 6)) else none := by unfold takeVar isAggT; rw [Tryz.underlying100, info100]; rfl
@[go_sem] theorem partA100 (cs : List PV) (k : Nat) : partA Tryz.prog 100 cs k = if k + 6 ≤ cs.length then some (.agg ((cs.drop k).take 6)) else none := by unfold partA isAggT; rw [Tryz.underlying100, info100]; rfl
@[go_sem] theorem zeroA100 : zeroA Tryz.prog 100 = some (.agg [(.int IntKind.i64 0), (.int IntKind.i64 0), (.int IntKind.i64 0), (.int IntKind.i64 0), (.int IntKind.i64 0), (.int IntKind.i64 0)]) := by unfold zeroA; rw [info100]; rfl
@[go_sem] theorem zeroOk100 : zeroOk Tryz.prog 100 = true := by unfold zeroOk; rw [zeroA100, cellsOf100]; rfl
attribute [go_sem] Tryz.underlying100
@[go_sem] theorem has101 : (Tryz.prog.info? 101).isSome = true := by rw [info101]; rfl
@[go_sem] theorem cellsOf101 : Tryz.prog.cellsOf 101 = 6 := by unfold Program.cellsOf; rw [info101]; rfl
@[go_sem] theorem bytesOf101 : bytesOf Tryz.prog 101 = 48 := by unfold bytesOf; rw [info101]; rfl
@[go_sem] theorem takeVar101 (cs : List PV) : takeVar Tryz.prog 101 cs = if 6 ≤ cs.length then some (.agg (cs.take 6)) else none := by unfold takeVar isAggT; rw [Tryz.underlying101, info101]; rfl
@[go_sem] theorem partA101 (cs : List PV) (k : Nat) : partA Tryz.prog 101 cs k = if k + 6 ≤ cs.length then some (.agg ((cs.drop k).take 6)) else none := by unfold partA isAggT; rw [Tryz.underlying101, info101]; rfl
@[go_sem] theorem zeroA101 : zeroA Tryz.prog 101 = some (.agg [(.int IntKind.i64 0), (.int IntKind.i64 0), (.int IntKind.i64 0), (.int IntKind.i64 0), (.int IntKind.i64 0), (.int IntKind.i64 0)]) := by unfold zeroA; rw [info101]; rfl
@[go_sem] theorem zeroOk101 : zeroOk Tryz.prog 101 = true := by unfold zeroOk; rw [zeroA101, cellsOf101]; rfl
attribute [go_sem] Tryz.underlying101
@[go_sem] theorem has102 : (Tryz.prog.info? 102).isSome = true := by rw [info102]; rfl
@[go_sem] theorem cellsOf102 : Tryz.prog.cellsOf 102 = 18 := by unfold Program.cellsOf; rw [info102]; rfl
@[go_sem] theorem bytesOf102 : bytesOf Tryz.prog 102 = 144 := by unfold bytesOf; rw [info102]; rfl
@[go_sem] theorem takeVar102 (cs : List PV) : takeVar Tryz.prog 102 cs = if 18 ≤ cs.length then some (.agg (cs.take 18)) else none := by unfold takeVar isAggT; rw [Tryz.underlying102, info102]; rfl
@[go_sem] theorem partA102 (cs : List PV) (k : Nat) : partA Tryz.prog 102 cs k = if k + 18 ≤ cs.length then some (.agg ((cs.drop k).take 18)) else none := by unfold partA isAggT; rw [Tryz.underlying102, info102]; rfl
@[go_sem] theorem zeroA102 : zeroA Tryz.prog 102 = some (.agg [(.int IntKind.i64 0), (.int IntKind.i64 0), (.int IntKind.i64 0), (.int IntKind.i64 0), (.int IntKind.i64 0), (.int IntKind.i64 0), (.int IntKind.i64 0), (.int IntKind.i64 0), (.int IntKind.i64 0), (.int IntKind.i64 0), (.int IntKind.i64 0), (.int IntKind.i64 0), (.int IntKind.i64 0), (.int IntKind.i64 0), (.int IntKind.i64 0), (.int IntKind.i64 0), (.int IntKind.i64 0), (.int IntKind.i64 0)]) := by unfold zeroA; rw [info102]; rfl
@[go_sem] theorem zeroOk102 : zeroOk Tryz.prog 102 = true := by unfold zeroOk; rw [zeroA102, cellsOf102]; rfl
attribute [go_sem] Tryz.underlying102
@[go_sem] theorem has103 : (Tryz.prog.info? 103).isSome = true := by rw [info103]; rfl
@[go_sem] theorem cellsOf103 : Tryz.prog.cellsOf 103 = 18 := by unfold Program.cellsOf; rw [info103]; rfl
@[go_sem] theorem bytesOf103 : bytesOf Tryz.prog 103 = 144 := by unfold bytesOf; rw [info103]; rfl
@[go_sem] theorem takeVar103 (cs : List PV) : takeVar Tryz.prog 103 cs = if 18 ≤ cs.length then some (.agg (cs.take 18)) else none := by unfold takeVar isAggT; rw [Tryz.underlying103, info103]; rfl
@[go_sem] theorem partA103 (cs : List PV) (k : Nat) : partA Tryz.prog 103 cs k = if k + 18 ≤ cs.length then some (.agg ((cs.drop k).take 18)) else none := by unfold partA isAggT; rw [Tryz.underlying103, info103]; rfl
@[go_sem] theorem zeroA103 : zeroA Tryz.prog 103 = some (.agg [(.int IntKind.i64 0), (.int IntKind.i64 0), (.int IntKind.i64 0), (.int IntKind.i64 0), (.int IntKind.i64 0), (.int IntKind.i64 0), (.int IntKind.i64 0), (.int IntKind.i64 0), (.int IntKind.i64 0), (.int IntKind.i64 0), (.int IntKind.i64 0), (.int IntKind.i64 0), (.int IntKind.i64 0), (.int IntKind.i64 0), (.int IntKind.i64 0), (.int IntKind.i64 0), (.int IntKind.i64 0), (.int IntKind.i64 0)]) := by unfold zeroA; rw [info103]; rfl
@[go_sem] theorem zeroOk103 : zeroOk Tryz.prog 103 = true := by unfold zeroOk; rw [zeroA103, cellsOf103]; rfl
@[go_sem] theorem field103_0 : fieldInfo Tryz.prog 103 0 = some (0, 102) := by unfold fieldInfo; rw [Tryz.underlying103]; show (match Tryz.prog.info? 102 with | some i => if i.size = 0 then none else some (0, 102) | none => none) = _; rw [info102]; rfl
attribute [go_sem] Tryz.underlying103
@[go_sem] theorem has104 : (Tryz.prog.info? 104).isSome = true := by rw [info104]; rfl
@[go_sem] theorem cellsOf104 : Tryz.prog.cellsOf 104 = 18 := by unfold Program.cellsOf; rw [info104]; rfl
@[go_sem] theorem bytesOf104 : bytesOf Tryz.prog 104 = 144 := by unfold bytesOf; rw [info104]; rfl
@[go_sem] theorem takeVar104 (cs : List PV) : takeVar Tryz.prog 104 cs = if 18 ≤ cs.length then some (.agg (cs.take 18)) else none := by unfold takeVar isAggT; rw [Tryz.underlying104, info104]; rfl
@[go_sem] theorem partA104 (cs : List PV) (k : Nat) : partA Tryz.prog 104 cs k = if k + 18 ≤ cs.length then some (.agg ((cs.drop k).take 18)) else none := by unfold partA isAggT; rw [Tryz.underlying104, info104]; rfl
@[go_sem] theorem zeroA104 : zeroA Tryz.prog 104 = some (.agg [(.int IntKind.i64 0), (.int IntKind.i64 0), (.int IntKind.i64 0), (.int IntKind.i64 0), (.int IntKind.i64 0), (.int IntKind.i64 0), (.int IntKind.i64 0), (.int IntKind.i64 0), (.int IntKind.i64 0), (.int IntKind.i64 0), (.int IntKind.i64 0), (.int IntKind.i64 0), (.int IntKind.i64 0), (.int IntKind.i64 0), (.int IntKind.i64 0), (.int IntKind.i64 0), (.int IntKind.i64 0), (.int IntKind.i64 0)]) := by unfold zeroA; rw [info104]; rfl
@[go_sem] theorem zeroOk104 : zeroOk Tryz.prog 104 = true := by unfold zeroOk; rw [zeroA104, cellsOf104]; rfl
@[go_sem] theorem field104_0 : fieldInfo Tryz.prog 104 0 = some (0, 102) := by unfold fieldInfo; rw [Tryz.underlying104]; show (match Tryz.prog.info? 102 with | some i => if i.size = 0 then none else some (0, 102) | none => none) = _; rw [info102]; rfl
attribute [go_sem] Tryz.underlying104
@[go_sem] theorem has105 : (Tryz.prog.info? 105).isSome = true := by rw [info105]; rfl
@[go_sem] theorem cellsOf105 : Tryz.prog.cellsOf 105 = 1 := by unfold Program.cellsOf; rw [info105]; rfl
@[go_sem] theorem bytesOf105 : bytesOf Tryz.prog 105 = 24 := by unfold bytesOf; rw [info105]; rfl
@[go_sem] theorem takeVar105 (cs : List PV) : takeVar Tryz.prog 105 cs = cs[0]? := by unfold takeVar isAggT; rw [Tryz.underlying105, info105]
@[go_sem] theorem partA105 (cs : List PV) (k : Nat) : partA Tryz.prog 105 cs k = cs[k]? := by unfold partA isAggT; rw [Tryz.underlying105, info105]
@[go_sem] theorem zeroA105 : zeroA Tryz.prog 105 = some .emp := by unfold zeroA; rw [info105]; rfl
@[go_sem] theorem zeroOk105 : zeroOk Tryz.prog 105 = true := by unfold zeroOk; rw [zeroA105, cellsOf105]; rfl
attribute [go_sem] Tryz.underlying105
@[go_sem] theorem has106 : (Tryz.prog.info? 106).isSome = true := by rw [info106]; rfl
@[go_sem] theorem cellsOf106 : Tryz.prog.cellsOf 106 = 1 := by unfold Program.cellsOf; rw [info106]; rfl
@[go_sem] theorem bytesOf106 : bytesOf Tryz.prog 106 = 8 := by unfold bytesOf; rw [info106]; rfl
@[go_sem] theorem takeVar106 (cs : List PV) : takeVar Tryz.prog 106 cs = cs[0]? := by unfold takeVar isAggT; rw [Tryz.underlying106, info106]
@[go_sem] theorem partA106 (cs : List PV) (k : Nat) : partA Tryz.prog 106 cs k = cs[k]? := by unfold partA isAggT; rw [Tryz.underlying106, info106]
@[go_sem] theorem zeroA106 : zeroA Tryz.prog 106 = some .nilfn := by unfold zeroA; rw [info106]; rfl
@[go_sem] theorem zeroOk106 : zeroOk Tryz.prog 106 = true := by unfold zeroOk; rw [zeroA106, cellsOf106]; rfl
attribute [go_sem] Tryz.underlying106
@[go_sem] theorem has107 : (Tryz.prog.info? 107).isSome = true := by rw [info107]; rfl
@[go_sem] theorem cellsOf107 : Tryz.prog.cellsOf 107 = 1 := by unfold Program.cellsOf; rw [info107]; rfl
@[go_sem] theorem bytesOf107 : bytesOf Tryz.prog 107 = 8 := by unfold bytesOf; rw [info107]; rfl
@[go_sem] theorem takeVar107 (cs : List PV) : takeVar Tryz.prog 107 cs = cs[0]? := by unfold takeVar isAggT; rw [Tryz.underlying107, info107]
@[go_sem] theorem partA107 (cs : List PV) (k : Nat) : partA Tryz.prog 107 cs k = cs[k]? := by unfold partA isAggT; rw [Tryz.underlying107, info107]
@[go_sem] theorem zeroA107 : zeroA Tryz.prog 107 = some .nilfn := by unfold zeroA; rw [info107]; rfl
@[go_sem] theorem zeroOk107 : zeroOk Tryz.prog 107 = true := by unfold zeroOk; rw [zeroA107, cellsOf107]; rfl
attribute [go_sem] Tryz.underlying107
@[go_sem] theorem has108 : (Tryz.prog.info? 108).isSome = true := by rw [info108]; rfl
@[go_sem] theorem cellsOf108 : Tryz.prog.cellsOf 108 = 1 := by unfold Program.cellsOf; rw [info108]; rfl
@[go_sem] theorem bytesOf108 : bytesOf Tryz.prog 108 = 8 := by unfold bytesOf; rw [info108]; rfl
@[go_sem] theorem takeVar108 (cs : List PV) : takeVar Tryz.prog 108 cs = cs[0]? := by unfold takeVar isAggT; rw [Tryz.underlying108, info108]
@[go_sem] theorem partA108 (cs : List PV) (k : Nat) : partA Tryz.prog 108 cs k = cs[k]? := by unfold partA isAggT; rw [Tryz.underlying108, info108]
@[go_sem] theorem zeroA108 : zeroA Tryz.prog 108 = some .nilfn := by unfold zeroA; rw [info108]; rfl
@[go_sem] theorem zeroOk108 : zeroOk Tryz.prog 108 = true := by unfold zeroOk; rw [zeroA108, cellsOf108]; rfl
attribute [go_sem] Tryz.underlying108
@[go_sem] theorem has109 : (Tryz.prog.info? 109).isSome = true := by rw [info109]; rfl
@[go_sem] theorem cellsOf109 : Tryz.prog.cellsOf 109 = 4 := by unfold Program.cellsOf; rw [info109]; rfl
@[go_sem] theorem bytesOf109 : bytesOf Tryz.prog 109 = 32 := by unfold bytesOf; rw [info109]; rfl
@[go_sem] theorem takeVar109 (cs : List PV) : takeVar Tryz.prog 109 cs = if 4 ≤ cs.length then some (.agg (cs.take 4)) else none := by unfold takeVar isAggT; rw [Tryz.underlying109, info109]; rfl
@[go_sem] theorem partA109 (cs : List PV) (k : Nat) : partA Tryz.prog 109 cs k = if k + 4 ≤ cs.length then some (.agg ((cs.drop k).take 4)) else none := by unfold partA isAggT; rw [Tryz.underlying109, info109]; rfl
@[go_sem] theorem zeroA109 : zeroA Tryz.prog 109 = some (.agg [(.int IntKind.i64 0), (.int IntKind.i64 0), (.int IntKind.i64 0), (.int IntKind.i64 0)]) := by unfold zeroA; rw [info109]; rfl
@[go_sem] theorem zeroOk109 : zeroOk Tryz.prog 109 = true := by unfold zeroOk; rw [zeroA109, cellsOf109]; rfl
@[go_sem] theorem field109_0 : fieldInfo Tryz.prog 109 0 = some (0, 3) := by unfold fieldInfo; rw [Tryz.underlying109]; show (match Tryz.prog.info? 3 with | some i => if i.size = 0 then none else some (0, 3) | none => none) = _; rw [info3]; rfl
@[go_sem] theorem field109_1 : fieldInfo Tryz.prog 109 1 = some (1, 3) := by unfold fieldInfo; rw [Tryz.underlying109]; show (match Tryz.prog.info? 3 with | some i => if i.size = 0 then none else some (1, 3) | none => none) = _; rw [info3]; rfl
@[go_sem] theorem field109_2 : fieldInfo Tryz.prog 109 2 = some (2, 24) := by unfold fieldInfo; rw [Tryz.underlying109]; show (match Tryz.prog.info? 24 with | some i => if i.size = 0 then none else some (2, 24) | none => none) = _; rw [info24]; rfl
attribute [go_sem] Tryz.underlying109
@[go_sem] theorem has110 : (Tryz.prog.info? 110).isSome = true := by rw [info110]; rfl
@[go_sem] theorem cellsOf110 : Tryz.prog.cellsOf 110 = 4 := by unfold Program.cellsOf; rw [info110]; rfl
@[go_sem] theorem bytesOf110 : bytesOf Tryz.prog 110 = 32 := by unfold bytesOf; rw [info110]; rfl
@[go_sem] theorem takeVar110 (cs : List PV) : takeVar Tryz.prog 110 cs = if 4 ≤ cs.length then some (.agg (cs.take 4)) else none := by unfold takeVar isAggT; rw [Tryz.underlying110, info110]; rfl
@[go_sem] theorem partA110 (cs : List PV) (k : Nat) : partA Tryz.prog 110 cs k = if k + 4 ≤ cs.length then some (.agg ((cs.drop k).take 4)) else none := by unfold partA isAggT; rw [Tryz.underlying110, info110]; rfl
@[go_sem] theorem zeroA110 : zeroA Tryz.prog 110 = some (.agg [(.int IntKind.i64 0), (.int IntKind.i64 0), (.int IntKind.i64 0), (.int IntKind.i64 0)]) := by unfold zeroA; rw [info110]; rfl
@[go_sem] theorem zeroOk110 : zeroOk Tryz.prog 110 = true := by unfold zeroOk; rw [zeroA110, cellsOf110]; rfl
@[go_sem] theorem field110_0 : fieldInfo Tryz.prog 110 0 = some (0, 3) := by unfold fieldInfo; rw [Tryz.underlying110]; show (match Tryz.prog.info? 3 with | some i => if i.size = 0 then none else some (0, 3) | none => none) = _; rw [info3]; rfl
@[go_sem] theorem field110_1 : fieldInfo Tryz.prog 110 1 = some (1, 3) := by unfold fieldInfo; rw [Tryz.underlying110]; show (match Tryz.prog.info? 3 with | some i => if i.size = 0 then none else some (1, 3) | none => none) = _; rw [info3]; rfl
@[go_sem] theorem field110_2 : fieldInfo Tryz.prog 110 2 = some (2, 24) := by unfold fieldInfo; rw [Tryz.underlying110]; show (match Tryz.prog.info? 24 with | some i => if i.size = 0 then none else some (2, 24) | none => none) = _; rw [info24]; rfl
attribute [go_sem] Tryz.underlying110
@[go_sem] theorem has111 : (Tryz.prog.info? 111).isSome = true := by rw [info111]; rfl
@[go_sem] theorem cellsOf111 : Tryz.prog.cellsOf 111 = 1 := by unfold Program.cellsOf; rw [info111]; rfl
@[go_sem] theorem bytesOf111 : bytesOf Tryz.prog 111 = 8 := by unfold bytesOf; rw [info111]; rfl
@[go_sem] theorem takeVar111 (cs : List PV) : takeVar Tryz.prog 111 cs = cs[0]? := by unfold takeVar isAggT; rw [Tryz.underlying111, info111]
@[go_sem] theorem partA111 (cs : List PV) (k : Nat) : partA Tryz.prog 111 cs k = cs[k]? := by unfold partA isAggT; rw [Tryz.underlying111, info111]
@[go_sem] theorem zeroA111 : zeroA Tryz.prog 111 = some .nilfn := by unfold zeroA; rw [info111]; rfl
@[go_sem] theorem zeroOk111 : zeroOk Tryz.prog 111 = true := by unfold zeroOk; rw [zeroA111, cellsOf111]; rfl
attribute [go_sem] Tryz.underlying111
@[go_sem] theorem has112 : (Tryz.prog.info? 112).isSome = true := by rw [info112]; rfl
@[go_sem] theorem cellsOf112 : Tryz.prog.cellsOf 112 = 1 := by unfold Program.cellsOf; rw [info112]; rfl
@[go_sem] theorem bytesOf112 : bytesOf Tryz.prog 112 = 8 := by unfold bytesOf; rw [info112]; rfl
@[go_sem] theorem takeVar112 (cs : List PV) : takeVar Tryz.prog 112 cs = cs[0]? := by unfold takeVar isAggT; rw [Tryz.underlying112, info112]
@[go_sem] theorem partA112 (cs : List PV) (k : Nat) : partA Tryz.prog 112 cs k = cs[k]? := by unfold partA isAggT; rw [Tryz.underlying112, info112]
@[go_sem] theorem zeroA112 : zeroA Tryz.prog 112 = some .nilfn := by unfold zeroA; rw [info112]; rfl
@[go_sem] theorem zeroOk112 : zeroOk Tryz.prog 112 = true := by unfold zeroOk; rw [zeroA112, cellsOf112]; rfl
attribute [go_sem] Tryz.underlying112
@[go_sem] theorem has113 : (Tryz.prog.info? 113).isSome = true := by rw [info113]; rfl
@[go_sem] theorem cellsOf113 : Tryz.prog.cellsOf 113 = 1 := by unfold Program.cellsOf; rw [info113]; rfl
@[go_sem] theorem bytesOf113 : bytesOf Tryz.prog 113 = 8 := by unfold bytesOf; rw [info113]; rfl
@[go_sem] theorem takeVar113 (cs : List PV) : takeVar Tryz.prog 113 cs = cs[0]? := by unfold takeVar isAggT; rw [Tryz.underlying113, info113]
@[go_sem] theorem partA113 (cs : List PV) (k : Nat) : partA Tryz.prog 113 cs k = cs[k]? := by unfold partA isAggT; rw [Tryz.underlying113, info113]
@[go_sem] theorem zeroA113 : zeroA Tryz.prog 113 = some .nilfn := by unfold zeroA; rw [info113]; rfl
@[go_sem] theorem zeroOk113 : zeroOk Tryz.prog 113 = true := by unfold zeroOk; rw [zeroA113, cellsOf113]; rfl
attribute [go_sem] Tryz.underlying113
@[go_sem] theorem has114 : (Tryz.prog.info? 114).isSome = true := by rw [info114]; rfl
@[go_sem] theorem cellsOf114 : Tryz.prog.cellsOf 114 = 1 := by unfold Program.cellsOf; rw [info114]; rfl
@[go_sem] theorem bytesOf114 : bytesOf Tryz.prog 114 = 8 := by unfold bytesOf; rw [info114]; rfl
@[go_sem] theorem takeVar114 (cs : List PV) : takeVar Tryz.prog 114 cs = cs[0]? := by unfold takeVar isAggT; rw [Tryz.underlying114, info114]
@[go_sem] theorem partA114 (cs : List PV) (k : Nat) : partA Tryz.prog 114 cs k = cs[k]? := by unfold partA isAggT; rw [Tryz.underlying114, info114]
@[go_sem] theorem zeroA114 : zeroA Tryz.prog 114 = some .nilfn := by unfold zeroA; rw [info114]; rfl
@[go_sem] theorem zeroOk114 : zeroOk Tryz.prog 114 = true := by unfold zeroOk; rw [zeroA114, cellsOf114]; rfl
attribute [go_sem] Tryz.underlying114
@[go_sem] theorem has116 : (Tryz.prog.info? 116).isSome = true := by rw [info116]; rfl
@[go_sem] theorem cellsOf116 : Tryz.prog.cellsOf 116 = 1 := by unfold Program.cellsOf; rw [info116]; rfl
@[go_sem] theorem bytesOf116 : bytesOf Tryz.prog 116 = 8 := by unfold bytesOf; rw [info116]; rfl
@[go_sem] theorem takeVar116 (cs : List PV) : takeVar Tryz.prog 116 cs = cs[0]? := by unfold takeVar isAggT; rw [Tryz.underlying116, info116]
@[go_sem] theorem partA116 (cs : List PV) (k : Nat) : partA Tryz.prog 116 cs k = cs[k]? := by unfold partA isAggT; rw [Tryz.underlying116, info116]
@[go_sem] theorem zeroA116 : zeroA Tryz.prog 116 = some .nilfn := by unfold zeroA; rw [info116]; rfl
@[go_sem] theorem zeroOk116 : zeroOk Tryz.prog 116 = true := by unfold zeroOk; rw [zeroA116, cellsOf116]; rfl
attribute [go_sem] Tryz.underlying116
@[go_sem] theorem has117 : (Tryz.prog.info? 117).isSome = true := by rw [info117]; rfl
@[go_sem] theorem cellsOf117 : Tryz.prog.cellsOf 117 = 1 := by unfold Program.cellsOf; rw [info117]; rfl
@[go_sem] theorem bytesOf117 : bytesOf Tryz.prog 117 = 8 := by unfold bytesOf; rw [info117]; rfl
@[go_sem] theorem takeVar117 (cs : List PV) : takeVar Tryz.prog 117 cs = cs[0]? := by unfold takeVar isAggT; rw [Tryz.underlying117, info117]
@[go_sem] theorem partA117 (cs : List PV) (k : Nat) : partA Tryz.prog 117 cs k = cs[k]? := by unfold partA isAggT; rw [Tryz.underlying117, info117]
@[go_sem] theorem zeroA117 : zeroA Tryz.prog 117 = some .nilfn := by unfold zeroA; rw [info117]; rfl
@[go_sem] theorem zeroOk117 : zeroOk Tryz.prog 117 = true := by unfold zeroOk; rw [zeroA117, cellsOf117]; rfl
attribute [go_sem] Tryz.underlying117
@[go_sem] theorem has118 : (Tryz.prog.info? 118).isSome = true := by rw [info118]; rfl
@[go_sem] theorem cellsOf118 : Tryz.prog.cellsOf 118 = 1 := by unfold Program.cellsOf; rw [info118]; rfl
@[go_sem] theorem bytesOf118 : bytesOf Tryz.prog 118 = 8 := by unfold bytesOf; rw [info118]; rfl
@[go_sem] theorem takeVar118 (cs : List PV) : takeVar Tryz.prog 118 cs = cs[0]? := by unfold takeVar isAggT; rw [Tryz.underlying118, info118]
@[go_sem] theorem partA118 (cs : List PV) (k : Nat) : partA Tryz.prog 118 cs k = cs[k]? := by unfold partA isAggT; rw [Tryz.underlying118, info118]
@[go_sem] theorem zeroA118 : zeroA Tryz.prog 118 = some .nilfn := by unfold zeroA; rw [info118]; rfl
@[go_sem] theorem zeroOk118 : zeroOk Tryz.prog 118 = true := by unfold zeroOk; rw [zeroA118, cellsOf118]; rfl
attribute [go_sem] Tryz.underlying118
@[go_sem] theorem has119 : (Tryz.prog.info? 119).isSome = true := by rw [info119]; rfl
@[go_sem] theorem cellsOf119 : Tryz.prog.cellsOf 119 = 1 := by unfold Program.cellsOf; rw [info119]; rfl
@[go_sem] theorem bytesOf119 : bytesOf Tryz.prog 119 = 8 := by unfold bytesOf; rw [info119]; rfl
@[go_sem] theorem takeVar119 (cs : List PV) : takeVar Tryz.prog 119 cs = cs[0]? := by unfold takeVar isAggT; rw [Tryz.underlying119, info119]
@[go_sem] theorem partA119 (cs : List PV) (k : Nat) : partA Tryz.prog 119 cs k = cs[k]? := by unfold partA isAggT; rw [Tryz.underlying119, info119]
@[go_sem] theorem zeroA119 : zeroA Tryz.prog 119 = some .nilp := by unfold zeroA; rw [info119]; rfl
@[go_sem] theorem zeroOk119 : zeroOk Tryz.prog 119 = true := by unfold zeroOk; rw [zeroA119, cellsOf119]; rfl
attribute [go_sem] Tryz.underlying119
@[go_sem] theorem has120 : (Tryz.prog.info? 120).isSome = true := by rw [info120]; rfl
@[go_sem] theorem cellsOf120 : Tryz.prog.cellsOf 120 = 1 := by unfold Program.cellsOf; rw [info120]; rfl
@[go_sem] theorem bytesOf120 : bytesOf Tryz.prog 120 = 8 := by unfold bytesOf; rw [info120]; rfl
@[go_sem] theorem takeVar120 (cs : List PV) : takeVar Tryz.prog 120 cs = cs[0]? := by unfold takeVar isAggT; rw [Tryz.underlying120, info120]
@[go_sem] theorem partA120 (cs : List PV) (k : Nat) : partA Tryz.prog 120 cs k = cs[k]? := by unfold partA isAggT; rw [Tryz.underlying120, info120]
@[go_sem] theorem zeroA120 : zeroA Tryz.prog 120 = some .nilfn := by unfold zeroA; rw [info120]; rfl
@[go_sem] theorem zeroOk120 : zeroOk Tryz.prog 120 = true := by unfold zeroOk; rw [zeroA120, cellsOf120]; rfl
attribute [go_sem] Tryz.underlying120
@[go_sem] theorem has121 : (Tryz.prog.info? 121).isSome = true := by rw [info121]; rfl
@[go_sem] theorem cellsOf121 : Tryz.prog.cellsOf 121 = 1 := by unfold Program.cellsOf; rw [info121]; rfl
@[go_sem] theorem bytesOf121 : bytesOf Tryz.prog 121 = 8 := by unfold bytesOf; rw [info121]; rfl
@[go_sem] theorem takeVar121 (cs : List PV) : takeVar Tryz.prog 121 cs = cs[0]? := by unfold takeVar isAggT; rw [Tryz.underlying121, info121]
@[go_sem] theorem partA121 (cs : List PV) (k : Nat) : partA Tryz.prog 121 cs k = cs[k]? := by unfold partA isAggT; rw [Tryz.underlying121, info121]
@[go_sem] theorem zeroA121 : zeroA Tryz.prog 121 = some .nilfn := by unfold zeroA; rw [info121]; rfl
@[go_sem] theorem zeroOk121 : zeroOk Tryz.prog 121 = true := by unfold zeroOk; rw [zeroA121, cellsOf121]; rfl
attribute [go_sem] Tryz.underlying121
@[go_sem] theorem has122 : (Tryz.prog.info? 122).isSome = true := by rw [info122]; rfl
@[go_sem] theorem cellsOf122 : Tryz.prog.cellsOf 122 = 1 := by unfold Program.cellsOf; rw [info122]; rfl
@[go_sem] theorem bytesOf122 : bytesOf Tryz.prog 122 = 8 := by unfold bytesOf; rw [info122]; rfl
@[go_sem] theorem takeVar122 (cs : List PV) : takeVar Tryz.prog 122 cs = cs[0]? := by unfold takeVar isAggT; rw [Tryz.underlying122, info122]
@[go_sem] theorem partA122 (cs : List PV) (k : Nat) : partA Tryz.prog 122 cs k = cs[k]? := by unfold partA isAggT; rw [Tryz.underlying122, info122]
@[go_sem] theorem zeroA122 : zeroA Tryz.prog 122 = some .nilfn := by unfold zeroA; rw [info122]; rfl
@[go_sem] theorem zeroOk122 : zeroOk Tryz.prog 122 = true := by unfold zeroOk; rw [zeroA122, cellsOf122]; rfl
attribute [go_sem] Tryz.underlying122
@[go_sem] theorem has125 : (Tryz.prog.info? 125).isSome = true := by rw [info125]; rfl
@[go_sem] theorem cellsOf125 : Tryz.prog.cellsOf 125 = 1 := by unfold Program.cellsOf; rw [info125]; rfl
@[go_sem] theorem bytesOf125 : bytesOf Tryz.prog 125 = 8 := by unfold bytesOf; rw [info125]; rfl
@[go_sem] theorem takeVar125 (cs : List PV) : takeVar Tryz.prog 125 cs = cs[0]? := by unfold takeVar isAggT; rw [Tryz.underlying125, info125]
@[go_sem] theorem partA125 (cs : List PV) (k : Nat) : partA Tryz.prog 125 cs k = cs[k]? := by unfold partA isAggT; rw [Tryz.underlying125, info125]
@[go_sem] theorem zeroA125 : zeroA Tryz.prog 125 = some .nilfn := by unfold zeroA; rw [info125]; rfl
@[go_sem] theorem zeroOk125 : zeroOk Tryz.prog 125 = true := by unfold zeroOk; rw [zeroA125, cellsOf125]; rfl
attribute [go_sem] Tryz.underlying125
@[go_sem] theorem has126 : (Tryz.prog.info? 126).isSome = true := by rw [info126]; rfl
@[go_sem] theorem cellsOf126 : Tryz.prog.cellsOf 126 = 1 := by unfold Program.cellsOf; rw [info126]; rfl
@[go_sem] theorem bytesOf126 : bytesOf Tryz.prog 126 = 8 := by unfold bytesOf; rw [info126]; rfl
@[go_sem] theorem takeVar126 (cs : List PV) : takeVar Tryz.prog 126 cs = cs[0]? := by unfold takeVar isAggT; rw [Tryz.underlying126, info126]
@[go_sem] theorem partA126 (cs : List PV) (k : Nat) : partA Tryz.prog 126 cs k = cs[k]? := by unfold partA isAggT; rw [Tryz.underlying126, info126]
@[go_sem] theorem zeroA126 : zeroA Tryz.prog 126 = some .nilfn := by unfold zeroA; rw [info126]; rfl
@[go_sem] theorem zeroOk126 : zeroOk Tryz.prog 126 = true := by unfold zeroOk; rw [zeroA126, cellsOf126]; rfl
attribute [go_sem] Tryz.underlying126
@[go_sem] theorem has127 : (Tryz.prog.info? 127).isSome = true := by rw [info127]; rfl
@[go_sem] theorem cellsOf127 : Tryz.prog.cellsOf 127 = 1 := by unfold Program.cellsOf; rw [info127]; rfl
@[go_sem] theorem bytesOf127 : bytesOf Tryz.prog 127 = 8 := by unfold bytesOf; rw [info127]; rfl
@[go_sem] theorem takeVar127 (cs : List PV) : takeVar Tryz.prog 127 cs = cs[0]? := by unfold takeVar isAggT; rw [Tryz.underlying127, info127]
@[go_sem] theorem partA127 (cs : List PV) (k : Nat) : partA Tryz.prog 127 cs k = cs[k]? := by unfold partA isAggT; rw [Tryz.underlying127, info127]
@[go_sem] theorem zeroA127 : zeroA Tryz.prog 127 = some .nilfn := by unfold zeroA; rw [info127]; rfl
@[go_sem] theorem zeroOk127 : zeroOk Tryz.prog 127 = true := by unfold zeroOk; rw [zeroA127, cellsOf127]; rfl
attribute [go_sem] Tryz.underlying127
@[go_sem] theorem has130 : (Tryz.prog.info? 130).isSome = true := by rw [info130]; rfl
@[go_sem] theorem cellsOf130 : Tryz.prog.cellsOf 130 = 1 := by unfold Program.cellsOf; rw [info130]; rfl
@[go_sem] theorem bytesOf130 : bytesOf Tryz.prog 130 = 8 := by unfold bytesOf; rw [info130]; rfl
@[go_sem] theorem takeVar130 (cs : List PV) : takeVar Tryz.prog 130 cs = cs[0]? := by unfold takeVar isAggT; rw [Tryz.underlying130, info130]
@[go_sem] theorem partA130 (cs : List PV) (k : Nat) : partA Tryz.prog 130 cs k = cs[k]? := by unfold partA isAggT; rw [Tryz.underlying130, info130]
@[go_sem] theorem zeroA130 : zeroA Tryz.prog 130 = some (.int IntKind.u64 0) := by unfold zeroA; rw [info130]; rfl
@[go_sem] theorem zeroOk130 : zeroOk Tryz.prog 130 = true := by unfold zeroOk; rw [zeroA130, cellsOf130]; rfl
attribute [go_sem] Tryz.underlying130
@[go_sem] theorem has134 : (Tryz.prog.info? 134).isSome = true := by rw [info134]; rfl
@[go_sem] theorem cellsOf134 : Tryz.prog.cellsOf 134 = 1 := by unfold Program.cellsOf; rw [info134]; rfl
@[go_sem] theorem bytesOf134 : bytesOf Tryz.prog 134 = 16 := by unfold bytesOf; rw [info134]; rfl
@[go_sem] theorem takeVar134 (cs : List PV) : takeVar Tryz.prog 134 cs = cs[0]? := by unfold takeVar isAggT; rw [Tryz.underlying134, info134]
@[go_sem] theorem partA134 (cs : List PV) (k : Nat) : partA Tryz.prog 134 cs k = cs[k]? := by unfold partA isAggT; rw [Tryz.underlying134, info134]
@[go_sem] theorem zeroA134 : zeroA Tryz.prog 134 = some .nilif := by unfold zeroA; rw [info134]; rfl
@[go_sem] theorem zeroOk134 : zeroOk Tryz.prog 134 = true := by unfold zeroOk; rw [zeroA134, cellsOf134]; rfl
attribute [go_sem] Tryz.underlying134
@[go_sem] theorem has137 : (Tryz.prog.info? 137).isSome = true := by rw [info137]; rfl
@[go_sem] theorem cellsOf137 : Tryz.prog.cellsOf 137 = 1 := by unfold Program.cellsOf; rw [info137]; rfl
@[go_sem] theorem bytesOf137 : bytesOf Tryz.prog 137 = 8 := by unfold bytesOf; rw [info137]; rfl
@[go_sem] theorem takeVar137 (cs : List PV) : takeVar Tryz.prog 137 cs = cs[0]? := by unfold takeVar isAggT; rw [Tryz.underlying137, info137]
@[go_sem] theorem partA137 (cs : List PV) (k : Nat) : partA Tryz.prog 137 cs k = cs[k]? := by unfold partA isAggT; rw [Tryz.underlying137, info137]
@[go_sem] theorem zeroA137 : zeroA Tryz.prog 137 = some .nilfn := by unfold zeroA; rw [info137]; rfl
@[go_sem] theorem zeroOk137 : zeroOk Tryz.prog 137 = true := by unfold zeroOk; rw [zeroA137, cellsOf137]; rfl
attribute [go_sem] Tryz.underlying137
@[go_sem] theorem has139 : (Tryz.prog.info? 139).isSome = true := by rw [info139]; rfl
@[go_sem] theorem cellsOf139 : Tryz.prog.cellsOf 139 = 1 := by unfold Program.cellsOf; rw [info139]; rfl
@[go_sem] theorem bytesOf139 : bytesOf Tryz.prog 139 = 8 := by unfold bytesOf; rw [info139]; rfl
@[go_sem] theorem takeVar139 (cs : List PV) : takeVar Tryz.prog 139 cs = cs[0]? := by unfold takeVar isAggT; rw [Tryz.underlying139, info139]
@[go_sem] theorem partA139 (cs : List PV) (k : Nat) : partA Tryz.prog 139 cs k = cs[k]? := by unfold partA isAggT; rw [Tryz.underlying139, info139]
@[go_sem] theorem zeroA139 : zeroA Tryz.prog 139 = some .nilfn := by unfold zeroA; rw [info139]; rfl
@[go_sem] theorem zeroOk139 : zeroOk Tryz.prog 139 = true := by unfold zeroOk; rw [zeroA139, cellsOf139]; rfl
attribute [go_sem] Tryz.underlying139
@[go_sem] theorem has141 : (Tryz.prog.info? 141).isSome = true := by rw [info141]; rfl
@[go_sem] theorem cellsOf141 : Tryz.prog.cellsOf 141 = 1 := by unfold Program.cellsOf; rw [info141]; rfl
@[go_sem] theorem bytesOf141 : bytesOf Tryz.prog 141 = 4 := by unfold bytesOf; rw [info141]; rfl
@[go_sem] theorem takeVar141 (cs : List PV) : takeVar Tryz.prog 141 cs = cs[0]? := by unfold takeVar isAggT; rw [Tryz.underlying141, info141]
@[go_sem] theorem partA141 (cs : List PV) (k : Nat) : partA Tryz.prog 141 cs k = cs[k]? := by unfold partA isAggT; rw [Tryz.underlying141, info141]
@[go_sem] theorem zeroA141 : zeroA Tryz.prog 141 = some (.int IntKind.u32 0) := by unfold zeroA; rw [info141]; rfl
@[go_sem] theorem zeroOk141 : zeroOk Tryz.prog 141 = true := by unfold zeroOk; rw [zeroA141, cellsOf141]; rfl
attribute [go_sem] Tryz.underlying141
@[go_sem] theorem has144 : (Tryz.prog.info? 144).isSome = true := by rw [info144]; rfl
@[go_sem] theorem cellsOf144 : Tryz.prog.cellsOf 144 = 1 := by unfold Program.cellsOf; rw [info144]; rfl
@[go_sem] theorem bytesOf144 : bytesOf Tryz.prog 144 = 8 := by unfold bytesOf; rw [info144]; rfl
@[go_sem] theorem takeVar144 (cs : List PV) : takeVar Tryz.prog 144 cs = cs[0]? := by unfold takeVar isAggT; rw [Tryz.underlying144, info144]
@[go_sem] theorem partA144 (cs : List PV) (k : Nat) : partA Tryz.prog 144 cs k = cs[k]? := by unfold partA isAggT; rw [Tryz.underlying144, info144]
@[go_sem] theorem zeroA144 : zeroA Tryz.prog 144 = some (.int IntKind.u64 0) := by unfold zeroA; rw [info144]; rfl
@[go_sem] theorem zeroOk144 : zeroOk Tryz.prog 144 = true := by unfold zeroOk; rw [zeroA144, cellsOf144]; rfl
attribute [go_sem] Tryz.underlying144
@[go_sem] theorem has148 : (Tryz.prog.info? 148).isSome = true := by rw [info148]; rfl
@[go_sem] theorem cellsOf148 : Tryz.prog.cellsOf 148 = 7 := by unfold Program.cellsOf; rw [info148]; rfl
@[go_sem] theorem bytesOf148 : bytesOf Tryz.prog 148 = 72 := by unfold bytesOf; rw [info148]; rfl
@[go_sem] theorem takeVar148 (cs : List PV) : takeVar Tryz.prog 148 cs = if 7 ≤ cs.length then some (.agg (cs.take 7)) else none := by unfold takeVar isAggT; rw [Tryz.underlying148, info148]; rfl
@[go_sem] theorem partA148 (cs : List PV) (k : Nat) : partA Tryz.prog 148 cs k = if k + 7 ≤ cs.length then some (.agg ((cs.drop k).take 7)) else none := by unfold partA isAggT; rw [Tryz.underlying148, info148]; rfl
@[go_sem] theorem zeroA148 : zeroA Tryz.prog 148 = some (.agg [(.int IntKind.i64 0), (.int IntKind.i64 0), (.int IntKind.i64 0), (.int IntKind.i64 0), (.int IntKind.i64 0), (.int IntKind.i64 0), .emp]) := by unfold zeroA; rw [info148]; rfl
@[go_sem] theorem zeroOk148 : zeroOk Tryz.prog 148 = true := by unfold zeroOk; rw [zeroA148, cellsOf148]; rfl
@[go_sem] theorem field148_0 : fieldInfo Tryz.prog 148 0 = some (0, 24) := by unfold fieldInfo; rw [Tryz.underlying148]; show (match Tryz.prog.info? 24 with | some i => if i.size = 0 then none else some (0, 24) | none => none) = _; rw [info24]; rfl
@[go_sem] theorem field148_1 : fieldInfo Tryz.prog 148 1 = some (2, 27) := by unfold fieldInfo; rw [Tryz.underlying148]; show (match Tryz.prog.info? 27 with | some i => if i.size = 0 then none else some (2, 27) | none => none) = _; rw [info27]; rfl
attribute [go_sem] Tryz.underlying148
@[go_sem] theorem has150 : (Tryz.prog.info? 150).isSome = true := by rw [info150]; rfl
@[go_sem] theorem cellsOf150 : Tryz.prog.cellsOf 150 = 7 := by unfold Program.cellsOf; rw [info150]; rfl
@[go_sem] theorem bytesOf150 : bytesOf Tryz.prog 150 = 104 := by unfold bytesOf; rw [info150]; rfl
@[go_sem] theorem takeVar150 (cs : List PV) : takeVar Tryz.prog 150 cs = if 7 ≤ cs.length then some (.agg (cs.take 7)) else none := by unfold takeVar isAggT; rw [Tryz.underlying150, info150]; rfl
@[go_sem] theorem partA150 (cs : List PV) (k : Nat) : partA Tryz.prog 150 cs k = if k + 7 ≤ cs.length then some (.agg ((cs.drop k).take 7)) else none := by unfold partA isAggT; rw [Tryz.underlying150, info150]; rfl
@[go_sem] theorem zeroA150 : zeroA Tryz.prog 150 = some (.agg [(.int IntKind.i64 0), (.int IntKind.i64 0), (.int IntKind.i64 0), (.int IntKind.i64 0), .emp, .emp, .emp]) := by unfold zeroA; rw [info150]; rfl
@[go_sem] theorem zeroOk150 : zeroOk Tryz.prog 150 = true := by unfold zeroOk; rw [zeroA150, cellsOf150]; rfl
@[go_sem] theorem field150_0 : fieldInfo Tryz.prog 150 0 = some (0, 27) := by unfold fieldInfo; rw [Tryz.underlying150]; show (match Tryz.prog.info? 27 with | some i => if i.size = 0 then none else some (0, 27) | none => none) = _; rw [info27]; rfl
@[go_sem] theorem field150_1 : fieldInfo Tryz.prog 150 1 = some (5, 43) := by unfold fieldInfo; rw [Tryz.underlying150]; show (match Tryz.prog.info? 43 with | some i => if i.size = 0 then none else some (5, 43) | none => none) = _; rw [info43]; rfl
@[go_sem] theorem field150_2 : fieldInfo Tryz.prog 150 2 = some (6, 43) := by unfold fieldInfo; rw [Tryz.underlying150]; show (match Tryz.prog.info? 43 with | some i => if i.size = 0 then none else some (6, 43) | none => none) = _; rw [info43]; rfl
attribute [go_sem] Tryz.underlying150
@[go_sem] theorem has151 : (Tryz.prog.info? 151).isSome = true := by rw [info151]; rfl
@[go_sem] theorem cellsOf151 : Tryz.prog.cellsOf 151 = 6 := by unfold Program.cellsOf; rw [info151]; rfl
@[go_sem] theorem bytesOf151 : bytesOf Tryz.prog 151 = 80 := by unfold bytesOf; rw [info151]; rfl
@[go_sem] theorem takeVar151 (cs : List PV) : takeVar Tryz.prog 151 cs = if 6 ≤ cs.length then some (.agg (cs.take 6)) else none := by unfold takeVar isAggT; rw [Tryz.underlying151, info151]; rfl
@[go_sem] theorem partA151 (cs : List PV) (k : Nat) : partA Tryz.prog 151 cs k = if k + 6 ≤ cs.length then some (.agg ((cs.drop k).take 6)) else none := by unfold partA isAggT; rw [Tryz.underlying151, info151]; rfl
@[go_sem] theorem zeroA151 : zeroA Tryz.prog 151 = some (.agg [(.int IntKind.i64 0), (.int IntKind.i64 0), (.int IntKind.i64 0), (.int IntKind.i64 0), .emp, .emp]) := by unfold zeroA; rw [info151]; rfl
@[go_sem] theorem zeroOk151 : zeroOk Tryz.prog 151 = true := by unfold zeroOk; rw [zeroA151, cellsOf151]; rfl
@[go_sem] theorem field151_0 : fieldInfo Tryz.prog 151 0 = some (0, 27) := by unfold fieldInfo; rw [Tryz.underlying151]; show (match Tryz.prog.info? 27 with | some i => if i.size = 0 then none else some (0, 27) | none => none) = _; rw [info27]; rfl
@[go_sem] theorem field151_1 : fieldInfo Tryz.prog 151 1 = some (5, 43) := by unfold fieldInfo; rw [Tryz.underlying151]; show (match Tryz.prog.info? 43 with | some i => if i.size = 0 then none else some (5, 43) | none => none) = _; rw [info43]; rfl
attribute [go_sem] Tryz.underlying151
@[go_sem] theorem has152 : (Tryz.prog.info? 152).isSome = true := by rw [info152]; rfl
@[go_sem] theorem cellsOf152 : Tryz.prog.cellsOf 152 = 6 := by unfold Program.cellsOf; rw [info152]; rfl
@[go_sem] theorem bytesOf152 : bytesOf Tryz.prog 152 = 80 := by unfold bytesOf; rw [info152]; rfl
@[go_sem] theorem takeVar152 (cs : List PV) : takeVar Tryz.prog 152 cs = if 6 ≤ cs.length then some (.agg (cs.take 6)) else none := by unfold takeVar isAggT; rw [Tryz.underlying152, info152]; rfl
@[go_sem] theorem partA152 (cs : List PV) (k : Nat) : partA Tryz.prog 152 cs k = if k + 6 ≤ cs.length then some (.agg ((cs.drop k).take 6)) else none := by unfold partA isAggT; rw [Tryz.underlying152, info152]; rfl
@[go_sem] theorem zeroA152 : zeroA Tryz.prog 152 = some (.agg [(.int IntKind.i64 0), (.int IntKind.i64 0), (.int IntKind.i64 0), (.int IntKind.i64 0), .emp, .emp]) := by unfold zeroA; rw [info152]; rfl
@[go_sem] theorem zeroOk152 : zeroOk Tryz.prog 152 = true := by unfold zeroOk; rw [zeroA152, cellsOf152]; rfl
@[go_sem] theorem field152_0 : fieldInfo Tryz.prog 152 0 = some (0, 27) := by unfold fieldInfo; rw [Tryz.underlying152]; show (match Tryz.prog.info? 27 with | some i => if i.size = 0 then none else some (0, 27) | none => none) = _; rw [info27]; rfl
@[go_sem] theorem field152_1 : fieldInfo Tryz.prog 152 1 = some (5, 43) := by unfold fieldInfo; rw [Tryz.underlying152]; show (match Tryz.prog.info? 43 with | some i => if i.size = 0 then none else some (5, 43) | none => none) = _; rw [info43]; rfl
attribute [go_sem] Tryz.underlying152
@[go_sem] theorem has160 : (Tryz.prog.info? 160).isSome = true := by rw [info160]; rfl
@[go_sem] theorem cellsOf160 : Tryz.prog.cellsOf 160 = 1 := by unfold Program.cellsOf; rw [info160]; rfl
@[go_sem] theorem bytesOf160 : bytesOf Tryz.prog 160 = 1 := by unfold bytesOf; rw [info160]; rfl
@[go_sem] theorem takeVar160 (cs : List PV) : takeVar Tryz.prog 160 cs = cs[0]? := by unfold takeVar isAggT; rw [Tryz.underlying160, info160]
@[go_sem] theorem partA160 (cs : List PV) (k : Nat) : partA Tryz.prog 160 cs k = cs[k]? := by unfold partA isAggT; rw [Tryz.underlying160, info160]
@[go_sem] theorem zeroA160 : zeroA Tryz.prog 160 = some (.int IntKind.u8 0) := by unfold zeroA; rw [info160]; rfl
@[go_sem] theorem zeroOk160 : zeroOk Tryz.prog 160 = true := by unfold zeroOk; rw [zeroA160, cellsOf160]; rfl
attribute [go_sem] Tryz.underlying160
@[go_sem] theorem has162 : (Tryz.prog.info? 162).isSome = true := by rw [info162]; rfl
@[go_sem] theorem cellsOf162 : Tryz.prog.cellsOf 162 = 1 := by unfold Program.cellsOf; rw [info162]; rfl
@[go_sem] theorem bytesOf162 : bytesOf Tryz.prog 162 = 8 := by unfold bytesOf; rw [info162]; rfl
@[go_sem] theorem takeVar162 (cs : List PV) : takeVar Tryz.prog 162 cs = cs[0]? := by unfold takeVar isAggT; rw [Tryz.underlying162, info162]
@[go_sem] theorem partA162 (cs : List PV) (k : Nat) : partA Tryz.prog 162 cs k = cs[k]? := by unfold partA isAggT; rw [Tryz.underlying162, info162]
@[go_sem] theorem zeroA162 : zeroA Tryz.prog 162 = some .nilfn := by unfold zeroA; rw [info162]; rfl
@[go_sem] theorem zeroOk162 : zeroOk Tryz.prog 162 = true := by unfold zeroOk; rw [zeroA162, cellsOf162]; rfl
attribute [go_sem] Tryz.underlying162
@[go_sem] theorem has171 : (Tryz.prog.info? 171).isSome = true := by rw [info171]; rfl
@[go_sem] theorem cellsOf171 : Tryz.prog.cellsOf 171 = 24 := by unfold Program.cellsOf; rw [info171]; rfl
@[go_sem] theorem bytesOf171 : bytesOf Tryz.prog 171 = 24 := by unfold bytesOf; rw [info171]; rfl
@[go_sem] theorem takeVar171 (cs : List PV) : takeVar Tryz.prog 171 cs = if 24 ≤ cs.length then some (.agg (cs.take 24)) else none := by unfold takeVar isAggT; rw [Tryz.underlying171, info171]; rfl
@[go_sem] theorem partA171 (cs : List PV) (k : Nat) : partA Tryz.prog 171 cs k = if k + 24 ≤ cs.length then some (.agg ((cs.drop k).take 24)) else none := by unfold partA isAggT; rw [Tryz.underlying171, info171]; rfl
@[go_sem] theorem zeroA171 : zeroA Tryz.prog 171 = some (.agg [(.int IntKind.u8 0), (.int IntKind.u8 0), (.int IntKind.u8 0), (.int IntKind.u8 0), (.int IntKind.u8 0), (.int IntKind.u8 0), (.int IntKind.u8 0), (.int IntKind.u8 0), (.int IntKind.u8 0), (.int IntKind.u8 0), (.int IntKind.u8 0), (.int IntKind.u8 0), (.int IntKind.u8 0), (.int IntKind.u8 0), (.int IntKind.u8 0), (.int IntKind.u8 0), (.int IntKind.u8 0), (.int IntKind.u8 0), (.int IntKind.u8 0), (.int IntKind.u8 0), (.int IntKind.u8 0), (.int IntKind.u8 0), (.int IntKind.u8 0), (.int IntKind.u8 0)]) := by unfold zeroA; rw [info171]; rfl
@[go_sem] theorem zeroOk171 : zeroOk Tryz.prog 171 = true := by unfold zeroOk; rw [zeroA171, cellsOf171]; rfl
attribute [go_sem] Tryz.underlying171
@[go_sem] theorem has175 : (Tryz.prog.info? 175).isSome = true := by rw [info175]; rfl
@[go_sem] theorem cellsOf175 : Tryz.prog.cellsOf 175 = 1 := by unfold Program.cellsOf; rw [info175]; rfl
@[go_sem] theorem bytesOf175 : bytesOf Tryz.prog 175 = 8 := by unfold bytesOf; rw [info175]; rfl
@[go_sem] theorem takeVar175 (cs : List PV) : takeVar Tryz.prog 175 cs = cs[0]? := by unfold takeVar isAggT; rw [Tryz.underlying175, info175]
@[go_sem] theorem partA175 (cs : List PV) (k : Nat) : partA Tryz.prog 175 cs k = cs[k]? := by unfold partA isAggT; rw [Tryz.underlying175, info175]
@[go_sem] theorem zeroA175 : zeroA Tryz.prog 175 = some .nilfn := by unfold zeroA; rw [info175]; rfl
@[go_sem] theorem zeroOk175 : zeroOk Tryz.prog 175 = true := by unfold zeroOk; rw [zeroA175, cellsOf175]; rfl
attribute [go_sem] Tryz.underlying175
@[go_sem] theorem has176 : (Tryz.prog.info? 176).isSome = true := by rw [info176]; rfl
@[go_sem] theorem cellsOf176 : Tryz.prog.cellsOf 176 = 20 := by unfold Program.cellsOf; rw [info176]; rfl
@[go_sem] theorem bytesOf176 : bytesOf Tryz.prog 176 = 160 := by unfold bytesOf; rw [info176]; rfl
@[go_sem] theorem takeVar176 (cs : List PV) : takeVar Tryz.prog 176 cs = if 20 ≤ cs.length then some (.agg (cs.take 20)) else none := by unfold takeVar isAggT; rw [Tryz.underlying176, info176]; rfl
@[go_sem] theorem partA176 (cs : List PV) (k : Nat) : partA Tryz.prog 176 cs k = if k + 20 ≤ cs.length then some (.agg ((cs.drop k).take 20)) else none := by unfold partA isAggT; rw [Tryz.underlying176, info176]; rfl
@[go_sem] theorem zeroA176 : zeroA Tryz.prog 176 = some (.agg [(.int IntKind.u64 0), (.int IntKind.u64 0), (.int IntKind.u64 0), (.int IntKind.u64 0), (.int IntKind.u64 0), (.int IntKind.u64 0), (.int IntKind.u64 0), (.int IntKind.u64 0), (.int IntKind.u64 0), (.int IntKind.u64 0), (.int IntKind.u64 0), (.int IntKind.u64 0), (.int IntKind.u64 0), (.int IntKind.u64 0), (.int IntKind.u64 0), (.int IntKind.u64 0), (.int IntKind.u64 0), (.int IntKind.u64 0), (.int IntKind.u64 0), (.int IntKind.u64 0)]) := by unfold zeroA; rw [info176]; rfl
@[go_sem] theorem zeroOk176 : zeroOk Tryz.prog 176 = true := by unfold zeroOk; rw [zeroA176, cellsOf176]; rfl
attribute [go_sem] Tryz.underlying176
@[go_sem] theorem has186 : (Tryz.prog.info? 186).isSome = true := by rw [info186]; rfl
@[go_sem] theorem cellsOf186 : Tryz.prog.cellsOf 186 = 1 := by unfold Program.cellsOf; rw [info186]; rfl
@[go_sem] theorem bytesOf186 : bytesOf Tryz.prog 186 = 8 := by unfold bytesOf; rw [info186]; rfl
@[go_sem] theorem takeVar186 (cs : List PV) : takeVar Tryz.prog 186 cs = cs[0]? := by unfold takeVar isAggT; rw [Tryz.underlying186, info186]
@[go_sem] theorem partA186 (cs : List PV) (k : Nat) : partA Tryz.prog 186 cs k = cs[k]? := by unfold partA isAggT; rw [Tryz.underlying186, info186]
@[go_sem] theorem zeroA186 : zeroA Tryz.prog 186 = some (.int IntKind.i64 0) := by unfold zeroA; rw [info186]; rfl
@[go_sem] theorem zeroOk186 : zeroOk Tryz.prog 186 = true := by unfold zeroOk; rw [zeroA186, cellsOf186]; rfl
attribute [go_sem] Tryz.underlying186
@[go_sem] theorem has194 : (Tryz.prog.info? 194).isSome = true := by rw [info194]; rfl
@[go_sem] theorem cellsOf194 : Tryz.prog.cellsOf 194 = 2 := by unfold Program.cellsOf; rw [info194]; rfl
@[go_sem] theorem bytesOf194 : bytesOf Tryz.prog 194 = 16 := by unfold bytesOf; rw [info194]; rfl
@[go_sem] theorem takeVar194 (cs : List PV) : takeVar Tryz.prog 194 cs = if 2 ≤ cs.length then some (.agg (cs.take 2)) else none := by unfold takeVar isAggT; rw [Tryz.underlying194, info194]; rfl
@[go_sem] theorem partA194 (cs : List PV) (k : Nat) : partA Tryz.prog 194 cs k = if k + 2 ≤ cs.length then some (.agg ((cs.drop k).take 2)) else none := by unfold partA isAggT; rw [Tryz.underlying194, info194]; rfl
@[go_sem] theorem zeroA194 : zeroA Tryz.prog 194 = some (.agg [.nilp, (.int IntKind.i64 0)]) := by unfold zeroA; rw [info194]; rfl
@[go_sem] theorem zeroOk194 : zeroOk Tryz.prog 194 = true := by unfold zeroOk; rw [zeroA194, cellsOf194]; rfl
@[go_sem] theorem field194_0 : fieldInfo Tryz.prog 194 0 = some (0, 64) := by unfold fieldInfo; rw [Tryz.underlying194]; show (match Tryz.prog.info? 64 with | some i => if i.size = 0 then none else some (0, 64) | none => none) = _; rw [info64]; rfl
@[go_sem] theorem field194_1 : fieldInfo Tryz.prog 194 1 = some (1, 3) := by unfold fieldInfo; rw [Tryz.underlying194]; show (match Tryz.prog.info? 3 with | some i => if i.size = 0 then none else some (1, 3) | none => none) = _; rw [info3]; rfl
attribute [go_sem] Tryz.underlying194
@[go_sem] theorem buildA7 (ps : List (Nat × PV)) : buildA Tryz.prog 7 ps = (match fillL [(0, 1), (1, 1), (2, 1), (3, 1)] [(.int IntKind.i64 0), (.int IntKind.i64 0), (.bool false), (.int IntKind.u8 0)] ps with | some cs => some (.agg cs) | none => none) := buildA_of zeroA7 (placesA_struct Tryz.underlying7 (by simp only [List.all_cons, List.all_nil, has2, has3, has4, has6, Bool.and_self]) (by simp only [List.map_cons, List.map_nil, cellsOf2, cellsOf3, cellsOf4, cellsOf6])) ps
@[go_sem] theorem buildA8 (ps : List (Nat × PV)) : buildA Tryz.prog 8 ps = (match fillL [(0, 1), (1, 1), (2, 1), (3, 1)] [(.int IntKind.i64 0), (.int IntKind.i64 0), (.bool false), (.int IntKind.u8 0)] ps with | some cs => some (.agg cs) | none => none) := buildA_of zeroA8 (placesA_struct Tryz.underlying8 (by simp only [List.all_cons, List.all_nil, has2, has3, has4, has6, Bool.and_self]) (by simp only [List.map_cons, List.map_nil, cellsOf2, cellsOf3, cellsOf4, cellsOf6])) ps
@[go_sem] theorem buildA14 (ps : List (Nat × PV)) : buildA Tryz.prog 14 ps = (match fillL [(0, 1), (1, 1)] [(.str ({ data := #[] })), (.int IntKind.u64 0)] ps with | some cs => some (.agg cs) | none => none) := buildA_of zeroA14 (placesA_struct Tryz.underlying14 (by simp only [List.all_cons, List.all_nil, has9, has12, Bool.and_self]) (by simp only [List.map_cons, List.map_nil, cellsOf9, cellsOf12])) ps
@[go_sem] theorem buildA18 (ps : List (Nat × PV)) : buildA Tryz.prog 18 ps = (match fillL [(0, 1)] [.nilp] ps with | some cs => some (.agg cs) | none => none) := buildA_of zeroA18 (placesA_struct Tryz.underlying18 (by simp only [List.all_cons, List.all_nil, has17, Bool.and_self]) (by simp only [List.map_cons, List.map_nil, cellsOf17])) ps
@[go_sem] theorem buildA19 (ps : List (Nat × PV)) : buildA Tryz.prog 19 ps = (match fillL [(0, 1)] [.nilp] ps with | some cs => some (.agg cs) | none => none) := buildA_of zeroA19 (placesA_struct Tryz.underlying19 (by simp only [List.all_cons, List.all_nil, has17, Bool.and_self]) (by simp only [List.map_cons, List.map_nil, cellsOf17])) ps
@[go_sem] theorem buildA24 (ps : List (Nat × PV)) : buildA Tryz.prog 24 ps = (match fillL [(0, 1), (1, 1)] [(.int IntKind.i64 0), (.int IntKind.i64 0)] ps with | some cs => some (.agg cs) | none => none) := buildA_of zeroA24 (placesA_struct Tryz.underlying24 (by simp only [List.all_cons, List.all_nil, has3, Bool.and_self]) (by simp only [List.map_cons, List.map_nil, cellsOf3])) ps
@[go_sem] theorem buildA26 (ps : List (Nat × PV)) : buildA Tryz.prog 26 ps = (match fillL [(0, 1), (1, 1), (2, 2), (4, 1)] [(.int IntKind.i64 0), (.int IntKind.i64 0), (.int IntKind.i64 0), (.int IntKind.i64 0), .emp] ps with | some cs => some (.agg cs) | none => none) := buildA_of zeroA26 (placesA_struct Tryz.underlying26 (by simp only [List.all_cons, List.all_nil, has3, has24, has25, Bool.and_self]) (by simp only [List.map_cons, List.map_nil, cellsOf3, cellsOf24, cellsOf25])) ps
@[go_sem] theorem buildA27 (ps : List (Nat × PV)) : buildA Tryz.prog 27 ps = (match fillL [(0, 1), (1, 1), (2, 2), (4, 1)] [(.int IntKind.i64 0), (.int IntKind.i64 0), (.int IntKind.i64 0), (.int IntKind.i64 0), .emp] ps with | some cs => some (.agg cs) | none => none) := buildA_of zeroA27 (placesA_struct Tryz.underlying27 (by simp only [List.all_cons, List.all_nil, has3, has24, has25, Bool.and_self]) (by simp only [List.map_cons, List.map_nil, cellsOf3, cellsOf24, cellsOf25])) ps
@[go_sem] theorem buildA33 (ps : List (Nat × PV)) : buildA Tryz.prog 33 ps = (match fillL [(0, 1), (1, 1), (2, 1)] [.emp, .emp, .emp] ps with | some cs => some (.agg cs) | none => none) := buildA_of zeroA33 (placesA_struct Tryz.underlying33 (by simp only [List.all_cons, List.all_nil, has32, Bool.and_self]) (by simp only [List.map_cons, List.map_nil, cellsOf32])) ps
@[go_sem] theorem buildA34 (ps : List (Nat × PV)) : buildA Tryz.prog 34 ps = (match fillL [(0, 1), (1, 1), (2, 1)] [.emp, .emp, .emp] ps with | some cs => some (.agg cs) | none => none) := buildA_of zeroA34 (placesA_struct Tryz.underlying34 (by simp only [List.all_cons, List.all_nil, has32, Bool.and_self]) (by simp only [List.map_cons, List.map_nil, cellsOf32])) ps
@[go_sem] theorem buildA44 (ps : List (Nat × PV)) : buildA Tryz.prog 44 ps = (match fillL [(0, 1), (1, 2), (3, 5), (8, 1), (9, 1)] [(.int IntKind.i64 0), (.int IntKind.i64 0), (.int IntKind.i64 0), (.int IntKind.i64 0), (.int IntKind.i64 0), (.int IntKind.i64 0), (.int IntKind.i64 0), .emp, .emp, .emp] ps with | some cs => some (.agg cs) | none => none) := buildA_of zeroA44 (placesA_struct Tryz.underlying44 (by simp only [List.all_cons, List.all_nil, has3, has24, has27, has43, Bool.and_self]) (by simp only [List.map_cons, List.map_nil, cellsOf3, cellsOf24, cellsOf27, cellsOf43])) ps
@[go_sem] theorem buildA45 (ps : List (Nat × PV)) : buildA Tryz.prog 45 ps = (match fillL [(0, 1), (1, 2), (3, 5), (8, 1), (9, 1)] [(.int IntKind.i64 0), (.int IntKind.i64 0), (.int IntKind.i64 0), (.int IntKind.i64 0), (.int IntKind.i64 0), (.int IntKind.i64 0), (.int IntKind.i64 0), .emp, .emp, .emp] ps with | some cs => some (.agg cs) | none => none) := buildA_of zeroA45 (placesA_struct Tryz.underlying45 (by simp only [List.all_cons, List.all_nil, has3, has24, has27, has43, Bool.and_self]) (by simp only [List.map_cons, List.map_nil, cellsOf3, cellsOf24, cellsOf27, cellsOf43])) ps
@[go_sem] theorem buildA83 (ps : List (Nat × PV)) : buildA Tryz.prog 83 ps = (match fillL [(0, 1), (1, 1)] [.emp, (.int IntKind.i64 0)] ps with | some cs => some (.agg cs) | none => none) := buildA_of zeroA83 (placesA_struct Tryz.underlying83 (by simp only [List.all_cons, List.all_nil, has3, has22, Bool.and_self]) (by simp only [List.map_cons, List.map_nil, cellsOf3, cellsOf22])) ps
@[go_sem] theorem buildA103 (ps : List (Nat × PV)) : buildA Tryz.prog 103 ps = (match fillL [(0, 18)] [(.int IntKind.i64 0), (.int IntKind.i64 0), (.int IntKind.i64 0), (.int IntKind.i64 0), (.int IntKind.i64 0), (.int IntKind.i64 0), (.int IntKind.i64 0), (.int IntKind.i64 0), (.int IntKind.i64 0), (.int IntKind.i64 0), (.int IntKind.i64 0), (.int IntKind.i64 0), (.int IntKind.i64 0), (.int IntKind.i64 0), (.int IntKind.i64 0), (.int IntKind.i64 0), (.int IntKind.i64 0), (.int IntKind.i64 0)] ps with | some cs => some (.agg cs) | none => none) := buildA_of zeroA103 (placesA_struct Tryz.underlying103 (by simp only [List.all_cons, List.all_nil, has102, Bool.and_self]) (by simp only [List.map_cons, List.map_nil, cellsOf102])) ps
@[go_sem] theorem buildA104 (ps : List (Nat × PV)) : buildA Tryz.prog 104 ps = (match fillL [(0, 18)] [(.int IntKind.i64 0), (.int IntKind.i64 0), (.int IntKind.i64 0), (.int IntKind.i64 0), (.int IntKind.i64 0), (.int IntKind.i64 0), (.int IntKind.i64 0), (.int IntKind.i64 0), (.int IntKind.i64 0), (.int IntKind.i64 0), (.int IntKind.i64 0), (.int IntKind.i64 0), (.int IntKind.i64 0), (.int IntKind.i64 0), (.int IntKind.i64 0), (.int IntKind.i64 0), (.int IntKind.i64 0), (.int IntKind.i64 0)] ps with | some cs => some (.agg cs) | none => none) := buildA_of zeroA104 (placesA_struct Tryz.underlying104 (by simp only [List.all_cons, List.all_nil, has102, Bool.and_self]) (by simp only [List.map_cons, List.map_nil, cellsOf102])) ps
@[go_sem] theorem buildA109 (ps : List (Nat × PV)) : buildA Tryz.prog 109 ps = (match fillL [(0, 1), (1, 1), (2, 2)] [(.int IntKind.i64 0), (.int IntKind.i64 0), (.int IntKind.i64 0), (.int IntKind.i64 0)] ps with | some cs => some (.agg cs) | none => none) := buildA_of zeroA109 (placesA_struct Tryz.underlying109 (by simp only [List.all_cons, List.all_nil, has3, has24, Bool.and_self]) (by simp only [List.map_cons, List.map_nil, cellsOf3, cellsOf24])) ps
@[go_sem] theorem buildA110 (ps : List (Nat × PV)) : buildA Tryz.prog 110 ps = (match fillL [(0, 1), (1, 1), (2, 2)] [(.int IntKind.i64 0), (.int IntKind.i64 0), (.int IntKind.i64 0), (.int IntKind.i64 0)] ps with | some cs => some (.agg cs) | none => none) := buildA_of zeroA110 (placesA_struct Tryz.underlying110 (by simp only [List.all_cons, List.all_nil, has3, has24, Bool.and_self]) (by simp only [List.map_cons, List.map_nil, cellsOf3, cellsOf24])) ps
@[go_sem] theorem buildA148 (ps : List (Nat × PV)) : buildA Tryz.prog 148 ps = (match fillL [(0, 2), (2, 5)] [(.int IntKind.i64 0), (.int IntKind.i64 0), (.int IntKind.i64 0), (.int IntKind.i64 0), (.int IntKind.i64 0), (.int IntKind.i64 0), .emp] ps with | some cs => some (.agg cs) | none => none) := buildA_of zeroA148 (placesA_struct Tryz.underlying148 (by simp only [List.all_cons, List.all_nil, has24, has27, Bool.and_self]) (by simp only [List.map_cons, List.map_nil, cellsOf24, cellsOf27])) ps
@[go_sem] theorem buildA150 (ps : List (Nat × PV)) : buildA Tryz.prog 150 ps = (match fillL [(0, 5), (5, 1), (6, 1)] [(.int IntKind.i64 0), (.int IntKind.i64 0), (.int IntKind.i64 0), (.int IntKind.i64 0), .emp, .emp, .emp] ps with | some cs => some (.agg cs) | none => none) := buildA_of zeroA150 (placesA_struct Tryz.underlying150 (by simp only [List.all_cons, List.all_nil, has27, has43, Bool.and_self]) (by simp only [List.map_cons, List.map_nil, cellsOf27, cellsOf43])) ps
@[go_sem] theorem buildA151 (ps : List (Nat × PV)) : buildA Tryz.prog 151 ps = (match fillL [(0, 5), (5, 1)] [(.int IntKind.i64 0), (.int IntKind.i64 0), (.int IntKind.i64 0), (.int IntKind.i64 0), .emp, .emp] ps with | some cs => some (.agg cs) | none => none) := buildA_of zeroA151 (placesA_struct Tryz.underlying151 (by simp only [List.all_cons, List.all_nil, has27, has43, Bool.and_self]) (by simp only [List.map_cons, List.map_nil, cellsOf27, cellsOf43])) ps
@[go_sem] theorem buildA152 (ps : List (Nat × PV)) : buildA Tryz.prog 152 ps = (match fillL [(0, 5), (5, 1)] [(.int IntKind.i64 0), (.int IntKind.i64 0), (.int IntKind.i64 0), (.int IntKind.i64 0), .emp, .emp] ps with | some cs => some (.agg cs) | none => none) := buildA_of zeroA152 (placesA_struct Tryz.underlying152 (by simp only [List.all_cons, List.all_nil, has27, has43, Bool.and_self]) (by simp only [List.map_cons, List.map_nil, cellsOf27, cellsOf43])) ps
@[go_sem] theorem buildA194 (ps : List (Nat × PV)) : buildA Tryz.prog 194 ps = (match fillL [(0, 1), (1, 1)] [.nilp, (.int IntKind.i64 0)] ps with | some cs => some (.agg cs) | none => none) := buildA_of zeroA194 (placesA_struct Tryz.underlying194 (by simp only [List.all_cons, List.all_nil, has3, has64, Bool.and_self]) (by simp only [List.map_cons, List.map_nil, cellsOf3, cellsOf64])) ps
end Go.Proofs.YtmicbfojofcigaaGreat
