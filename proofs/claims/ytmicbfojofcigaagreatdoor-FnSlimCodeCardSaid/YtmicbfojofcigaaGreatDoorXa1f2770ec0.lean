/- A part of a proof: lemmas and contracts of functions; the last text of the claim says what is proved. -/
import Derived.Test.YtmicbfojofcigaaGreatDoorXf80ad99812
import Derived.Test.YtmicbfojofcigaaGreatDoorChecked
set_option linter.unusedSectionVars false
set_option linter.unusedSimpArgs false
set_option linter.unusedVariables false
namespace Go.Proofs.YtmicbfojofcigaaGreatDoor
open Go Sg
set_option maxRecDepth 100000
theorem info3 : Tryz.prog.info? 3 = some Tryz.t3 := by unfold Tables.info?; exact Tryz.type3
theorem info4 : Tryz.prog.info? 4 = some Tryz.t4 := by unfold Tables.info?; exact Tryz.type4
theorem info5 : Tryz.prog.info? 5 = some Tryz.t5 := by unfold Tables.info?; exact Tryz.type5
theorem info22 : Tryz.prog.info? 22 = some Tryz.t22 := by unfold Tables.info?; exact Tryz.type22
theorem info23 : Tryz.prog.info? 23 = some Tryz.t23 := by unfold Tables.info?; exact Tryz.type23
theorem info29 : Tryz.prog.info? 29 = some Tryz.t29 := by unfold Tables.info?; exact Tryz.type29
theorem info31 : Tryz.prog.info? 31 = some Tryz.t31 := by unfold Tables.info?; exact Tryz.type31
theorem info33 : Tryz.prog.info? 33 = some Tryz.t33 := by unfold Tables.info?; exact Tryz.type33
theorem info41 : Tryz.prog.info? 41 = some Tryz.t41 := by unfold Tables.info?; exact Tryz.type41
theorem info48 : Tryz.prog.info? 48 = some Tryz.t48 := by unfold Tables.info?; exact Tryz.type48
theorem info50 : Tryz.prog.info? 50 = some Tryz.t50 := by unfold Tables.info?; exact Tryz.type50
theorem info52 : Tryz.prog.info? 52 = some Tryz.t52 := by unfold Tables.info?; exact Tryz.type52
theorem info63 : Tryz.prog.info? 63 = some Tryz.t63 := by unfold Tables.info?; exact Tryz.type63
theorem info70 : Tryz.prog.info? 70 = some Tryz.t70 := by unfold Tables.info?; exact Tryz.type70
theorem info78 : Tryz.prog.info? 78 = some Tryz.t78 := by unfold Tables.info?; exact Tryz.type78
theorem info81 : Tryz.prog.info? 81 = some Tryz.t81 := by unfold Tables.info?; exact Tryz.type81
theorem info86 : Tryz.prog.info? 86 = some Tryz.t86 := by unfold Tables.info?; exact Tryz.type86
theorem info88 : Tryz.prog.info? 88 = some Tryz.t88 := by unfold Tables.info?; exact Tryz.type88
theorem info92 : Tryz.prog.info? 92 = some Tryz.t92 := by unfold Tables.info?; exact Tryz.type92
theorem info100 : Tryz.prog.info? 100 = some Tryz.t100 := by unfold Tables.info?; exact Tryz.type100
theorem info111 : Tryz.prog.info? 111 = some Tryz.t111 := by unfold Tables.info?; exact Tryz.type111
theorem info119 : Tryz.prog.info? 119 = some Tryz.t119 := by unfold Tables.info?; exact Tryz.type119
theorem info120 : Tryz.prog.info? 120 = some Tryz.t120 := by unfold Tables.info?; exact Tryz.type120
theorem info122 : Tryz.prog.info? 122 = some Tryz.t122 := by unfold Tables.info?; exact Tryz.type122
theorem info144 : Tryz.prog.info? 144 = some Tryz.t144 := by unfold Tables.info?; exact Tryz.type144
theorem info145 : Tryz.prog.info? 145 = some Tryz.t145 := by unfold Tables.info?; exact Tryz.type145
theorem info149 : Tryz.prog.info? 149 = some Tryz.t149 := by unfold Tables.info?; exact Tryz.type149
theorem info151 : Tryz.prog.info? 151 = some Tryz.t151 := by unfold Tables.info?; exact Tryz.type151
theorem info153 : Tryz.prog.info? 153 = some Tryz.t153 := by unfold Tables.info?; exact Tryz.type153
theorem info173 : Tryz.prog.info? 173 = some Tryz.t173 := by unfold Tables.info?; exact Tryz.type173
theorem info184 : Tryz.prog.info? 184 = some Tryz.t184 := by unfold Tables.info?; exact Tryz.type184
theorem info194 : Tryz.prog.info? 194 = some Tryz.t194 := by unfold Tables.info?; exact Tryz.type194
theorem info196 : Tryz.prog.info? 196 = some Tryz.t196 := by unfold Tables.info?; exact Tryz.type196
theorem info197 : Tryz.prog.info? 197 = some Tryz.t197 := by unfold Tables.info?; exact Tryz.type197
theorem info198 : Tryz.prog.info? 198 = some Tryz.t198 := by unfold Tables.info?; exact Tryz.type198
theorem info199 : Tryz.prog.info? 199 = some Tryz.t199 := by unfold Tables.info?; exact Tryz.type199
attribute [go_sem] Tryz.underlying1
attribute [go_sem] Tryz.underlying2
@[go_sem] theorem has3 : (Tryz.prog.info? 3).isSome = true := by rw [info3]; rfl
@[go_sem] theorem cellsOf3 : Tryz.prog.cellsOf 3 = 1 := by unfold Program.cellsOf; rw [info3]; rfl
@[go_sem] theorem bytesOf3 : bytesOf Tryz.prog 3 = 8 := by unfold bytesOf; rw [info3]; rfl
@[go_sem] theorem takeVar3 (cs : List PV) : takeVar Tryz.prog 3 cs = cs[0]? := by unfold takeVar isAggT; rw [Tryz.underlying3, info3]
@[go_sem] theorem partA3 (cs : List PV) (k : Nat) : partA Tryz.prog 3 cs k = cs[k]? := by unfold partA isAggT; rw [Tryz.underlying3, info3]
@[go_sem] theorem zeroA3 : zeroA Tryz.prog 3 = some (.int IntKind.i64 0) := by unfold zeroA; rw [info3]; rfl
@[go_sem] theorem zeroOk3 : zeroOk Tryz.prog 3 = true := by unfold zeroOk; rw [zeroA3, cellsOf3]; rfl
attribute [go_sem] Tryz.underlying3
@[go_sem] theorem cellsOf4 : Tryz.prog.cellsOf 4 = 1 := by unfold Program.cellsOf; rw [info4]; rfl
@[go_sem] theorem takeVar4 (cs : List PV) : takeVar Tryz.prog 4 cs = cs[0]? := by unfold takeVar isAggT; rw [Tryz.underlying4, info4]
@[go_sem] theorem zeroA4 : zeroA Tryz.prog 4 = some (.bool false) := by unfold zeroA; rw [info4]; rfl
attribute [go_sem] Tryz.underlying4
@[go_sem] theorem has5 : (Tryz.prog.info? 5).isSome = true := by rw [info5]; rfl
@[go_sem] theorem cellsOf5 : Tryz.prog.cellsOf 5 = 1 := by unfold Program.cellsOf; rw [info5]; rfl
@[go_sem] theorem takeVar5 (cs : List PV) : takeVar Tryz.prog 5 cs = cs[0]? := by unfold takeVar isAggT; rw [Tryz.underlying5, info5]
attribute [go_sem] Tryz.underlying5
attribute [go_sem] Tryz.underlying6
attribute [go_sem] Tryz.underlying7
attribute [go_sem] Tryz.underlying8
attribute [go_sem] Tryz.underlying9
attribute [go_sem] Tryz.underlying10
attribute [go_sem] Tryz.underlying11
attribute [go_sem] Tryz.underlying12
attribute [go_sem] Tryz.underlying14
attribute [go_sem] Tryz.underlying16
attribute [go_sem] Tryz.underlying19
attribute [go_sem] Tryz.underlying20
@[go_sem] theorem has22 : (Tryz.prog.info? 22).isSome = true := by rw [info22]; rfl
@[go_sem] theorem cellsOf22 : Tryz.prog.cellsOf 22 = 1 := by unfold Program.cellsOf; rw [info22]; rfl
@[go_sem] theorem takeVar22 (cs : List PV) : takeVar Tryz.prog 22 cs = cs[0]? := by unfold takeVar isAggT; rw [Tryz.underlying22, info22]
attribute [go_sem] Tryz.underlying22
@[go_sem] theorem has23 : (Tryz.prog.info? 23).isSome = true := by rw [info23]; rfl
@[go_sem] theorem cellsOf23 : Tryz.prog.cellsOf 23 = 1 := by unfold Program.cellsOf; rw [info23]; rfl
@[go_sem] theorem takeVar23 (cs : List PV) : takeVar Tryz.prog 23 cs = cs[0]? := by unfold takeVar isAggT; rw [Tryz.underlying23, info23]
attribute [go_sem] Tryz.underlying23
attribute [go_sem] Tryz.underlying24
attribute [go_sem] Tryz.underlying25
attribute [go_sem] Tryz.underlying26
attribute [go_sem] Tryz.underlying27
attribute [go_sem] Tryz.underlying28
@[go_sem] theorem has29 : (Tryz.prog.info? 29).isSome = true := by rw [info29]; rfl
@[go_sem] theorem cellsOf29 : Tryz.prog.cellsOf 29 = 2 := by unfold Program.cellsOf; rw [info29]; rfl
@[go_sem] theorem takeVar29 (cs : List PV) : takeVar Tryz.prog 29 cs = if 2 ≤ cs.length then some (.agg (cs.take 2)) else none := by unfold takeVar isAggT; rw [Tryz.underlying29, info29]; rfl
@[go_sem] theorem partA29 (cs : List PV) (k : Nat) : partA Tryz.prog 29 cs k = if k + 2 ≤ cs.length then some (.agg ((cs.drop k).take 2)) else none := by unfold partA isAggT; rw [Tryz.underlying29, info29]; rfl
@[go_sem] theorem zeroA29 : zeroA Tryz.prog 29 = some (.agg [(.int IntKind.i64 0), (.int IntKind.i64 0)]) := by unfold zeroA; rw [info29]; rfl
@[go_sem] theorem field29_0 : fieldInfo Tryz.prog 29 0 = some (0, 3) := by unfold fieldInfo; rw [Tryz.underlying29]; show (match Tryz.prog.info? 3 with | some i => if i.size = 0 then none else some (0, 3) | none => none) = _; rw [info3]; rfl
@[go_sem] theorem field29_1 : fieldInfo Tryz.prog 29 1 = some (1, 3) := by unfold fieldInfo; rw [Tryz.underlying29]; show (match Tryz.prog.info? 3 with | some i => if i.size = 0 then none else some (1, 3) | none => none) = _; rw [info3]; rfl
attribute [go_sem] Tryz.underlying29
attribute [go_sem] Tryz.underlying30
@[go_sem] theorem has31 : (Tryz.prog.info? 31).isSome = true := by rw [info31]; rfl
@[go_sem] theorem cellsOf31 : Tryz.prog.cellsOf 31 = 1 := by unfold Program.cellsOf; rw [info31]; rfl
@[go_sem] theorem takeVar31 (cs : List PV) : takeVar Tryz.prog 31 cs = cs[0]? := by unfold takeVar isAggT; rw [Tryz.underlying31, info31]
@[go_sem] theorem zeroA31 : zeroA Tryz.prog 31 = some .emp := by unfold zeroA; rw [info31]; rfl
@[go_sem] theorem zeroOk31 : zeroOk Tryz.prog 31 = true := by unfold zeroOk; rw [zeroA31, cellsOf31]; rfl
attribute [go_sem] Tryz.underlying31
attribute [go_sem] Tryz.underlying32
@[go_sem] theorem cellsOf33 : Tryz.prog.cellsOf 33 = 3 := by unfold Program.cellsOf; rw [info33]; rfl
@[go_sem] theorem takeVar33 (cs : List PV) : takeVar Tryz.prog 33 cs = if 3 ≤ cs.length then some (.agg (cs.take 3)) else none := by unfold takeVar isAggT; rw [Tryz.underlying33, info33]; rfl
@[go_sem] theorem zeroA33 : zeroA Tryz.prog 33 = some (.agg [.emp, .emp, .emp]) := by unfold zeroA; rw [info33]; rfl
@[go_sem] theorem field33_0 : fieldInfo Tryz.prog 33 0 = some (0, 31) := by unfold fieldInfo; rw [Tryz.underlying33]; show (match Tryz.prog.info? 31 with | some i => if i.size = 0 then none else some (0, 31) | none => none) = _; rw [info31]; rfl
@[go_sem] theorem field33_1 : fieldInfo Tryz.prog 33 1 = some (1, 31) := by unfold fieldInfo; rw [Tryz.underlying33]; show (match Tryz.prog.info? 31 with | some i => if i.size = 0 then none else some (1, 31) | none => none) = _; rw [info31]; rfl
@[go_sem] theorem field33_2 : fieldInfo Tryz.prog 33 2 = some (2, 31) := by unfold fieldInfo; rw [Tryz.underlying33]; show (match Tryz.prog.info? 31 with | some i => if i.size = 0 then none else some (2, 31) | none => none) = _; rw [info31]; rfl
attribute [go_sem] Tryz.underlying33
attribute [go_sem] Tryz.underlying35
attribute [go_sem] Tryz.underlying38
attribute [go_sem] Tryz.underlying39
attribute [go_sem] Tryz.underlying40
@[go_sem] theorem has41 : (Tryz.prog.info? 41).isSome = true := by rw [info41]; rfl
@[go_sem] theorem cellsOf41 : Tryz.prog.cellsOf 41 = 1 := by unfold Program.cellsOf; rw [info41]; rfl
@[go_sem] theorem takeVar41 (cs : List PV) : takeVar Tryz.prog 41 cs = cs[0]? := by unfold takeVar isAggT; rw [Tryz.underlying41, info41]
attribute [go_sem] Tryz.underlying41
attribute [go_sem] Tryz.underlying42
attribute [go_sem] Tryz.underlying44
attribute [go_sem] Tryz.underlying45
attribute [go_sem] Tryz.underlying46
attribute [go_sem] Tryz.underlying47
@[go_sem] theorem has48 : (Tryz.prog.info? 48).isSome = true := by rw [info48]; rfl
@[go_sem] theorem cellsOf48 : Tryz.prog.cellsOf 48 = 1 := by unfold Program.cellsOf; rw [info48]; rfl
@[go_sem] theorem takeVar48 (cs : List PV) : takeVar Tryz.prog 48 cs = cs[0]? := by unfold takeVar isAggT; rw [Tryz.underlying48, info48]
attribute [go_sem] Tryz.underlying48
attribute [go_sem] Tryz.underlying49
@[go_sem] theorem has50 : (Tryz.prog.info? 50).isSome = true := by rw [info50]; rfl
@[go_sem] theorem cellsOf50 : Tryz.prog.cellsOf 50 = 5 := by unfold Program.cellsOf; rw [info50]; rfl
@[go_sem] theorem bytesOf50 : bytesOf Tryz.prog 50 = 56 := by unfold bytesOf; rw [info50]; rfl
@[go_sem] theorem takeVar50 (cs : List PV) : takeVar Tryz.prog 50 cs = if 5 ≤ cs.length then some (.agg (cs.take 5)) else none := by unfold takeVar isAggT; rw [Tryz.underlying50, info50]; rfl
@[go_sem] theorem zeroA50 : zeroA Tryz.prog 50 = some (.agg [(.int IntKind.i64 0), (.int IntKind.i64 0), (.int IntKind.i64 0), (.int IntKind.i64 0), .emp]) := by unfold zeroA; rw [info50]; rfl
@[go_sem] theorem zeroOk50 : zeroOk Tryz.prog 50 = true := by unfold zeroOk; rw [zeroA50, cellsOf50]; rfl
@[go_sem] theorem field50_0 : fieldInfo Tryz.prog 50 0 = some (0, 3) := by unfold fieldInfo; rw [Tryz.underlying50]; show (match Tryz.prog.info? 3 with | some i => if i.size = 0 then none else some (0, 3) | none => none) = _; rw [info3]; rfl
@[go_sem] theorem field50_1 : fieldInfo Tryz.prog 50 1 = some (1, 3) := by unfold fieldInfo; rw [Tryz.underlying50]; show (match Tryz.prog.info? 3 with | some i => if i.size = 0 then none else some (1, 3) | none => none) = _; rw [info3]; rfl
@[go_sem] theorem field50_2 : fieldInfo Tryz.prog 50 2 = some (2, 29) := by unfold fieldInfo; rw [Tryz.underlying50]; show (match Tryz.prog.info? 29 with | some i => if i.size = 0 then none else some (2, 29) | none => none) = _; rw [info29]; rfl
@[go_sem] theorem field50_3 : fieldInfo Tryz.prog 50 3 = some (4, 48) := by unfold fieldInfo; rw [Tryz.underlying50]; show (match Tryz.prog.info? 48 with | some i => if i.size = 0 then none else some (4, 48) | none => none) = _; rw [info48]; rfl
attribute [go_sem] Tryz.underlying50
attribute [go_sem] Tryz.underlying51
@[go_sem] theorem has52 : (Tryz.prog.info? 52).isSome = true := by rw [info52]; rfl
@[go_sem] theorem cellsOf52 : Tryz.prog.cellsOf 52 = 10 := by unfold Program.cellsOf; rw [info52]; rfl
@[go_sem] theorem bytesOf52 : bytesOf Tryz.prog 52 = 128 := by unfold bytesOf; rw [info52]; rfl
@[go_sem] theorem takeVar52 (cs : List PV) : takeVar Tryz.prog 52 cs = if 10 ≤ cs.length then some (.agg (cs.take 10)) else none := by unfold takeVar isAggT; rw [Tryz.underlying52, info52]; rfl
@[go_sem] theorem zeroA52 : zeroA Tryz.prog 52 = some (.agg [(.int IntKind.i64 0), (.int IntKind.i64 0), (.int IntKind.i64 0), (.int IntKind.i64 0), (.int IntKind.i64 0), (.int IntKind.i64 0), (.int IntKind.i64 0), .emp, .emp, .emp]) := by unfold zeroA; rw [info52]; rfl
@[go_sem] theorem zeroOk52 : zeroOk Tryz.prog 52 = true := by unfold zeroOk; rw [zeroA52, cellsOf52]; rfl
@[go_sem] theorem field52_0 : fieldInfo Tryz.prog 52 0 = some (0, 3) := by unfold fieldInfo; rw [Tryz.underlying52]; show (match Tryz.prog.info? 3 with | some i => if i.size = 0 then none else some (0, 3) | none => none) = _; rw [info3]; rfl
@[go_sem] theorem field52_1 : fieldInfo Tryz.prog 52 1 = some (1, 29) := by unfold fieldInfo; rw [Tryz.underlying52]; show (match Tryz.prog.info? 29 with | some i => if i.size = 0 then none else some (1, 29) | none => none) = _; rw [info29]; rfl
@[go_sem] theorem field52_2 : fieldInfo Tryz.prog 52 2 = some (3, 50) := by unfold fieldInfo; rw [Tryz.underlying52]; show (match Tryz.prog.info? 50 with | some i => if i.size = 0 then none else some (3, 50) | none => none) = _; rw [info50]; rfl
@[go_sem] theorem field52_3 : fieldInfo Tryz.prog 52 3 = some (8, 23) := by unfold fieldInfo; rw [Tryz.underlying52]; show (match Tryz.prog.info? 23 with | some i => if i.size = 0 then none else some (8, 23) | none => none) = _; rw [info23]; rfl
@[go_sem] theorem field52_4 : fieldInfo Tryz.prog 52 4 = some (9, 23) := by unfold fieldInfo; rw [Tryz.underlying52]; show (match Tryz.prog.info? 23 with | some i => if i.size = 0 then none else some (9, 23) | none => none) = _; rw [info23]; rfl
attribute [go_sem] Tryz.underlying52
attribute [go_sem] Tryz.underlying53
attribute [go_sem] Tryz.underlying54
attribute [go_sem] Tryz.underlying57
attribute [go_sem] Tryz.underlying58
attribute [go_sem] Tryz.underlying59
attribute [go_sem] Tryz.underlying60
attribute [go_sem] Tryz.underlying61
attribute [go_sem] Tryz.underlying62
@[go_sem] theorem has63 : (Tryz.prog.info? 63).isSome = true := by rw [info63]; rfl
@[go_sem] theorem cellsOf63 : Tryz.prog.cellsOf 63 = 1 := by unfold Program.cellsOf; rw [info63]; rfl
@[go_sem] theorem takeVar63 (cs : List PV) : takeVar Tryz.prog 63 cs = cs[0]? := by unfold takeVar isAggT; rw [Tryz.underlying63, info63]
attribute [go_sem] Tryz.underlying63
attribute [go_sem] Tryz.underlying66
attribute [go_sem] Tryz.underlying68
@[go_sem] theorem takeVar70 (cs : List PV) : takeVar Tryz.prog 70 cs = cs[0]? := by unfold takeVar isAggT; rw [Tryz.underlying70, info70]
attribute [go_sem] Tryz.underlying70
attribute [go_sem] Tryz.underlying74
attribute [go_sem] Tryz.underlying75
attribute [go_sem] Tryz.underlying76
attribute [go_sem] Tryz.underlying77
@[go_sem] theorem zeroA78 : zeroA Tryz.prog 78 = some (.agg [.emp]) := by unfold zeroA; rw [info78]; rfl
@[go_sem] theorem field78_0 : fieldInfo Tryz.prog 78 0 = some (0, 41) := by unfold fieldInfo; rw [Tryz.underlying78]; show (match Tryz.prog.info? 41 with | some i => if i.size = 0 then none else some (0, 41) | none => none) = _; rw [info41]; rfl
attribute [go_sem] Tryz.underlying78
attribute [go_sem] Tryz.underlying79
@[go_sem] theorem has81 : (Tryz.prog.info? 81).isSome = true := by rw [info81]; rfl
@[go_sem] theorem cellsOf81 : Tryz.prog.cellsOf 81 = 4 := by unfold Program.cellsOf; rw [info81]; rfl
@[go_sem] theorem bytesOf81 : bytesOf Tryz.prog 81 = 32 := by unfold bytesOf; rw [info81]; rfl
@[go_sem] theorem takeVar81 (cs : List PV) : takeVar Tryz.prog 81 cs = if 4 ≤ cs.length then some (.agg (cs.take 4)) else none := by unfold takeVar isAggT; rw [Tryz.underlying81, info81]; rfl
@[go_sem] theorem zeroA81 : zeroA Tryz.prog 81 = some (.agg [(.int IntKind.i64 0), (.int IntKind.i64 0), (.int IntKind.i64 0), (.int IntKind.i64 0)]) := by unfold zeroA; rw [info81]; rfl
@[go_sem] theorem zeroOk81 : zeroOk Tryz.prog 81 = true := by unfold zeroOk; rw [zeroA81, cellsOf81]; rfl
@[go_sem] theorem field81_0 : fieldInfo Tryz.prog 81 0 = some (0, 3) := by unfold fieldInfo; rw [Tryz.underlying81]; show (match Tryz.prog.info? 3 with | some i => if i.size = 0 then none else some (0, 3) | none => none) = _; rw [info3]; rfl
@[go_sem] theorem field81_1 : fieldInfo Tryz.prog 81 1 = some (1, 3) := by unfold fieldInfo; rw [Tryz.underlying81]; show (match Tryz.prog.info? 3 with | some i => if i.size = 0 then none else some (1, 3) | none => none) = _; rw [info3]; rfl
@[go_sem] theorem field81_2 : fieldInfo Tryz.prog 81 2 = some (2, 29) := by unfold fieldInfo; rw [Tryz.underlying81]; show (match Tryz.prog.info? 29 with | some i => if i.size = 0 then none else some (2, 29) | none => none) = _; rw [info29]; rfl
attribute [go_sem] Tryz.underlying81
attribute [go_sem] Tryz.underlying85
@[go_sem] theorem has86 : (Tryz.prog.info? 86).isSome = true := by rw [info86]; rfl
@[go_sem] theorem cellsOf86 : Tryz.prog.cellsOf 86 = 12 := by unfold Program.cellsOf; rw [info86]; rfl
attribute [go_sem] Tryz.underlying86
attribute [go_sem] Tryz.underlying87
@[go_sem] theorem zeroA88 : zeroA Tryz.prog 88 = some (.agg [.nilp, (.int IntKind.i64 0), (.int IntKind.i64 0), (.int IntKind.i64 0), (.int IntKind.i64 0), (.int IntKind.i64 0), (.int IntKind.i64 0), (.int IntKind.i64 0), (.int IntKind.i64 0), (.int IntKind.i64 0), (.int IntKind.i64 0), (.int IntKind.i64 0), (.int IntKind.i64 0), (.int IntKind.i64 0), (.int IntKind.i64 0), (.int IntKind.i64 0)]) := by unfold zeroA; rw [info88]; rfl
@[go_sem] theorem field88_0 : fieldInfo Tryz.prog 88 0 = some (0, 63) := by unfold fieldInfo; rw [Tryz.underlying88]; show (match Tryz.prog.info? 63 with | some i => if i.size = 0 then none else some (0, 63) | none => none) = _; rw [info63]; rfl
@[go_sem] theorem field88_1 : fieldInfo Tryz.prog 88 1 = some (1, 86) := by unfold fieldInfo; rw [Tryz.underlying88]; show (match Tryz.prog.info? 86 with | some i => if i.size = 0 then none else some (1, 86) | none => none) = _; rw [info86]; rfl
@[go_sem] theorem field88_2 : fieldInfo Tryz.prog 88 2 = some (13, 3) := by unfold fieldInfo; rw [Tryz.underlying88]; show (match Tryz.prog.info? 3 with | some i => if i.size = 0 then none else some (13, 3) | none => none) = _; rw [info3]; rfl
@[go_sem] theorem field88_3 : fieldInfo Tryz.prog 88 3 = some (14, 3) := by unfold fieldInfo; rw [Tryz.underlying88]; show (match Tryz.prog.info? 3 with | some i => if i.size = 0 then none else some (14, 3) | none => none) = _; rw [info3]; rfl
@[go_sem] theorem field88_4 : fieldInfo Tryz.prog 88 4 = some (15, 3) := by unfold fieldInfo; rw [Tryz.underlying88]; show (match Tryz.prog.info? 3 with | some i => if i.size = 0 then none else some (15, 3) | none => none) = _; rw [info3]; rfl
attribute [go_sem] Tryz.underlying88
attribute [go_sem] Tryz.underlying89
attribute [go_sem] Tryz.underlying90
attribute [go_sem] Tryz.underlying91
@[go_sem] theorem cellsOf92 : Tryz.prog.cellsOf 92 = 1 := by unfold Program.cellsOf; rw [info92]; rfl
@[go_sem] theorem bytesOf92 : bytesOf Tryz.prog 92 = 8 := by unfold bytesOf; rw [info92]; rfl
@[go_sem] theorem takeVar92 (cs : List PV) : takeVar Tryz.prog 92 cs = cs[0]? := by unfold takeVar isAggT; rw [Tryz.underlying92, info92]
@[go_sem] theorem zeroA92 : zeroA Tryz.prog 92 = some .nilfn := by unfold zeroA; rw [info92]; rfl
@[go_sem] theorem zeroOk92 : zeroOk Tryz.prog 92 = true := by unfold zeroOk; rw [zeroA92, cellsOf92]; rfl
attribute [go_sem] Tryz.underlying92
attribute [go_sem] Tryz.underlying94
attribute [go_sem] Tryz.underlying95
attribute [go_sem] Tryz.underlying96
attribute [go_sem] Tryz.underlying97
attribute [go_sem] Tryz.underlying98
attribute [go_sem] Tryz.underlying99
@[go_sem] theorem zeroA100 : zeroA Tryz.prog 100 = some (.agg [.emp, (.int IntKind.i64 0)]) := by unfold zeroA; rw [info100]; rfl
@[go_sem] theorem field100_0 : fieldInfo Tryz.prog 100 0 = some (0, 22) := by unfold fieldInfo; rw [Tryz.underlying100]; show (match Tryz.prog.info? 22 with | some i => if i.size = 0 then none else some (0, 22) | none => none) = _; rw [info22]; rfl
@[go_sem] theorem field100_1 : fieldInfo Tryz.prog 100 1 = some (1, 3) := by unfold fieldInfo; rw [Tryz.underlying100]; show (match Tryz.prog.info? 3 with | some i => if i.size = 0 then none else some (1, 3) | none => none) = _; rw [info3]; rfl
attribute [go_sem] Tryz.underlying100
attribute [go_sem] Tryz.underlying101
attribute [go_sem] Tryz.underlying102
attribute [go_sem] Tryz.underlying103
attribute [go_sem] Tryz.underlying105
attribute [go_sem] Tryz.underlying106
attribute [go_sem] Tryz.underlying107
attribute [go_sem] Tryz.underlying108
attribute [go_sem] Tryz.underlying109
attribute [go_sem] Tryz.underlying110
@[go_sem] theorem cellsOf111 : Tryz.prog.cellsOf 111 = 1 := by unfold Program.cellsOf; rw [info111]; rfl
@[go_sem] theorem takeVar111 (cs : List PV) : takeVar Tryz.prog 111 cs = cs[0]? := by unfold takeVar isAggT; rw [Tryz.underlying111, info111]
@[go_sem] theorem zeroA111 : zeroA Tryz.prog 111 = some .nilfn := by unfold zeroA; rw [info111]; rfl
attribute [go_sem] Tryz.underlying111
attribute [go_sem] Tryz.underlying112
attribute [go_sem] Tryz.underlying113
attribute [go_sem] Tryz.underlying114
attribute [go_sem] Tryz.underlying115
attribute [go_sem] Tryz.underlying116
attribute [go_sem] Tryz.underlying117
attribute [go_sem] Tryz.underlying118
@[go_sem] theorem has119 : (Tryz.prog.info? 119).isSome = true := by rw [info119]; rfl
@[go_sem] theorem cellsOf119 : Tryz.prog.cellsOf 119 = 6 := by unfold Program.cellsOf; rw [info119]; rfl
@[go_sem] theorem takeVar119 (cs : List PV) : takeVar Tryz.prog 119 cs = if 6 ≤ cs.length then some (.agg (cs.take 6)) else none := by unfold takeVar isAggT; rw [Tryz.underlying119, info119]; rfl
attribute [go_sem] Tryz.underlying119
@[go_sem] theorem has120 : (Tryz.prog.info? 120).isSome = true := by rw [info120]; rfl
@[go_sem] theorem cellsOf120 : Tryz.prog.cellsOf 120 = 18 := by unfold Program.cellsOf; rw [info120]; rfl
attribute [go_sem] Tryz.underlying120
attribute [go_sem] Tryz.underlying121
@[go_sem] theorem zeroA122 : zeroA Tryz.prog 122 = some (.agg [(.int IntKind.i64 0), (.int IntKind.i64 0), (.int IntKind.i64 0), (.int IntKind.i64 0), (.int IntKind.i64 0), (.int IntKind.i64 0), (.int IntKind.i64 0), (.int IntKind.i64 0), (.int IntKind.i64 0), (.int IntKind.i64 0), (.int IntKind.i64 0), (.int IntKind.i64 0), (.int IntKind.i64 0), (.int IntKind.i64 0), (.int IntKind.i64 0), (.int IntKind.i64 0), (.int IntKind.i64 0), (.int IntKind.i64 0)]) := by unfold zeroA; rw [info122]; rfl
@[go_sem] theorem field122_0 : fieldInfo Tryz.prog 122 0 = some (0, 120) := by unfold fieldInfo; rw [Tryz.underlying122]; show (match Tryz.prog.info? 120 with | some i => if i.size = 0 then none else some (0, 120) | none => none) = _; rw [info120]; rfl
attribute [go_sem] Tryz.underlying122
attribute [go_sem] Tryz.underlying123
attribute [go_sem] Tryz.underlying124
attribute [go_sem] Tryz.underlying125
attribute [go_sem] Tryz.underlying126
attribute [go_sem] Tryz.underlying127
attribute [go_sem] Tryz.underlying128
attribute [go_sem] Tryz.underlying129
attribute [go_sem] Tryz.underlying131
attribute [go_sem] Tryz.underlying132
attribute [go_sem] Tryz.underlying133
attribute [go_sem] Tryz.underlying135
attribute [go_sem] Tryz.underlying137
attribute [go_sem] Tryz.underlying138
attribute [go_sem] Tryz.underlying139
attribute [go_sem] Tryz.underlying141
attribute [go_sem] Tryz.underlying142
@[go_sem] theorem has144 : (Tryz.prog.info? 144).isSome = true := by rw [info144]; rfl
@[go_sem] theorem cellsOf144 : Tryz.prog.cellsOf 144 = 1 := by unfold Program.cellsOf; rw [info144]; rfl
@[go_sem] theorem partA144 (cs : List PV) (k : Nat) : partA Tryz.prog 144 cs k = cs[k]? := by unfold partA isAggT; rw [Tryz.underlying144, info144]
attribute [go_sem] Tryz.underlying144
@[go_sem] theorem cellsOf145 : Tryz.prog.cellsOf 145 = 5 := by unfold Program.cellsOf; rw [info145]; rfl
@[go_sem] theorem takeVar145 (cs : List PV) : takeVar Tryz.prog 145 cs = if 5 ≤ cs.length then some (.agg (cs.take 5)) else none := by unfold takeVar isAggT; rw [Tryz.underlying145, info145]; rfl
@[go_sem] theorem zeroA145 : zeroA Tryz.prog 145 = some (.agg [.nilfn, .nilfn, .nilfn, .nilfn, .nilfn]) := by unfold zeroA; rw [info145]; rfl
attribute [go_sem] Tryz.underlying145
attribute [go_sem] Tryz.underlying146
attribute [go_sem] Tryz.underlying148
@[go_sem] theorem zeroA149 : zeroA Tryz.prog 149 = some (.agg [(.int IntKind.i64 0), (.int IntKind.i64 0), (.int IntKind.i64 0), (.int IntKind.i64 0), (.int IntKind.i64 0), (.int IntKind.i64 0), .emp]) := by unfold zeroA; rw [info149]; rfl
@[go_sem] theorem field149_0 : fieldInfo Tryz.prog 149 0 = some (0, 29) := by unfold fieldInfo; rw [Tryz.underlying149]; show (match Tryz.prog.info? 29 with | some i => if i.size = 0 then none else some (0, 29) | none => none) = _; rw [info29]; rfl
@[go_sem] theorem field149_1 : fieldInfo Tryz.prog 149 1 = some (2, 50) := by unfold fieldInfo; rw [Tryz.underlying149]; show (match Tryz.prog.info? 50 with | some i => if i.size = 0 then none else some (2, 50) | none => none) = _; rw [info50]; rfl
attribute [go_sem] Tryz.underlying149
@[go_sem] theorem zeroA151 : zeroA Tryz.prog 151 = some (.agg [(.int IntKind.i64 0), (.int IntKind.i64 0), (.int IntKind.i64 0), (.int IntKind.i64 0), .emp, .emp, .emp]) := by unfold zeroA; rw [info151]; rfl
@[go_sem] theorem field151_0 : fieldInfo Tryz.prog 151 0 = some (0, 50) := by unfold fieldInfo; rw [Tryz.underlying151]; show (match Tryz.prog.info? 50 with | some i => if i.size = 0 then none else some (0, 50) | none => none) = _; rw [info50]; rfl
@[go_sem] theorem field151_1 : fieldInfo Tryz.prog 151 1 = some (5, 23) := by unfold fieldInfo; rw [Tryz.underlying151]; show (match Tryz.prog.info? 23 with | some i => if i.size = 0 then none else some (5, 23) | none => none) = _; rw [info23]; rfl
@[go_sem] theorem field151_2 : fieldInfo Tryz.prog 151 2 = some (6, 23) := by unfold fieldInfo; rw [Tryz.underlying151]; show (match Tryz.prog.info? 23 with | some i => if i.size = 0 then none else some (6, 23) | none => none) = _; rw [info23]; rfl
attribute [go_sem] Tryz.underlying151
attribute [go_sem] Tryz.underlying152
@[go_sem] theorem zeroA153 : zeroA Tryz.prog 153 = some (.agg [(.int IntKind.i64 0), (.int IntKind.i64 0), (.int IntKind.i64 0), (.int IntKind.i64 0), .emp, .emp]) := by unfold zeroA; rw [info153]; rfl
@[go_sem] theorem field153_0 : fieldInfo Tryz.prog 153 0 = some (0, 50) := by unfold fieldInfo; rw [Tryz.underlying153]; show (match Tryz.prog.info? 50 with | some i => if i.size = 0 then none else some (0, 50) | none => none) = _; rw [info50]; rfl
attribute [go_sem] Tryz.underlying153
attribute [go_sem] Tryz.underlying154
attribute [go_sem] Tryz.underlying155
attribute [go_sem] Tryz.underlying157
attribute [go_sem] Tryz.underlying158
attribute [go_sem] Tryz.underlying159
attribute [go_sem] Tryz.underlying162
attribute [go_sem] Tryz.underlying163
attribute [go_sem] Tryz.underlying164
attribute [go_sem] Tryz.underlying165
attribute [go_sem] Tryz.underlying167
attribute [go_sem] Tryz.underlying170
@[go_sem] theorem takeVar173 (cs : List PV) : takeVar Tryz.prog 173 cs = cs[0]? := by unfold takeVar isAggT; rw [Tryz.underlying173, info173]
attribute [go_sem] Tryz.underlying173
attribute [go_sem] Tryz.underlying174
attribute [go_sem] Tryz.underlying175
attribute [go_sem] Tryz.underlying176
attribute [go_sem] Tryz.underlying184
attribute [go_sem] Tryz.underlying186
attribute [go_sem] Tryz.underlying188
attribute [go_sem] Tryz.underlying189
attribute [go_sem] Tryz.underlying191
attribute [go_sem] Tryz.underlying192
@[go_sem] theorem takeVar194 (cs : List PV) : takeVar Tryz.prog 194 cs = cs[0]? := by unfold takeVar isAggT; rw [Tryz.underlying194, info194]
attribute [go_sem] Tryz.underlying194
@[go_sem] theorem zeroA196 : zeroA Tryz.prog 196 = some (.agg []) := by unfold zeroA; rw [info196]; rfl
attribute [go_sem] Tryz.underlying196
@[go_sem] theorem zeroA197 : zeroA Tryz.prog 197 = some (.agg []) := by unfold zeroA; rw [info197]; rfl
attribute [go_sem] Tryz.underlying197
@[go_sem] theorem zeroA198 : zeroA Tryz.prog 198 = some (.agg []) := by unfold zeroA; rw [info198]; rfl
attribute [go_sem] Tryz.underlying198
@[go_sem] theorem zeroA199 : zeroA Tryz.prog 199 = some (.agg []) := by unfold zeroA; rw [info199]; rfl
attribute [go_sem] Tryz.underlying199
attribute [go_sem] Tryz.underlying200
attribute [go_sem] Tryz.underlying202
attribute [go_sem] Tryz.underlying203
attribute [go_sem] Tryz.underlying207
attribute [go_sem] Tryz.underlying209
attribute [go_sem] Tryz.underlying210
attribute [go_sem] Tryz.underlying211
attribute [go_sem] Tryz.underlying215
attribute [go_sem] Tryz.underlying217
attribute [go_sem] Tryz.underlying218
attribute [go_sem] Tryz.underlying219
attribute [go_sem] Tryz.underlying228
attribute [go_sem] Tryz.underlying229
attribute [go_sem] Tryz.underlying232
attribute [go_sem] Tryz.underlying234
attribute [go_sem] Tryz.underlying238
attribute [go_sem] Tryz.underlying240
attribute [go_sem] Tryz.underlying244
attribute [go_sem] Tryz.underlying245
attribute [go_sem] Tryz.underlying247
@[go_sem] theorem buildA29 (ps : List (Nat × PV)) : buildA Tryz.prog 29 ps = (match fillL [(0, 1), (1, 1)] [(.int IntKind.i64 0), (.int IntKind.i64 0)] ps with | some cs => some (.agg cs) | none => none) := buildA_of zeroA29 (placesA_struct Tryz.underlying29 (by simp only [List.all_cons, List.all_nil, has3, Bool.and_self]) (by simp only [List.map_cons, List.map_nil, cellsOf3])) ps
@[go_sem] theorem buildA33 (ps : List (Nat × PV)) : buildA Tryz.prog 33 ps = (match fillL [(0, 1), (1, 1), (2, 1)] [.emp, .emp, .emp] ps with | some cs => some (.agg cs) | none => none) := buildA_of zeroA33 (placesA_struct Tryz.underlying33 (by simp only [List.all_cons, List.all_nil, has31, Bool.and_self]) (by simp only [List.map_cons, List.map_nil, cellsOf31])) ps
@[go_sem] theorem buildA50 (ps : List (Nat × PV)) : buildA Tryz.prog 50 ps = (match fillL [(0, 1), (1, 1), (2, 2), (4, 1)] [(.int IntKind.i64 0), (.int IntKind.i64 0), (.int IntKind.i64 0), (.int IntKind.i64 0), .emp] ps with | some cs => some (.agg cs) | none => none) := buildA_of zeroA50 (placesA_struct Tryz.underlying50 (by simp only [List.all_cons, List.all_nil, has3, has29, has48, Bool.and_self]) (by simp only [List.map_cons, List.map_nil, cellsOf3, cellsOf29, cellsOf48])) ps
@[go_sem] theorem buildA52 (ps : List (Nat × PV)) : buildA Tryz.prog 52 ps = (match fillL [(0, 1), (1, 2), (3, 5), (8, 1), (9, 1)] [(.int IntKind.i64 0), (.int IntKind.i64 0), (.int IntKind.i64 0), (.int IntKind.i64 0), (.int IntKind.i64 0), (.int IntKind.i64 0), (.int IntKind.i64 0), .emp, .emp, .emp] ps with | some cs => some (.agg cs) | none => none) := buildA_of zeroA52 (placesA_struct Tryz.underlying52 (by simp only [List.all_cons, List.all_nil, has3, has23, has29, has50, Bool.and_self]) (by simp only [List.map_cons, List.map_nil, cellsOf3, cellsOf23, cellsOf29, cellsOf50])) ps
@[go_sem] theorem buildA78 (ps : List (Nat × PV)) : buildA Tryz.prog 78 ps = (match fillL [(0, 1)] [.emp] ps with | some cs => some (.agg cs) | none => none) := buildA_of zeroA78 (placesA_struct Tryz.underlying78 (by simp only [List.all_cons, List.all_nil, has41, Bool.and_self]) (by simp only [List.map_cons, List.map_nil, cellsOf41])) ps
@[go_sem] theorem buildA81 (ps : List (Nat × PV)) : buildA Tryz.prog 81 ps = (match fillL [(0, 1), (1, 1), (2, 2)] [(.int IntKind.i64 0), (.int IntKind.i64 0), (.int IntKind.i64 0), (.int IntKind.i64 0)] ps with | some cs => some (.agg cs) | none => none) := buildA_of zeroA81 (placesA_struct Tryz.underlying81 (by simp only [List.all_cons, List.all_nil, has3, has29, Bool.and_self]) (by simp only [List.map_cons, List.map_nil, cellsOf3, cellsOf29])) ps
@[go_sem] theorem buildA88 (ps : List (Nat × PV)) : buildA Tryz.prog 88 ps = (match fillL [(0, 1), (1, 12), (13, 1), (14, 1), (15, 1)] [.nilp, (.int IntKind.i64 0), (.int IntKind.i64 0), (.int IntKind.i64 0), (.int IntKind.i64 0), (.int IntKind.i64 0), (.int IntKind.i64 0), (.int IntKind.i64 0), (.int IntKind.i64 0), (.int IntKind.i64 0), (.int IntKind.i64 0), (.int IntKind.i64 0), (.int IntKind.i64 0), (.int IntKind.i64 0), (.int IntKind.i64 0), (.int IntKind.i64 0)] ps with | some cs => some (.agg cs) | none => none) := buildA_of zeroA88 (placesA_struct Tryz.underlying88 (by simp only [List.all_cons, List.all_nil, has3, has63, has86, Bool.and_self]) (by simp only [List.map_cons, List.map_nil, cellsOf3, cellsOf63, cellsOf86])) ps
@[go_sem] theorem buildA100 (ps : List (Nat × PV)) : buildA Tryz.prog 100 ps = (match fillL [(0, 1), (1, 1)] [.emp, (.int IntKind.i64 0)] ps with | some cs => some (.agg cs) | none => none) := buildA_of zeroA100 (placesA_struct Tryz.underlying100 (by simp only [List.all_cons, List.all_nil, has3, has22, Bool.and_self]) (by simp only [List.map_cons, List.map_nil, cellsOf3, cellsOf22])) ps
@[go_sem] theorem buildA122 (ps : List (Nat × PV)) : buildA Tryz.prog 122 ps = (match fillL [(0, 18)] [(.int IntKind.i64 0), (.int IntKind.i64 0), (.int IntKind.i64 0), (.int IntKind.i64 0), (.int IntKind.i64 0), (.int IntKind.i64 0), (.int IntKind.i64 0), (.int IntKind.i64 0), (.int IntKind.i64 0), (.int IntKind.i64 0), (.int IntKind.i64 0), (.int IntKind.i64 0), (.int IntKind.i64 0), (.int IntKind.i64 0), (.int IntKind.i64 0), (.int IntKind.i64 0), (.int IntKind.i64 0), (.int IntKind.i64 0)] ps with | some cs => some (.agg cs) | none => none) := buildA_of zeroA122 (placesA_struct Tryz.underlying122 (by simp only [List.all_cons, List.all_nil, has120, Bool.and_self]) (by simp only [List.map_cons, List.map_nil, cellsOf120])) ps
@[go_sem] theorem buildA149 (ps : List (Nat × PV)) : buildA Tryz.prog 149 ps = (match fillL [(0, 2), (2, 5)] [(.int IntKind.i64 0), (.int IntKind.i64 0), (.int IntKind.i64 0), (.int IntKind.i64 0), (.int IntKind.i64 0), (.int IntKind.i64 0), .emp] ps with | some cs => some (.agg cs) | none => none) := buildA_of zeroA149 (placesA_struct Tryz.underlying149 (by simp only [List.all_cons, List.all_nil, has29, has50, Bool.and_self]) (by simp only [List.map_cons, List.map_nil, cellsOf29, cellsOf50])) ps
@[go_sem] theorem buildA151 (ps : List (Nat × PV)) : buildA Tryz.prog 151 ps = (match fillL [(0, 5), (5, 1), (6, 1)] [(.int IntKind.i64 0), (.int IntKind.i64 0), (.int IntKind.i64 0), (.int IntKind.i64 0), .emp, .emp, .emp] ps with | some cs => some (.agg cs) | none => none) := buildA_of zeroA151 (placesA_struct Tryz.underlying151 (by simp only [List.all_cons, List.all_nil, has23, has50, Bool.and_self]) (by simp only [List.map_cons, List.map_nil, cellsOf23, cellsOf50])) ps
@[go_sem] theorem buildA153 (ps : List (Nat × PV)) : buildA Tryz.prog 153 ps = (match fillL [(0, 5), (5, 1)] [(.int IntKind.i64 0), (.int IntKind.i64 0), (.int IntKind.i64 0), (.int IntKind.i64 0), .emp, .emp] ps with | some cs => some (.agg cs) | none => none) := buildA_of zeroA153 (placesA_struct Tryz.underlying153 (by simp only [List.all_cons, List.all_nil, has23, has50, Bool.and_self]) (by simp only [List.map_cons, List.map_nil, cellsOf23, cellsOf50])) ps
end Go.Proofs.YtmicbfojofcigaaGreatDoor
