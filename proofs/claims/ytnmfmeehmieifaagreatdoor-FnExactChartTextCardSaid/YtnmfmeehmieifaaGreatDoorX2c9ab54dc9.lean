/- A part of a proof: lemmas and contracts of functions; the last text of the claim says what is proved. -/
import Derived.Test.YtnmfmeehmieifaaGreatDoorXc8cfc4d68a
import Derived.Test.YtnmfmeehmieifaaGreatDoorChecked
set_option linter.unusedSectionVars false
set_option linter.unusedSimpArgs false
set_option linter.unusedVariables false
namespace Go.Proofs.YtnmfmeehmieifaaGreatDoor
open Go Sg
set_option maxRecDepth 100000
theorem info3 : Tryz.prog.info? 3 = some Tryz.t3 := by unfold Tables.info?; exact Tryz.type3
theorem info4 : Tryz.prog.info? 4 = some Tryz.t4 := by unfold Tables.info?; exact Tryz.type4
theorem info5 : Tryz.prog.info? 5 = some Tryz.t5 := by unfold Tables.info?; exact Tryz.type5
theorem info9 : Tryz.prog.info? 9 = some Tryz.t9 := by unfold Tables.info?; exact Tryz.type9
theorem info22 : Tryz.prog.info? 22 = some Tryz.t22 := by unfold Tables.info?; exact Tryz.type22
theorem info39 : Tryz.prog.info? 39 = some Tryz.t39 := by unfold Tables.info?; exact Tryz.type39
theorem info40 : Tryz.prog.info? 40 = some Tryz.t40 := by unfold Tables.info?; exact Tryz.type40
theorem info42 : Tryz.prog.info? 42 = some Tryz.t42 := by unfold Tables.info?; exact Tryz.type42
theorem info45 : Tryz.prog.info? 45 = some Tryz.t45 := by unfold Tables.info?; exact Tryz.type45
theorem info46 : Tryz.prog.info? 46 = some Tryz.t46 := by unfold Tables.info?; exact Tryz.type46
theorem info48 : Tryz.prog.info? 48 = some Tryz.t48 := by unfold Tables.info?; exact Tryz.type48
theorem info55 : Tryz.prog.info? 55 = some Tryz.t55 := by unfold Tables.info?; exact Tryz.type55
theorem info56 : Tryz.prog.info? 56 = some Tryz.t56 := by unfold Tables.info?; exact Tryz.type56
theorem info58 : Tryz.prog.info? 58 = some Tryz.t58 := by unfold Tables.info?; exact Tryz.type58
theorem info65 : Tryz.prog.info? 65 = some Tryz.t65 := by unfold Tables.info?; exact Tryz.type65
theorem info66 : Tryz.prog.info? 66 = some Tryz.t66 := by unfold Tables.info?; exact Tryz.type66
theorem info68 : Tryz.prog.info? 68 = some Tryz.t68 := by unfold Tables.info?; exact Tryz.type68
theorem info90 : Tryz.prog.info? 90 = some Tryz.t90 := by unfold Tables.info?; exact Tryz.type90
theorem info94 : Tryz.prog.info? 94 = some Tryz.t94 := by unfold Tables.info?; exact Tryz.type94
theorem info95 : Tryz.prog.info? 95 = some Tryz.t95 := by unfold Tables.info?; exact Tryz.type95
theorem info131 : Tryz.prog.info? 131 = some Tryz.t131 := by unfold Tables.info?; exact Tryz.type131
theorem info139 : Tryz.prog.info? 139 = some Tryz.t139 := by unfold Tables.info?; exact Tryz.type139
theorem info172 : Tryz.prog.info? 172 = some Tryz.t172 := by unfold Tables.info?; exact Tryz.type172
theorem info196 : Tryz.prog.info? 196 = some Tryz.t196 := by unfold Tables.info?; exact Tryz.type196
theorem info198 : Tryz.prog.info? 198 = some Tryz.t198 := by unfold Tables.info?; exact Tryz.type198
theorem info199 : Tryz.prog.info? 199 = some Tryz.t199 := by unfold Tables.info?; exact Tryz.type199
theorem info200 : Tryz.prog.info? 200 = some Tryz.t200 := by unfold Tables.info?; exact Tryz.type200
theorem info201 : Tryz.prog.info? 201 = some Tryz.t201 := by unfold Tables.info?; exact Tryz.type201
attribute [go_sem] Tryz.underlying1
attribute [go_sem] Tryz.underlying2
@[go_sem] theorem has3 : (Tryz.prog.info? 3).isSome = true := by rw [info3]; rfl
@[go_sem] theorem cellsOf3 : Tryz.prog.cellsOf 3 = 1 := by unfold Program.cellsOf; rw [info3]; rfl
@[go_sem] theorem bytesOf3 : bytesOf Tryz.prog 3 = 8 := by unfold bytesOf; rw [info3]; rfl
@[go_sem] theorem takeVar3 (cs : List PV) : takeVar Tryz.prog 3 cs = cs[0]? := by unfold takeVar isAggT; rw [Tryz.underlying3, info3]
@[go_sem] theorem partA3 (cs : List PV) (k : Nat) : partA Tryz.prog 3 cs k = cs[k]? := by unfold partA isAggT; rw [Tryz.underlying3, info3]
@[go_sem] theorem zeroA3 : zeroA Tryz.prog 3 = some (.int IntKind.i64 0) := by unfold zeroA; rw [info3]; rfl
@[go_sem] theorem zeroOk3 : zeroOk Tryz.prog 3 = true := by unfold zeroOk; rw [zeroA3, cellsOf3]; rfl
attribute [go_sem] Tryz.underlying3
@[go_sem] theorem cellsOf4 : Tryz.prog.cellsOf 4 = 1 := by unfold Program.cellsOf; rw [info4]; rfl
@[go_sem] theorem takeVar4 (cs : List PV) : takeVar Tryz.prog 4 cs = cs[0]? := by unfold takeVar isAggT; rw [Tryz.underlying4, info4]
@[go_sem] theorem zeroA4 : zeroA Tryz.prog 4 = some (.bool false) := by unfold zeroA; rw [info4]; rfl
attribute [go_sem] Tryz.underlying4
@[go_sem] theorem cellsOf5 : Tryz.prog.cellsOf 5 = 1 := by unfold Program.cellsOf; rw [info5]; rfl
@[go_sem] theorem zeroA5 : zeroA Tryz.prog 5 = some (.int IntKind.u8 0) := by unfold zeroA; rw [info5]; rfl
@[go_sem] theorem zeroOk5 : zeroOk Tryz.prog 5 = true := by unfold zeroOk; rw [zeroA5, cellsOf5]; rfl
attribute [go_sem] Tryz.underlying5
attribute [go_sem] Tryz.underlying6
attribute [go_sem] Tryz.underlying7
attribute [go_sem] Tryz.underlying8
@[go_sem] theorem has9 : (Tryz.prog.info? 9).isSome = true := by rw [info9]; rfl
@[go_sem] theorem cellsOf9 : Tryz.prog.cellsOf 9 = 1 := by unfold Program.cellsOf; rw [info9]; rfl
@[go_sem] theorem bytesOf9 : bytesOf Tryz.prog 9 = 16 := by unfold bytesOf; rw [info9]; rfl
@[go_sem] theorem takeVar9 (cs : List PV) : takeVar Tryz.prog 9 cs = cs[0]? := by unfold takeVar isAggT; rw [Tryz.underlying9, info9]
@[go_sem] theorem zeroA9 : zeroA Tryz.prog 9 = some (.str ({ data := #[] })) := by unfold zeroA; rw [info9]; rfl
@[go_sem] theorem zeroOk9 : zeroOk Tryz.prog 9 = true := by unfold zeroOk; rw [zeroA9, cellsOf9]; rfl
attribute [go_sem] Tryz.underlying9
attribute [go_sem] Tryz.underlying10
attribute [go_sem] Tryz.underlying11
attribute [go_sem] Tryz.underlying13
attribute [go_sem] Tryz.underlying14
attribute [go_sem] Tryz.underlying16
attribute [go_sem] Tryz.underlying18
attribute [go_sem] Tryz.underlying19
attribute [go_sem] Tryz.underlying20
@[go_sem] theorem cellsOf22 : Tryz.prog.cellsOf 22 = 1 := by unfold Program.cellsOf; rw [info22]; rfl
@[go_sem] theorem takeVar22 (cs : List PV) : takeVar Tryz.prog 22 cs = cs[0]? := by unfold takeVar isAggT; rw [Tryz.underlying22, info22]
attribute [go_sem] Tryz.underlying22
attribute [go_sem] Tryz.underlying25
attribute [go_sem] Tryz.underlying27
attribute [go_sem] Tryz.underlying28
attribute [go_sem] Tryz.underlying30
attribute [go_sem] Tryz.underlying31
attribute [go_sem] Tryz.underlying32
attribute [go_sem] Tryz.underlying33
attribute [go_sem] Tryz.underlying35
attribute [go_sem] Tryz.underlying36
attribute [go_sem] Tryz.underlying38
@[go_sem] theorem cellsOf39 : Tryz.prog.cellsOf 39 = 1 := by unfold Program.cellsOf; rw [info39]; rfl
@[go_sem] theorem takeVar39 (cs : List PV) : takeVar Tryz.prog 39 cs = cs[0]? := by unfold takeVar isAggT; rw [Tryz.underlying39, info39]
attribute [go_sem] Tryz.underlying39
@[go_sem] theorem cellsOf40 : Tryz.prog.cellsOf 40 = 1 := by unfold Program.cellsOf; rw [info40]; rfl
@[go_sem] theorem takeVar40 (cs : List PV) : takeVar Tryz.prog 40 cs = cs[0]? := by unfold takeVar isAggT; rw [Tryz.underlying40, info40]
attribute [go_sem] Tryz.underlying40
attribute [go_sem] Tryz.underlying41
@[go_sem] theorem cellsOf42 : Tryz.prog.cellsOf 42 = 3 := by unfold Program.cellsOf; rw [info42]; rfl
@[go_sem] theorem takeVar42 (cs : List PV) : takeVar Tryz.prog 42 cs = if 3 ≤ cs.length then some (.agg (cs.take 3)) else none := by unfold takeVar isAggT; rw [Tryz.underlying42, info42]; rfl
@[go_sem] theorem field42_0 : fieldInfo Tryz.prog 42 0 = some (0, 3) := by unfold fieldInfo; rw [Tryz.underlying42]; show (match Tryz.prog.info? 3 with | some i => if i.size = 0 then none else some (0, 3) | none => none) = _; rw [info3]; rfl
@[go_sem] theorem field42_1 : fieldInfo Tryz.prog 42 1 = some (1, 39) := by unfold fieldInfo; rw [Tryz.underlying42]; show (match Tryz.prog.info? 39 with | some i => if i.size = 0 then none else some (1, 39) | none => none) = _; rw [info39]; rfl
@[go_sem] theorem field42_2 : fieldInfo Tryz.prog 42 2 = some (2, 40) := by unfold fieldInfo; rw [Tryz.underlying42]; show (match Tryz.prog.info? 40 with | some i => if i.size = 0 then none else some (2, 40) | none => none) = _; rw [info40]; rfl
attribute [go_sem] Tryz.underlying42
attribute [go_sem] Tryz.underlying43
attribute [go_sem] Tryz.underlying44
@[go_sem] theorem cellsOf45 : Tryz.prog.cellsOf 45 = 1 := by unfold Program.cellsOf; rw [info45]; rfl
@[go_sem] theorem takeVar45 (cs : List PV) : takeVar Tryz.prog 45 cs = cs[0]? := by unfold takeVar isAggT; rw [Tryz.underlying45, info45]
attribute [go_sem] Tryz.underlying45
@[go_sem] theorem cellsOf46 : Tryz.prog.cellsOf 46 = 1 := by unfold Program.cellsOf; rw [info46]; rfl
@[go_sem] theorem takeVar46 (cs : List PV) : takeVar Tryz.prog 46 cs = cs[0]? := by unfold takeVar isAggT; rw [Tryz.underlying46, info46]
attribute [go_sem] Tryz.underlying46
attribute [go_sem] Tryz.underlying47
@[go_sem] theorem cellsOf48 : Tryz.prog.cellsOf 48 = 3 := by unfold Program.cellsOf; rw [info48]; rfl
@[go_sem] theorem takeVar48 (cs : List PV) : takeVar Tryz.prog 48 cs = if 3 ≤ cs.length then some (.agg (cs.take 3)) else none := by unfold takeVar isAggT; rw [Tryz.underlying48, info48]; rfl
@[go_sem] theorem zeroA48 : zeroA Tryz.prog 48 = some (.agg [(.int IntKind.i64 0), .emp, .emp]) := by unfold zeroA; rw [info48]; rfl
@[go_sem] theorem field48_0 : fieldInfo Tryz.prog 48 0 = some (0, 3) := by unfold fieldInfo; rw [Tryz.underlying48]; show (match Tryz.prog.info? 3 with | some i => if i.size = 0 then none else some (0, 3) | none => none) = _; rw [info3]; rfl
@[go_sem] theorem field48_1 : fieldInfo Tryz.prog 48 1 = some (1, 45) := by unfold fieldInfo; rw [Tryz.underlying48]; show (match Tryz.prog.info? 45 with | some i => if i.size = 0 then none else some (1, 45) | none => none) = _; rw [info45]; rfl
@[go_sem] theorem field48_2 : fieldInfo Tryz.prog 48 2 = some (2, 46) := by unfold fieldInfo; rw [Tryz.underlying48]; show (match Tryz.prog.info? 46 with | some i => if i.size = 0 then none else some (2, 46) | none => none) = _; rw [info46]; rfl
attribute [go_sem] Tryz.underlying48
attribute [go_sem] Tryz.underlying49
attribute [go_sem] Tryz.underlying50
attribute [go_sem] Tryz.underlying51
attribute [go_sem] Tryz.underlying52
attribute [go_sem] Tryz.underlying53
attribute [go_sem] Tryz.underlying54
@[go_sem] theorem cellsOf55 : Tryz.prog.cellsOf 55 = 2 := by unfold Program.cellsOf; rw [info55]; rfl
@[go_sem] theorem takeVar55 (cs : List PV) : takeVar Tryz.prog 55 cs = if 2 ≤ cs.length then some (.agg (cs.take 2)) else none := by unfold takeVar isAggT; rw [Tryz.underlying55, info55]; rfl
@[go_sem] theorem field55_0 : fieldInfo Tryz.prog 55 0 = some (0, 3) := by unfold fieldInfo; rw [Tryz.underlying55]; show (match Tryz.prog.info? 3 with | some i => if i.size = 0 then none else some (0, 3) | none => none) = _; rw [info3]; rfl
@[go_sem] theorem field55_1 : fieldInfo Tryz.prog 55 1 = some (1, 3) := by unfold fieldInfo; rw [Tryz.underlying55]; show (match Tryz.prog.info? 3 with | some i => if i.size = 0 then none else some (1, 3) | none => none) = _; rw [info3]; rfl
attribute [go_sem] Tryz.underlying55
@[go_sem] theorem cellsOf56 : Tryz.prog.cellsOf 56 = 1 := by unfold Program.cellsOf; rw [info56]; rfl
@[go_sem] theorem takeVar56 (cs : List PV) : takeVar Tryz.prog 56 cs = cs[0]? := by unfold takeVar isAggT; rw [Tryz.underlying56, info56]
attribute [go_sem] Tryz.underlying56
attribute [go_sem] Tryz.underlying57
@[go_sem] theorem cellsOf58 : Tryz.prog.cellsOf 58 = 5 := by unfold Program.cellsOf; rw [info58]; rfl
@[go_sem] theorem takeVar58 (cs : List PV) : takeVar Tryz.prog 58 cs = if 5 ≤ cs.length then some (.agg (cs.take 5)) else none := by unfold takeVar isAggT; rw [Tryz.underlying58, info58]; rfl
@[go_sem] theorem field58_0 : fieldInfo Tryz.prog 58 0 = some (0, 3) := by unfold fieldInfo; rw [Tryz.underlying58]; show (match Tryz.prog.info? 3 with | some i => if i.size = 0 then none else some (0, 3) | none => none) = _; rw [info3]; rfl
@[go_sem] theorem field58_1 : fieldInfo Tryz.prog 58 1 = some (1, 3) := by unfold fieldInfo; rw [Tryz.underlying58]; show (match Tryz.prog.info? 3 with | some i => if i.size = 0 then none else some (1, 3) | none => none) = _; rw [info3]; rfl
@[go_sem] theorem field58_2 : fieldInfo Tryz.prog 58 2 = some (2, 55) := by unfold fieldInfo; rw [Tryz.underlying58]; show (match Tryz.prog.info? 55 with | some i => if i.size = 0 then none else some (2, 55) | none => none) = _; rw [info55]; rfl
@[go_sem] theorem field58_3 : fieldInfo Tryz.prog 58 3 = some (4, 56) := by unfold fieldInfo; rw [Tryz.underlying58]; show (match Tryz.prog.info? 56 with | some i => if i.size = 0 then none else some (4, 56) | none => none) = _; rw [info56]; rfl
attribute [go_sem] Tryz.underlying58
attribute [go_sem] Tryz.underlying59
attribute [go_sem] Tryz.underlying60
attribute [go_sem] Tryz.underlying62
attribute [go_sem] Tryz.underlying64
@[go_sem] theorem cellsOf65 : Tryz.prog.cellsOf 65 = 2 := by unfold Program.cellsOf; rw [info65]; rfl
@[go_sem] theorem takeVar65 (cs : List PV) : takeVar Tryz.prog 65 cs = if 2 ≤ cs.length then some (.agg (cs.take 2)) else none := by unfold takeVar isAggT; rw [Tryz.underlying65, info65]; rfl
@[go_sem] theorem zeroA65 : zeroA Tryz.prog 65 = some (.agg [(.int IntKind.i64 0), (.int IntKind.i64 0)]) := by unfold zeroA; rw [info65]; rfl
@[go_sem] theorem field65_0 : fieldInfo Tryz.prog 65 0 = some (0, 3) := by unfold fieldInfo; rw [Tryz.underlying65]; show (match Tryz.prog.info? 3 with | some i => if i.size = 0 then none else some (0, 3) | none => none) = _; rw [info3]; rfl
@[go_sem] theorem field65_1 : fieldInfo Tryz.prog 65 1 = some (1, 3) := by unfold fieldInfo; rw [Tryz.underlying65]; show (match Tryz.prog.info? 3 with | some i => if i.size = 0 then none else some (1, 3) | none => none) = _; rw [info3]; rfl
attribute [go_sem] Tryz.underlying65
@[go_sem] theorem cellsOf66 : Tryz.prog.cellsOf 66 = 1 := by unfold Program.cellsOf; rw [info66]; rfl
@[go_sem] theorem takeVar66 (cs : List PV) : takeVar Tryz.prog 66 cs = cs[0]? := by unfold takeVar isAggT; rw [Tryz.underlying66, info66]
attribute [go_sem] Tryz.underlying66
@[go_sem] theorem has68 : (Tryz.prog.info? 68).isSome = true := by rw [info68]; rfl
@[go_sem] theorem cellsOf68 : Tryz.prog.cellsOf 68 = 5 := by unfold Program.cellsOf; rw [info68]; rfl
@[go_sem] theorem bytesOf68 : bytesOf Tryz.prog 68 = 56 := by unfold bytesOf; rw [info68]; rfl
@[go_sem] theorem takeVar68 (cs : List PV) : takeVar Tryz.prog 68 cs = if 5 ≤ cs.length then some (.agg (cs.take 5)) else none := by unfold takeVar isAggT; rw [Tryz.underlying68, info68]; rfl
@[go_sem] theorem zeroA68 : zeroA Tryz.prog 68 = some (.agg [(.int IntKind.i64 0), (.int IntKind.i64 0), (.int IntKind.i64 0), (.int IntKind.i64 0), .emp]) := by unfold zeroA; rw [info68]; rfl
@[go_sem] theorem zeroOk68 : zeroOk Tryz.prog 68 = true := by unfold zeroOk; rw [zeroA68, cellsOf68]; rfl
@[go_sem] theorem field68_0 : fieldInfo Tryz.prog 68 0 = some (0, 3) := by unfold fieldInfo; rw [Tryz.underlying68]; show (match Tryz.prog.info? 3 with | some i => if i.size = 0 then none else some (0, 3) | none => none) = _; rw [info3]; rfl
@[go_sem] theorem field68_1 : fieldInfo Tryz.prog 68 1 = some (1, 3) := by unfold fieldInfo; rw [Tryz.underlying68]; show (match Tryz.prog.info? 3 with | some i => if i.size = 0 then none else some (1, 3) | none => none) = _; rw [info3]; rfl
@[go_sem] theorem field68_2 : fieldInfo Tryz.prog 68 2 = some (2, 65) := by unfold fieldInfo; rw [Tryz.underlying68]; show (match Tryz.prog.info? 65 with | some i => if i.size = 0 then none else some (2, 65) | none => none) = _; rw [info65]; rfl
@[go_sem] theorem field68_3 : fieldInfo Tryz.prog 68 3 = some (4, 66) := by unfold fieldInfo; rw [Tryz.underlying68]; show (match Tryz.prog.info? 66 with | some i => if i.size = 0 then none else some (4, 66) | none => none) = _; rw [info66]; rfl
attribute [go_sem] Tryz.underlying68
attribute [go_sem] Tryz.underlying70
attribute [go_sem] Tryz.underlying71
attribute [go_sem] Tryz.underlying72
attribute [go_sem] Tryz.underlying74
attribute [go_sem] Tryz.underlying75
attribute [go_sem] Tryz.underlying76
attribute [go_sem] Tryz.underlying77
attribute [go_sem] Tryz.underlying79
attribute [go_sem] Tryz.underlying83
attribute [go_sem] Tryz.underlying85
attribute [go_sem] Tryz.underlying86
attribute [go_sem] Tryz.underlying87
attribute [go_sem] Tryz.underlying89
@[go_sem] theorem has90 : (Tryz.prog.info? 90).isSome = true := by rw [info90]; rfl
@[go_sem] theorem cellsOf90 : Tryz.prog.cellsOf 90 = 7 := by unfold Program.cellsOf; rw [info90]; rfl
@[go_sem] theorem bytesOf90 : bytesOf Tryz.prog 90 = 104 := by unfold bytesOf; rw [info90]; rfl
@[go_sem] theorem takeVar90 (cs : List PV) : takeVar Tryz.prog 90 cs = if 7 ≤ cs.length then some (.agg (cs.take 7)) else none := by unfold takeVar isAggT; rw [Tryz.underlying90, info90]; rfl
@[go_sem] theorem zeroA90 : zeroA Tryz.prog 90 = some (.agg [.emp, .emp, (.int IntKind.i64 0), (.int IntKind.i64 0), (.int IntKind.i64 0), (.int IntKind.i64 0), .emp]) := by unfold zeroA; rw [info90]; rfl
@[go_sem] theorem zeroOk90 : zeroOk Tryz.prog 90 = true := by unfold zeroOk; rw [zeroA90, cellsOf90]; rfl
@[go_sem] theorem field90_0 : fieldInfo Tryz.prog 90 0 = some (0, 22) := by unfold fieldInfo; rw [Tryz.underlying90]; show (match Tryz.prog.info? 22 with | some i => if i.size = 0 then none else some (0, 22) | none => none) = _; rw [info22]; rfl
@[go_sem] theorem field90_1 : fieldInfo Tryz.prog 90 1 = some (1, 22) := by unfold fieldInfo; rw [Tryz.underlying90]; show (match Tryz.prog.info? 22 with | some i => if i.size = 0 then none else some (1, 22) | none => none) = _; rw [info22]; rfl
@[go_sem] theorem field90_2 : fieldInfo Tryz.prog 90 2 = some (2, 68) := by unfold fieldInfo; rw [Tryz.underlying90]; show (match Tryz.prog.info? 68 with | some i => if i.size = 0 then none else some (2, 68) | none => none) = _; rw [info68]; rfl
attribute [go_sem] Tryz.underlying90
attribute [go_sem] Tryz.underlying92
@[go_sem] theorem has94 : (Tryz.prog.info? 94).isSome = true := by rw [info94]; rfl
@[go_sem] theorem cellsOf94 : Tryz.prog.cellsOf 94 = 4 := by unfold Program.cellsOf; rw [info94]; rfl
@[go_sem] theorem bytesOf94 : bytesOf Tryz.prog 94 = 32 := by unfold bytesOf; rw [info94]; rfl
@[go_sem] theorem takeVar94 (cs : List PV) : takeVar Tryz.prog 94 cs = if 4 ≤ cs.length then some (.agg (cs.take 4)) else none := by unfold takeVar isAggT; rw [Tryz.underlying94, info94]; rfl
@[go_sem] theorem zeroA94 : zeroA Tryz.prog 94 = some (.agg [(.int IntKind.i64 0), (.int IntKind.i64 0), (.int IntKind.i64 0), (.int IntKind.i64 0)]) := by unfold zeroA; rw [info94]; rfl
@[go_sem] theorem zeroOk94 : zeroOk Tryz.prog 94 = true := by unfold zeroOk; rw [zeroA94, cellsOf94]; rfl
@[go_sem] theorem field94_0 : fieldInfo Tryz.prog 94 0 = some (0, 3) := by unfold fieldInfo; rw [Tryz.underlying94]; show (match Tryz.prog.info? 3 with | some i => if i.size = 0 then none else some (0, 3) | none => none) = _; rw [info3]; rfl
@[go_sem] theorem field94_1 : fieldInfo Tryz.prog 94 1 = some (1, 3) := by unfold fieldInfo; rw [Tryz.underlying94]; show (match Tryz.prog.info? 3 with | some i => if i.size = 0 then none else some (1, 3) | none => none) = _; rw [info3]; rfl
@[go_sem] theorem field94_2 : fieldInfo Tryz.prog 94 2 = some (2, 65) := by unfold fieldInfo; rw [Tryz.underlying94]; show (match Tryz.prog.info? 65 with | some i => if i.size = 0 then none else some (2, 65) | none => none) = _; rw [info65]; rfl
attribute [go_sem] Tryz.underlying94
@[go_sem] theorem cellsOf95 : Tryz.prog.cellsOf 95 = 1 := by unfold Program.cellsOf; rw [info95]; rfl
@[go_sem] theorem takeVar95 (cs : List PV) : takeVar Tryz.prog 95 cs = cs[0]? := by unfold takeVar isAggT; rw [Tryz.underlying95, info95]
@[go_sem] theorem zeroA95 : zeroA Tryz.prog 95 = some .emp := by unfold zeroA; rw [info95]; rfl
attribute [go_sem] Tryz.underlying95
attribute [go_sem] Tryz.underlying96
attribute [go_sem] Tryz.underlying97
attribute [go_sem] Tryz.underlying98
attribute [go_sem] Tryz.underlying99
attribute [go_sem] Tryz.underlying100
attribute [go_sem] Tryz.underlying101
attribute [go_sem] Tryz.underlying102
attribute [go_sem] Tryz.underlying103
attribute [go_sem] Tryz.underlying104
attribute [go_sem] Tryz.underlying105
attribute [go_sem] Tryz.underlying106
attribute [go_sem] Tryz.underlying107
attribute [go_sem] Tryz.underlying108
attribute [go_sem] Tryz.underlying109
attribute [go_sem] Tryz.underlying110
attribute [go_sem] Tryz.underlying111
attribute [go_sem] Tryz.underlying112
attribute [go_sem] Tryz.underlying113
attribute [go_sem] Tryz.underlying114
attribute [go_sem] Tryz.underlying115
attribute [go_sem] Tryz.underlying116
attribute [go_sem] Tryz.underlying117
attribute [go_sem] Tryz.underlying118
attribute [go_sem] Tryz.underlying119
attribute [go_sem] Tryz.underlying120
attribute [go_sem] Tryz.underlying121
attribute [go_sem] Tryz.underlying122
attribute [go_sem] Tryz.underlying126
attribute [go_sem] Tryz.underlying128
attribute [go_sem] Tryz.underlying129
attribute [go_sem] Tryz.underlying130
@[go_sem] theorem cellsOf131 : Tryz.prog.cellsOf 131 = 7 := by unfold Program.cellsOf; rw [info131]; rfl
@[go_sem] theorem takeVar131 (cs : List PV) : takeVar Tryz.prog 131 cs = if 7 ≤ cs.length then some (.agg (cs.take 7)) else none := by unfold takeVar isAggT; rw [Tryz.underlying131, info131]; rfl
@[go_sem] theorem field131_0 : fieldInfo Tryz.prog 131 0 = some (0, 22) := by unfold fieldInfo; rw [Tryz.underlying131]; show (match Tryz.prog.info? 22 with | some i => if i.size = 0 then none else some (0, 22) | none => none) = _; rw [info22]; rfl
@[go_sem] theorem field131_1 : fieldInfo Tryz.prog 131 1 = some (1, 22) := by unfold fieldInfo; rw [Tryz.underlying131]; show (match Tryz.prog.info? 22 with | some i => if i.size = 0 then none else some (1, 22) | none => none) = _; rw [info22]; rfl
@[go_sem] theorem field131_2 : fieldInfo Tryz.prog 131 2 = some (2, 58) := by unfold fieldInfo; rw [Tryz.underlying131]; show (match Tryz.prog.info? 58 with | some i => if i.size = 0 then none else some (2, 58) | none => none) = _; rw [info58]; rfl
attribute [go_sem] Tryz.underlying131
attribute [go_sem] Tryz.underlying133
attribute [go_sem] Tryz.underlying135
@[go_sem] theorem cellsOf139 : Tryz.prog.cellsOf 139 = 4 := by unfold Program.cellsOf; rw [info139]; rfl
@[go_sem] theorem takeVar139 (cs : List PV) : takeVar Tryz.prog 139 cs = if 4 ≤ cs.length then some (.agg (cs.take 4)) else none := by unfold takeVar isAggT; rw [Tryz.underlying139, info139]; rfl
@[go_sem] theorem field139_0 : fieldInfo Tryz.prog 139 0 = some (0, 3) := by unfold fieldInfo; rw [Tryz.underlying139]; show (match Tryz.prog.info? 3 with | some i => if i.size = 0 then none else some (0, 3) | none => none) = _; rw [info3]; rfl
@[go_sem] theorem field139_1 : fieldInfo Tryz.prog 139 1 = some (1, 3) := by unfold fieldInfo; rw [Tryz.underlying139]; show (match Tryz.prog.info? 3 with | some i => if i.size = 0 then none else some (1, 3) | none => none) = _; rw [info3]; rfl
@[go_sem] theorem field139_2 : fieldInfo Tryz.prog 139 2 = some (2, 55) := by unfold fieldInfo; rw [Tryz.underlying139]; show (match Tryz.prog.info? 55 with | some i => if i.size = 0 then none else some (2, 55) | none => none) = _; rw [info55]; rfl
attribute [go_sem] Tryz.underlying139
attribute [go_sem] Tryz.underlying141
attribute [go_sem] Tryz.underlying142
attribute [go_sem] Tryz.underlying144
attribute [go_sem] Tryz.underlying146
attribute [go_sem] Tryz.underlying150
attribute [go_sem] Tryz.underlying152
attribute [go_sem] Tryz.underlying160
attribute [go_sem] Tryz.underlying164
@[go_sem] theorem cellsOf172 : Tryz.prog.cellsOf 172 = 1 := by unfold Program.cellsOf; rw [info172]; rfl
@[go_sem] theorem takeVar172 (cs : List PV) : takeVar Tryz.prog 172 cs = cs[0]? := by unfold takeVar isAggT; rw [Tryz.underlying172, info172]
@[go_sem] theorem zeroA172 : zeroA Tryz.prog 172 = some .nilfn := by unfold zeroA; rw [info172]; rfl
attribute [go_sem] Tryz.underlying172
attribute [go_sem] Tryz.underlying174
attribute [go_sem] Tryz.underlying175
attribute [go_sem] Tryz.underlying176
attribute [go_sem] Tryz.underlying178
attribute [go_sem] Tryz.underlying182
attribute [go_sem] Tryz.underlying183
attribute [go_sem] Tryz.underlying194
@[go_sem] theorem takeVar196 (cs : List PV) : takeVar Tryz.prog 196 cs = cs[0]? := by unfold takeVar isAggT; rw [Tryz.underlying196, info196]
attribute [go_sem] Tryz.underlying196
@[go_sem] theorem zeroA198 : zeroA Tryz.prog 198 = some (.agg []) := by unfold zeroA; rw [info198]; rfl
attribute [go_sem] Tryz.underlying198
@[go_sem] theorem zeroA199 : zeroA Tryz.prog 199 = some (.agg []) := by unfold zeroA; rw [info199]; rfl
attribute [go_sem] Tryz.underlying199
@[go_sem] theorem zeroA200 : zeroA Tryz.prog 200 = some (.agg []) := by unfold zeroA; rw [info200]; rfl
attribute [go_sem] Tryz.underlying200
@[go_sem] theorem zeroA201 : zeroA Tryz.prog 201 = some (.agg []) := by unfold zeroA; rw [info201]; rfl
attribute [go_sem] Tryz.underlying201
attribute [go_sem] Tryz.underlying202
attribute [go_sem] Tryz.underlying203
attribute [go_sem] Tryz.underlying208
attribute [go_sem] Tryz.underlying210
attribute [go_sem] Tryz.underlying211
attribute [go_sem] Tryz.underlying212
attribute [go_sem] Tryz.underlying213
attribute [go_sem] Tryz.underlying214
attribute [go_sem] Tryz.underlying215
attribute [go_sem] Tryz.underlying216
attribute [go_sem] Tryz.underlying217
attribute [go_sem] Tryz.underlying218
attribute [go_sem] Tryz.underlying231
attribute [go_sem] Tryz.underlying235
attribute [go_sem] Tryz.underlying245
attribute [go_sem] Tryz.underlying256
@[go_sem] theorem buildA65 (ps : List (Nat × PV)) : buildA Tryz.prog 65 ps = (match fillL [(0, 1), (1, 1)] [(.int IntKind.i64 0), (.int IntKind.i64 0)] ps with | some cs => some (.agg cs) | none => none) := buildA_of zeroA65 (placesA_struct Tryz.underlying65 (by simp only [List.all_cons, List.all_nil, has3, Bool.and_self]) (by simp only [List.map_cons, List.map_nil, cellsOf3])) ps
end Go.Proofs.YtnmfmeehmieifaaGreatDoor
