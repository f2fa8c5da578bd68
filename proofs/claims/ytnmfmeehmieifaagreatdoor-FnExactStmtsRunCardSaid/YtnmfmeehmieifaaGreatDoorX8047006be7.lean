/- A part of a proof: lemmas and contracts of functions; the last text of the claim says what is proved. -/
import Derived.Test.YtnmfmeehmieifaaGreatDoorX5b3e3ddc38
import Derived.Test.YtnmfmeehmieifaaGreatDoorChecked
set_option linter.unusedSectionVars false
set_option linter.unusedSimpArgs false
set_option linter.unusedVariables false
namespace Go.Proofs.YtnmfmeehmieifaaGreatDoor
open Go Sg
set_option maxRecDepth 100000
theorem info3 : Tryz.prog.info? 3 = some Tryz.t3 := by unfold Tables.info?; exact Tryz.type3
theorem info4 : Tryz.prog.info? 4 = some Tryz.t4 := by unfold Tables.info?; exact Tryz.type4
theorem info22 : Tryz.prog.info? 22 = some Tryz.t22 := by unfold Tables.info?; exact Tryz.type22
theorem info24 : Tryz.prog.info? 24 = some Tryz.t24 := by unfold Tables.info?; exact Tryz.type24
theorem info25 : Tryz.prog.info? 25 = some Tryz.t25 := by unfold Tables.info?; exact Tryz.type25
theorem info28 : Tryz.prog.info? 28 = some Tryz.t28 := by unfold Tables.info?; exact Tryz.type28
theorem info32 : Tryz.prog.info? 32 = some Tryz.t32 := by unfold Tables.info?; exact Tryz.type32
theorem info55 : Tryz.prog.info? 55 = some Tryz.t55 := by unfold Tables.info?; exact Tryz.type55
theorem info56 : Tryz.prog.info? 56 = some Tryz.t56 := by unfold Tables.info?; exact Tryz.type56
theorem info58 : Tryz.prog.info? 58 = some Tryz.t58 := by unfold Tables.info?; exact Tryz.type58
theorem info60 : Tryz.prog.info? 60 = some Tryz.t60 := by unfold Tables.info?; exact Tryz.type60
theorem info65 : Tryz.prog.info? 65 = some Tryz.t65 := by unfold Tables.info?; exact Tryz.type65
theorem info66 : Tryz.prog.info? 66 = some Tryz.t66 := by unfold Tables.info?; exact Tryz.type66
theorem info68 : Tryz.prog.info? 68 = some Tryz.t68 := by unfold Tables.info?; exact Tryz.type68
theorem info70 : Tryz.prog.info? 70 = some Tryz.t70 := by unfold Tables.info?; exact Tryz.type70
theorem info72 : Tryz.prog.info? 72 = some Tryz.t72 := by unfold Tables.info?; exact Tryz.type72
theorem info77 : Tryz.prog.info? 77 = some Tryz.t77 := by unfold Tables.info?; exact Tryz.type77
theorem info79 : Tryz.prog.info? 79 = some Tryz.t79 := by unfold Tables.info?; exact Tryz.type79
theorem info113 : Tryz.prog.info? 113 = some Tryz.t113 := by unfold Tables.info?; exact Tryz.type113
theorem info114 : Tryz.prog.info? 114 = some Tryz.t114 := by unfold Tables.info?; exact Tryz.type114
theorem info116 : Tryz.prog.info? 116 = some Tryz.t116 := by unfold Tables.info?; exact Tryz.type116
theorem info161 : Tryz.prog.info? 161 = some Tryz.t161 := by unfold Tables.info?; exact Tryz.type161
theorem info163 : Tryz.prog.info? 163 = some Tryz.t163 := by unfold Tables.info?; exact Tryz.type163
theorem info165 : Tryz.prog.info? 165 = some Tryz.t165 := by unfold Tables.info?; exact Tryz.type165
theorem info172 : Tryz.prog.info? 172 = some Tryz.t172 := by unfold Tables.info?; exact Tryz.type172
theorem info186 : Tryz.prog.info? 186 = some Tryz.t186 := by unfold Tables.info?; exact Tryz.type186
theorem info196 : Tryz.prog.info? 196 = some Tryz.t196 := by unfold Tables.info?; exact Tryz.type196
theorem info198 : Tryz.prog.info? 198 = some Tryz.t198 := by unfold Tables.info?; exact Tryz.type198
theorem info199 : Tryz.prog.info? 199 = some Tryz.t199 := by unfold Tables.info?; exact Tryz.type199
theorem info200 : Tryz.prog.info? 200 = some Tryz.t200 := by unfold Tables.info?; exact Tryz.type200
theorem info201 : Tryz.prog.info? 201 = some Tryz.t201 := by unfold Tables.info?; exact Tryz.type201
attribute [go_sem] Tryz.underlying1
attribute [go_sem] Tryz.underlying2
@[go_sem] theorem has3 : (Tryz.prog.info? 3).isSome = true := by rw [info3]; rfl
@[go_sem] theorem cellsOf3 : Tryz.prog.cellsOf 3 = 1 := by unfold Program.cellsOf; rw [info3]; rfl
@[go_sem] theorem bytesOf3 : bytesOf Tryz.prog 3 = 8 := by unfold bytesOf; rw [info3]; rfl
@[go_sem] theorem takeVar3 (cs : List PV) : takeVar Tryz.prog 3 cs = cs[0]? := by unfold takeVar isAggT; rw [Tryz.underlying3, info3]
@[go_sem] theorem partA3 (cs : List PV) (k : Nat) : partA Tryz.prog 3 cs k = cs[k]? := by unfold partA isAggT; rw [Tryz.underlying3, info3]
@[go_sem] theorem zeroA3 : zeroA Tryz.prog 3 = some (.int IntKind.i64 0) := by unfold zeroA; rw [info3]; rfl
@[go_sem] theorem zeroOk3 : zeroOk Tryz.prog 3 = true := by unfold zeroOk; rw [zeroA3, cellsOf3]; rfl
attribute [go_sem] Tryz.underlying3
@[go_sem] theorem cellsOf4 : Tryz.prog.cellsOf 4 = 1 := by unfold Program.cellsOf; rw [info4]; rfl
@[go_sem] theorem takeVar4 (cs : List PV) : takeVar Tryz.prog 4 cs = cs[0]? := by unfold takeVar isAggT; rw [Tryz.underlying4, info4]
@[go_sem] theorem zeroA4 : zeroA Tryz.prog 4 = some (.bool false) := by unfold zeroA; rw [info4]; rfl
attribute [go_sem] Tryz.underlying4
attribute [go_sem] Tryz.underlying5
attribute [go_sem] Tryz.underlying6
attribute [go_sem] Tryz.underlying7
attribute [go_sem] Tryz.underlying8
attribute [go_sem] Tryz.underlying9
attribute [go_sem] Tryz.underlying10
attribute [go_sem] Tryz.underlying11
attribute [go_sem] Tryz.underlying13
attribute [go_sem] Tryz.underlying14
attribute [go_sem] Tryz.underlying16
attribute [go_sem] Tryz.underlying19
attribute [go_sem] Tryz.underlying20
@[go_sem] theorem has22 : (Tryz.prog.info? 22).isSome = true := by rw [info22]; rfl
@[go_sem] theorem cellsOf22 : Tryz.prog.cellsOf 22 = 1 := by unfold Program.cellsOf; rw [info22]; rfl
@[go_sem] theorem takeVar22 (cs : List PV) : takeVar Tryz.prog 22 cs = cs[0]? := by unfold takeVar isAggT; rw [Tryz.underlying22, info22]
@[go_sem] theorem zeroA22 : zeroA Tryz.prog 22 = some .emp := by unfold zeroA; rw [info22]; rfl
@[go_sem] theorem zeroOk22 : zeroOk Tryz.prog 22 = true := by unfold zeroOk; rw [zeroA22, cellsOf22]; rfl
attribute [go_sem] Tryz.underlying22
@[go_sem] theorem cellsOf24 : Tryz.prog.cellsOf 24 = 3 := by unfold Program.cellsOf; rw [info24]; rfl
@[go_sem] theorem takeVar24 (cs : List PV) : takeVar Tryz.prog 24 cs = if 3 ≤ cs.length then some (.agg (cs.take 3)) else none := by unfold takeVar isAggT; rw [Tryz.underlying24, info24]; rfl
@[go_sem] theorem field24_0 : fieldInfo Tryz.prog 24 0 = some (0, 22) := by unfold fieldInfo; rw [Tryz.underlying24]; show (match Tryz.prog.info? 22 with | some i => if i.size = 0 then none else some (0, 22) | none => none) = _; rw [info22]; rfl
@[go_sem] theorem field24_1 : fieldInfo Tryz.prog 24 1 = some (1, 22) := by unfold fieldInfo; rw [Tryz.underlying24]; show (match Tryz.prog.info? 22 with | some i => if i.size = 0 then none else some (1, 22) | none => none) = _; rw [info22]; rfl
@[go_sem] theorem field24_2 : fieldInfo Tryz.prog 24 2 = some (2, 22) := by unfold fieldInfo; rw [Tryz.underlying24]; show (match Tryz.prog.info? 22 with | some i => if i.size = 0 then none else some (2, 22) | none => none) = _; rw [info22]; rfl
attribute [go_sem] Tryz.underlying24
@[go_sem] theorem cellsOf25 : Tryz.prog.cellsOf 25 = 1 := by unfold Program.cellsOf; rw [info25]; rfl
@[go_sem] theorem takeVar25 (cs : List PV) : takeVar Tryz.prog 25 cs = cs[0]? := by unfold takeVar isAggT; rw [Tryz.underlying25, info25]
attribute [go_sem] Tryz.underlying25
attribute [go_sem] Tryz.underlying26
attribute [go_sem] Tryz.underlying27
@[go_sem] theorem cellsOf28 : Tryz.prog.cellsOf 28 = 3 := by unfold Program.cellsOf; rw [info28]; rfl
@[go_sem] theorem takeVar28 (cs : List PV) : takeVar Tryz.prog 28 cs = if 3 ≤ cs.length then some (.agg (cs.take 3)) else none := by unfold takeVar isAggT; rw [Tryz.underlying28, info28]; rfl
@[go_sem] theorem zeroA28 : zeroA Tryz.prog 28 = some (.agg [.emp, .emp, .emp]) := by unfold zeroA; rw [info28]; rfl
@[go_sem] theorem field28_0 : fieldInfo Tryz.prog 28 0 = some (0, 22) := by unfold fieldInfo; rw [Tryz.underlying28]; show (match Tryz.prog.info? 22 with | some i => if i.size = 0 then none else some (0, 22) | none => none) = _; rw [info22]; rfl
@[go_sem] theorem field28_1 : fieldInfo Tryz.prog 28 1 = some (1, 22) := by unfold fieldInfo; rw [Tryz.underlying28]; show (match Tryz.prog.info? 22 with | some i => if i.size = 0 then none else some (1, 22) | none => none) = _; rw [info22]; rfl
@[go_sem] theorem field28_2 : fieldInfo Tryz.prog 28 2 = some (2, 22) := by unfold fieldInfo; rw [Tryz.underlying28]; show (match Tryz.prog.info? 22 with | some i => if i.size = 0 then none else some (2, 22) | none => none) = _; rw [info22]; rfl
attribute [go_sem] Tryz.underlying28
attribute [go_sem] Tryz.underlying30
attribute [go_sem] Tryz.underlying31
@[go_sem] theorem has32 : (Tryz.prog.info? 32).isSome = true := by rw [info32]; rfl
@[go_sem] theorem cellsOf32 : Tryz.prog.cellsOf 32 = 1 := by unfold Program.cellsOf; rw [info32]; rfl
@[go_sem] theorem takeVar32 (cs : List PV) : takeVar Tryz.prog 32 cs = cs[0]? := by unfold takeVar isAggT; rw [Tryz.underlying32, info32]
attribute [go_sem] Tryz.underlying32
attribute [go_sem] Tryz.underlying33
attribute [go_sem] Tryz.underlying35
attribute [go_sem] Tryz.underlying36
attribute [go_sem] Tryz.underlying39
attribute [go_sem] Tryz.underlying40
attribute [go_sem] Tryz.underlying41
attribute [go_sem] Tryz.underlying42
attribute [go_sem] Tryz.underlying44
attribute [go_sem] Tryz.underlying45
attribute [go_sem] Tryz.underlying46
attribute [go_sem] Tryz.underlying47
attribute [go_sem] Tryz.underlying48
attribute [go_sem] Tryz.underlying49
attribute [go_sem] Tryz.underlying50
attribute [go_sem] Tryz.underlying51
attribute [go_sem] Tryz.underlying52
@[go_sem] theorem cellsOf55 : Tryz.prog.cellsOf 55 = 2 := by unfold Program.cellsOf; rw [info55]; rfl
@[go_sem] theorem takeVar55 (cs : List PV) : takeVar Tryz.prog 55 cs = if 2 ≤ cs.length then some (.agg (cs.take 2)) else none := by unfold takeVar isAggT; rw [Tryz.underlying55, info55]; rfl
@[go_sem] theorem field55_0 : fieldInfo Tryz.prog 55 0 = some (0, 3) := by unfold fieldInfo; rw [Tryz.underlying55]; show (match Tryz.prog.info? 3 with | some i => if i.size = 0 then none else some (0, 3) | none => none) = _; rw [info3]; rfl
@[go_sem] theorem field55_1 : fieldInfo Tryz.prog 55 1 = some (1, 3) := by unfold fieldInfo; rw [Tryz.underlying55]; show (match Tryz.prog.info? 3 with | some i => if i.size = 0 then none else some (1, 3) | none => none) = _; rw [info3]; rfl
attribute [go_sem] Tryz.underlying55
@[go_sem] theorem cellsOf56 : Tryz.prog.cellsOf 56 = 1 := by unfold Program.cellsOf; rw [info56]; rfl
@[go_sem] theorem takeVar56 (cs : List PV) : takeVar Tryz.prog 56 cs = cs[0]? := by unfold takeVar isAggT; rw [Tryz.underlying56, info56]
attribute [go_sem] Tryz.underlying56
@[go_sem] theorem cellsOf58 : Tryz.prog.cellsOf 58 = 5 := by unfold Program.cellsOf; rw [info58]; rfl
@[go_sem] theorem takeVar58 (cs : List PV) : takeVar Tryz.prog 58 cs = if 5 ≤ cs.length then some (.agg (cs.take 5)) else none := by unfold takeVar isAggT; rw [Tryz.underlying58, info58]; rfl
@[go_sem] theorem field58_0 : fieldInfo Tryz.prog 58 0 = some (0, 3) := by unfold fieldInfo; rw [Tryz.underlying58]; show (match Tryz.prog.info? 3 with | some i => if i.size = 0 then none else some (0, 3) | none => none) = _; rw [info3]; rfl
@[go_sem] theorem field58_1 : fieldInfo Tryz.prog 58 1 = some (1, 3) := by unfold fieldInfo; rw [Tryz.underlying58]; show (match Tryz.prog.info? 3 with | some i => if i.size = 0 then none else some (1, 3) | none => none) = _; rw [info3]; rfl
@[go_sem] theorem field58_2 : fieldInfo Tryz.prog 58 2 = some (2, 55) := by unfold fieldInfo; rw [Tryz.underlying58]; show (match Tryz.prog.info? 55 with | some i => if i.size = 0 then none else some (2, 55) | none => none) = _; rw [info55]; rfl
@[go_sem] theorem field58_3 : fieldInfo Tryz.prog 58 3 = some (4, 56) := by unfold fieldInfo; rw [Tryz.underlying58]; show (match Tryz.prog.info? 56 with | some i => if i.size = 0 then none else some (4, 56) | none => none) = _; rw [info56]; rfl
attribute [go_sem] Tryz.underlying58
attribute [go_sem] Tryz.underlying59
@[go_sem] theorem cellsOf60 : Tryz.prog.cellsOf 60 = 10 := by unfold Program.cellsOf; rw [info60]; rfl
@[go_sem] theorem takeVar60 (cs : List PV) : takeVar Tryz.prog 60 cs = if 10 ≤ cs.length then some (.agg (cs.take 10)) else none := by unfold takeVar isAggT; rw [Tryz.underlying60, info60]; rfl
@[go_sem] theorem field60_0 : fieldInfo Tryz.prog 60 0 = some (0, 3) := by unfold fieldInfo; rw [Tryz.underlying60]; show (match Tryz.prog.info? 3 with | some i => if i.size = 0 then none else some (0, 3) | none => none) = _; rw [info3]; rfl
@[go_sem] theorem field60_1 : fieldInfo Tryz.prog 60 1 = some (1, 55) := by unfold fieldInfo; rw [Tryz.underlying60]; show (match Tryz.prog.info? 55 with | some i => if i.size = 0 then none else some (1, 55) | none => none) = _; rw [info55]; rfl
@[go_sem] theorem field60_2 : fieldInfo Tryz.prog 60 2 = some (3, 58) := by unfold fieldInfo; rw [Tryz.underlying60]; show (match Tryz.prog.info? 58 with | some i => if i.size = 0 then none else some (3, 58) | none => none) = _; rw [info58]; rfl
@[go_sem] theorem field60_3 : fieldInfo Tryz.prog 60 3 = some (8, 25) := by unfold fieldInfo; rw [Tryz.underlying60]; show (match Tryz.prog.info? 25 with | some i => if i.size = 0 then none else some (8, 25) | none => none) = _; rw [info25]; rfl
@[go_sem] theorem field60_4 : fieldInfo Tryz.prog 60 4 = some (9, 25) := by unfold fieldInfo; rw [Tryz.underlying60]; show (match Tryz.prog.info? 25 with | some i => if i.size = 0 then none else some (9, 25) | none => none) = _; rw [info25]; rfl
attribute [go_sem] Tryz.underlying60
attribute [go_sem] Tryz.underlying64
@[go_sem] theorem has65 : (Tryz.prog.info? 65).isSome = true := by rw [info65]; rfl
@[go_sem] theorem cellsOf65 : Tryz.prog.cellsOf 65 = 2 := by unfold Program.cellsOf; rw [info65]; rfl
@[go_sem] theorem takeVar65 (cs : List PV) : takeVar Tryz.prog 65 cs = if 2 ≤ cs.length then some (.agg (cs.take 2)) else none := by unfold takeVar isAggT; rw [Tryz.underlying65, info65]; rfl
@[go_sem] theorem zeroA65 : zeroA Tryz.prog 65 = some (.agg [(.int IntKind.i64 0), (.int IntKind.i64 0)]) := by unfold zeroA; rw [info65]; rfl
@[go_sem] theorem field65_0 : fieldInfo Tryz.prog 65 0 = some (0, 3) := by unfold fieldInfo; rw [Tryz.underlying65]; show (match Tryz.prog.info? 3 with | some i => if i.size = 0 then none else some (0, 3) | none => none) = _; rw [info3]; rfl
@[go_sem] theorem field65_1 : fieldInfo Tryz.prog 65 1 = some (1, 3) := by unfold fieldInfo; rw [Tryz.underlying65]; show (match Tryz.prog.info? 3 with | some i => if i.size = 0 then none else some (1, 3) | none => none) = _; rw [info3]; rfl
attribute [go_sem] Tryz.underlying65
@[go_sem] theorem cellsOf66 : Tryz.prog.cellsOf 66 = 1 := by unfold Program.cellsOf; rw [info66]; rfl
@[go_sem] theorem takeVar66 (cs : List PV) : takeVar Tryz.prog 66 cs = cs[0]? := by unfold takeVar isAggT; rw [Tryz.underlying66, info66]
attribute [go_sem] Tryz.underlying66
@[go_sem] theorem has68 : (Tryz.prog.info? 68).isSome = true := by rw [info68]; rfl
@[go_sem] theorem cellsOf68 : Tryz.prog.cellsOf 68 = 5 := by unfold Program.cellsOf; rw [info68]; rfl
@[go_sem] theorem bytesOf68 : bytesOf Tryz.prog 68 = 56 := by unfold bytesOf; rw [info68]; rfl
@[go_sem] theorem takeVar68 (cs : List PV) : takeVar Tryz.prog 68 cs = if 5 ≤ cs.length then some (.agg (cs.take 5)) else none := by unfold takeVar isAggT; rw [Tryz.underlying68, info68]; rfl
@[go_sem] theorem zeroA68 : zeroA Tryz.prog 68 = some (.agg [(.int IntKind.i64 0), (.int IntKind.i64 0), (.int IntKind.i64 0), (.int IntKind.i64 0), .emp]) := by unfold zeroA; rw [info68]; rfl
@[go_sem] theorem zeroOk68 : zeroOk Tryz.prog 68 = true := by unfold zeroOk; rw [zeroA68, cellsOf68]; rfl
@[go_sem] theorem field68_0 : fieldInfo Tryz.prog 68 0 = some (0, 3) := by unfold fieldInfo; rw [Tryz.underlying68]; show (match Tryz.prog.info? 3 with | some i => if i.size = 0 then none else some (0, 3) | none => none) = _; rw [info3]; rfl
@[go_sem] theorem field68_1 : fieldInfo Tryz.prog 68 1 = some (1, 3) := by unfold fieldInfo; rw [Tryz.underlying68]; show (match Tryz.prog.info? 3 with | some i => if i.size = 0 then none else some (1, 3) | none => none) = _; rw [info3]; rfl
@[go_sem] theorem field68_2 : fieldInfo Tryz.prog 68 2 = some (2, 65) := by unfold fieldInfo; rw [Tryz.underlying68]; show (match Tryz.prog.info? 65 with | some i => if i.size = 0 then none else some (2, 65) | none => none) = _; rw [info65]; rfl
@[go_sem] theorem field68_3 : fieldInfo Tryz.prog 68 3 = some (4, 66) := by unfold fieldInfo; rw [Tryz.underlying68]; show (match Tryz.prog.info? 66 with | some i => if i.size = 0 then none else some (4, 66) | none => none) = _; rw [info66]; rfl
attribute [go_sem] Tryz.underlying68
@[go_sem] theorem has70 : (Tryz.prog.info? 70).isSome = true := by rw [info70]; rfl
@[go_sem] theorem cellsOf70 : Tryz.prog.cellsOf 70 = 10 := by unfold Program.cellsOf; rw [info70]; rfl
@[go_sem] theorem bytesOf70 : bytesOf Tryz.prog 70 = 128 := by unfold bytesOf; rw [info70]; rfl
@[go_sem] theorem takeVar70 (cs : List PV) : takeVar Tryz.prog 70 cs = if 10 ≤ cs.length then some (.agg (cs.take 10)) else none := by unfold takeVar isAggT; rw [Tryz.underlying70, info70]; rfl
@[go_sem] theorem zeroA70 : zeroA Tryz.prog 70 = some (.agg [(.int IntKind.i64 0), (.int IntKind.i64 0), (.int IntKind.i64 0), (.int IntKind.i64 0), (.int IntKind.i64 0), (.int IntKind.i64 0), (.int IntKind.i64 0), .emp, .emp, .emp]) := by unfold zeroA; rw [info70]; rfl
@[go_sem] theorem zeroOk70 : zeroOk Tryz.prog 70 = true := by unfold zeroOk; rw [zeroA70, cellsOf70]; rfl
@[go_sem] theorem field70_0 : fieldInfo Tryz.prog 70 0 = some (0, 3) := by unfold fieldInfo; rw [Tryz.underlying70]; show (match Tryz.prog.info? 3 with | some i => if i.size = 0 then none else some (0, 3) | none => none) = _; rw [info3]; rfl
@[go_sem] theorem field70_1 : fieldInfo Tryz.prog 70 1 = some (1, 65) := by unfold fieldInfo; rw [Tryz.underlying70]; show (match Tryz.prog.info? 65 with | some i => if i.size = 0 then none else some (1, 65) | none => none) = _; rw [info65]; rfl
@[go_sem] theorem field70_2 : fieldInfo Tryz.prog 70 2 = some (3, 68) := by unfold fieldInfo; rw [Tryz.underlying70]; show (match Tryz.prog.info? 68 with | some i => if i.size = 0 then none else some (3, 68) | none => none) = _; rw [info68]; rfl
@[go_sem] theorem field70_3 : fieldInfo Tryz.prog 70 3 = some (8, 32) := by unfold fieldInfo; rw [Tryz.underlying70]; show (match Tryz.prog.info? 32 with | some i => if i.size = 0 then none else some (8, 32) | none => none) = _; rw [info32]; rfl
@[go_sem] theorem field70_4 : fieldInfo Tryz.prog 70 4 = some (9, 32) := by unfold fieldInfo; rw [Tryz.underlying70]; show (match Tryz.prog.info? 32 with | some i => if i.size = 0 then none else some (9, 32) | none => none) = _; rw [info32]; rfl
attribute [go_sem] Tryz.underlying70
@[go_sem] theorem has72 : (Tryz.prog.info? 72).isSome = true := by rw [info72]; rfl
@[go_sem] theorem cellsOf72 : Tryz.prog.cellsOf 72 = 1 := by unfold Program.cellsOf; rw [info72]; rfl
@[go_sem] theorem takeVar72 (cs : List PV) : takeVar Tryz.prog 72 cs = cs[0]? := by unfold takeVar isAggT; rw [Tryz.underlying72, info72]
attribute [go_sem] Tryz.underlying72
attribute [go_sem] Tryz.underlying74
attribute [go_sem] Tryz.underlying75
attribute [go_sem] Tryz.underlying76
@[go_sem] theorem zeroA77 : zeroA Tryz.prog 77 = some (.agg [.nilp, (.int IntKind.i64 0)]) := by unfold zeroA; rw [info77]; rfl
@[go_sem] theorem field77_0 : fieldInfo Tryz.prog 77 0 = some (0, 72) := by unfold fieldInfo; rw [Tryz.underlying77]; show (match Tryz.prog.info? 72 with | some i => if i.size = 0 then none else some (0, 72) | none => none) = _; rw [info72]; rfl
@[go_sem] theorem field77_1 : fieldInfo Tryz.prog 77 1 = some (1, 3) := by unfold fieldInfo; rw [Tryz.underlying77]; show (match Tryz.prog.info? 3 with | some i => if i.size = 0 then none else some (1, 3) | none => none) = _; rw [info3]; rfl
attribute [go_sem] Tryz.underlying77
attribute [go_sem] Tryz.underlying78
@[go_sem] theorem takeVar79 (cs : List PV) : takeVar Tryz.prog 79 cs = cs[0]? := by unfold takeVar isAggT; rw [Tryz.underlying79, info79]
attribute [go_sem] Tryz.underlying79
attribute [go_sem] Tryz.underlying85
attribute [go_sem] Tryz.underlying87
attribute [go_sem] Tryz.underlying89
attribute [go_sem] Tryz.underlying90
attribute [go_sem] Tryz.underlying92
attribute [go_sem] Tryz.underlying94
attribute [go_sem] Tryz.underlying96
attribute [go_sem] Tryz.underlying97
attribute [go_sem] Tryz.underlying98
attribute [go_sem] Tryz.underlying99
attribute [go_sem] Tryz.underlying100
attribute [go_sem] Tryz.underlying101
attribute [go_sem] Tryz.underlying102
attribute [go_sem] Tryz.underlying103
attribute [go_sem] Tryz.underlying104
attribute [go_sem] Tryz.underlying106
attribute [go_sem] Tryz.underlying107
attribute [go_sem] Tryz.underlying108
attribute [go_sem] Tryz.underlying109
attribute [go_sem] Tryz.underlying111
@[go_sem] theorem has113 : (Tryz.prog.info? 113).isSome = true := by rw [info113]; rfl
@[go_sem] theorem cellsOf113 : Tryz.prog.cellsOf 113 = 6 := by unfold Program.cellsOf; rw [info113]; rfl
@[go_sem] theorem takeVar113 (cs : List PV) : takeVar Tryz.prog 113 cs = if 6 ≤ cs.length then some (.agg (cs.take 6)) else none := by unfold takeVar isAggT; rw [Tryz.underlying113, info113]; rfl
attribute [go_sem] Tryz.underlying113
@[go_sem] theorem has114 : (Tryz.prog.info? 114).isSome = true := by rw [info114]; rfl
@[go_sem] theorem cellsOf114 : Tryz.prog.cellsOf 114 = 18 := by unfold Program.cellsOf; rw [info114]; rfl
attribute [go_sem] Tryz.underlying114
@[go_sem] theorem zeroA116 : zeroA Tryz.prog 116 = some (.agg [(.int IntKind.i64 0), (.int IntKind.i64 0), (.int IntKind.i64 0), (.int IntKind.i64 0), (.int IntKind.i64 0), (.int IntKind.i64 0), (.int IntKind.i64 0), (.int IntKind.i64 0), (.int IntKind.i64 0), (.int IntKind.i64 0), (.int IntKind.i64 0), (.int IntKind.i64 0), (.int IntKind.i64 0), (.int IntKind.i64 0), (.int IntKind.i64 0), (.int IntKind.i64 0), (.int IntKind.i64 0), (.int IntKind.i64 0)]) := by unfold zeroA; rw [info116]; rfl
@[go_sem] theorem field116_0 : fieldInfo Tryz.prog 116 0 = some (0, 114) := by unfold fieldInfo; rw [Tryz.underlying116]; show (match Tryz.prog.info? 114 with | some i => if i.size = 0 then none else some (0, 114) | none => none) = _; rw [info114]; rfl
attribute [go_sem] Tryz.underlying116
attribute [go_sem] Tryz.underlying117
attribute [go_sem] Tryz.underlying118
attribute [go_sem] Tryz.underlying120
attribute [go_sem] Tryz.underlying121
attribute [go_sem] Tryz.underlying122
attribute [go_sem] Tryz.underlying126
attribute [go_sem] Tryz.underlying128
attribute [go_sem] Tryz.underlying131
attribute [go_sem] Tryz.underlying133
attribute [go_sem] Tryz.underlying139
attribute [go_sem] Tryz.underlying141
attribute [go_sem] Tryz.underlying142
attribute [go_sem] Tryz.underlying150
@[go_sem] theorem zeroA161 : zeroA Tryz.prog 161 = some (.agg [(.int IntKind.i64 0), (.int IntKind.i64 0), (.int IntKind.i64 0), (.int IntKind.i64 0), (.int IntKind.i64 0), (.int IntKind.i64 0), .emp]) := by unfold zeroA; rw [info161]; rfl
@[go_sem] theorem field161_0 : fieldInfo Tryz.prog 161 0 = some (0, 65) := by unfold fieldInfo; rw [Tryz.underlying161]; show (match Tryz.prog.info? 65 with | some i => if i.size = 0 then none else some (0, 65) | none => none) = _; rw [info65]; rfl
@[go_sem] theorem field161_1 : fieldInfo Tryz.prog 161 1 = some (2, 68) := by unfold fieldInfo; rw [Tryz.underlying161]; show (match Tryz.prog.info? 68 with | some i => if i.size = 0 then none else some (2, 68) | none => none) = _; rw [info68]; rfl
attribute [go_sem] Tryz.underlying161
@[go_sem] theorem zeroA163 : zeroA Tryz.prog 163 = some (.agg [(.int IntKind.i64 0), (.int IntKind.i64 0), (.int IntKind.i64 0), (.int IntKind.i64 0), .emp, .emp, .emp]) := by unfold zeroA; rw [info163]; rfl
@[go_sem] theorem field163_0 : fieldInfo Tryz.prog 163 0 = some (0, 68) := by unfold fieldInfo; rw [Tryz.underlying163]; show (match Tryz.prog.info? 68 with | some i => if i.size = 0 then none else some (0, 68) | none => none) = _; rw [info68]; rfl
@[go_sem] theorem field163_1 : fieldInfo Tryz.prog 163 1 = some (5, 32) := by unfold fieldInfo; rw [Tryz.underlying163]; show (match Tryz.prog.info? 32 with | some i => if i.size = 0 then none else some (5, 32) | none => none) = _; rw [info32]; rfl
@[go_sem] theorem field163_2 : fieldInfo Tryz.prog 163 2 = some (6, 32) := by unfold fieldInfo; rw [Tryz.underlying163]; show (match Tryz.prog.info? 32 with | some i => if i.size = 0 then none else some (6, 32) | none => none) = _; rw [info32]; rfl
attribute [go_sem] Tryz.underlying163
attribute [go_sem] Tryz.underlying164
@[go_sem] theorem zeroA165 : zeroA Tryz.prog 165 = some (.agg [(.int IntKind.i64 0), (.int IntKind.i64 0), (.int IntKind.i64 0), (.int IntKind.i64 0), .emp, .emp]) := by unfold zeroA; rw [info165]; rfl
@[go_sem] theorem field165_0 : fieldInfo Tryz.prog 165 0 = some (0, 68) := by unfold fieldInfo; rw [Tryz.underlying165]; show (match Tryz.prog.info? 68 with | some i => if i.size = 0 then none else some (0, 68) | none => none) = _; rw [info68]; rfl
@[go_sem] theorem field165_1 : fieldInfo Tryz.prog 165 1 = some (5, 32) := by unfold fieldInfo; rw [Tryz.underlying165]; show (match Tryz.prog.info? 32 with | some i => if i.size = 0 then none else some (5, 32) | none => none) = _; rw [info32]; rfl
attribute [go_sem] Tryz.underlying165
attribute [go_sem] Tryz.underlying167
@[go_sem] theorem cellsOf172 : Tryz.prog.cellsOf 172 = 1 := by unfold Program.cellsOf; rw [info172]; rfl
@[go_sem] theorem takeVar172 (cs : List PV) : takeVar Tryz.prog 172 cs = cs[0]? := by unfold takeVar isAggT; rw [Tryz.underlying172, info172]
@[go_sem] theorem zeroA172 : zeroA Tryz.prog 172 = some .nilfn := by unfold zeroA; rw [info172]; rfl
attribute [go_sem] Tryz.underlying172
attribute [go_sem] Tryz.underlying174
attribute [go_sem] Tryz.underlying175
attribute [go_sem] Tryz.underlying178
attribute [go_sem] Tryz.underlying182
attribute [go_sem] Tryz.underlying186
attribute [go_sem] Tryz.underlying188
attribute [go_sem] Tryz.underlying191
attribute [go_sem] Tryz.underlying193
attribute [go_sem] Tryz.underlying194
@[go_sem] theorem takeVar196 (cs : List PV) : takeVar Tryz.prog 196 cs = cs[0]? := by unfold takeVar isAggT; rw [Tryz.underlying196, info196]
attribute [go_sem] Tryz.underlying196
@[go_sem] theorem zeroA198 : zeroA Tryz.prog 198 = some (.agg []) := by unfold zeroA; rw [info198]; rfl
attribute [go_sem] Tryz.underlying198
@[go_sem] theorem zeroA199 : zeroA Tryz.prog 199 = some (.agg []) := by unfold zeroA; rw [info199]; rfl
attribute [go_sem] Tryz.underlying199
@[go_sem] theorem zeroA200 : zeroA Tryz.prog 200 = some (.agg []) := by unfold zeroA; rw [info200]; rfl
attribute [go_sem] Tryz.underlying200
@[go_sem] theorem zeroA201 : zeroA Tryz.prog 201 = some (.agg []) := by unfold zeroA; rw [info201]; rfl
attribute [go_sem] Tryz.underlying201
attribute [go_sem] Tryz.underlying210
attribute [go_sem] Tryz.underlying225
attribute [go_sem] Tryz.underlying232
attribute [go_sem] Tryz.underlying238
attribute [go_sem] Tryz.underlying245
attribute [go_sem] Tryz.underlying256
@[go_sem] theorem buildA28 (ps : List (Nat × PV)) : buildA Tryz.prog 28 ps = (match fillL [(0, 1), (1, 1), (2, 1)] [.emp, .emp, .emp] ps with | some cs => some (.agg cs) | none => none) := buildA_of zeroA28 (placesA_struct Tryz.underlying28 (by simp only [List.all_cons, List.all_nil, has22, Bool.and_self]) (by simp only [List.map_cons, List.map_nil, cellsOf22])) ps
@[go_sem] theorem buildA65 (ps : List (Nat × PV)) : buildA Tryz.prog 65 ps = (match fillL [(0, 1), (1, 1)] [(.int IntKind.i64 0), (.int IntKind.i64 0)] ps with | some cs => some (.agg cs) | none => none) := buildA_of zeroA65 (placesA_struct Tryz.underlying65 (by simp only [List.all_cons, List.all_nil, has3, Bool.and_self]) (by simp only [List.map_cons, List.map_nil, cellsOf3])) ps
@[go_sem] theorem buildA77 (ps : List (Nat × PV)) : buildA Tryz.prog 77 ps = (match fillL [(0, 1), (1, 1)] [.nilp, (.int IntKind.i64 0)] ps with | some cs => some (.agg cs) | none => none) := buildA_of zeroA77 (placesA_struct Tryz.underlying77 (by simp only [List.all_cons, List.all_nil, has3, has72, Bool.and_self]) (by simp only [List.map_cons, List.map_nil, cellsOf3, cellsOf72])) ps
@[go_sem] theorem buildA116 (ps : List (Nat × PV)) : buildA Tryz.prog 116 ps = (match fillL [(0, 18)] [(.int IntKind.i64 0), (.int IntKind.i64 0), (.int IntKind.i64 0), (.int IntKind.i64 0), (.int IntKind.i64 0), (.int IntKind.i64 0), (.int IntKind.i64 0), (.int IntKind.i64 0), (.int IntKind.i64 0), (.int IntKind.i64 0), (.int IntKind.i64 0), (.int IntKind.i64 0), (.int IntKind.i64 0), (.int IntKind.i64 0), (.int IntKind.i64 0), (.int IntKind.i64 0), (.int IntKind.i64 0), (.int IntKind.i64 0)] ps with | some cs => some (.agg cs) | none => none) := buildA_of zeroA116 (placesA_struct Tryz.underlying116 (by simp only [List.all_cons, List.all_nil, has114, Bool.and_self]) (by simp only [List.map_cons, List.map_nil, cellsOf114])) ps
@[go_sem] theorem buildA161 (ps : List (Nat × PV)) : buildA Tryz.prog 161 ps = (match fillL [(0, 2), (2, 5)] [(.int IntKind.i64 0), (.int IntKind.i64 0), (.int IntKind.i64 0), (.int IntKind.i64 0), (.int IntKind.i64 0), (.int IntKind.i64 0), .emp] ps with | some cs => some (.agg cs) | none => none) := buildA_of zeroA161 (placesA_struct Tryz.underlying161 (by simp only [List.all_cons, List.all_nil, has65, has68, Bool.and_self]) (by simp only [List.map_cons, List.map_nil, cellsOf65, cellsOf68])) ps
@[go_sem] theorem buildA163 (ps : List (Nat × PV)) : buildA Tryz.prog 163 ps = (match fillL [(0, 5), (5, 1), (6, 1)] [(.int IntKind.i64 0), (.int IntKind.i64 0), (.int IntKind.i64 0), (.int IntKind.i64 0), .emp, .emp, .emp] ps with | some cs => some (.agg cs) | none => none) := buildA_of zeroA163 (placesA_struct Tryz.underlying163 (by simp only [List.all_cons, List.all_nil, has32, has68, Bool.and_self]) (by simp only [List.map_cons, List.map_nil, cellsOf32, cellsOf68])) ps
@[go_sem] theorem buildA165 (ps : List (Nat × PV)) : buildA Tryz.prog 165 ps = (match fillL [(0, 5), (5, 1)] [(.int IntKind.i64 0), (.int IntKind.i64 0), (.int IntKind.i64 0), (.int IntKind.i64 0), .emp, .emp] ps with | some cs => some (.agg cs) | none => none) := buildA_of zeroA165 (placesA_struct Tryz.underlying165 (by simp only [List.all_cons, List.all_nil, has32, has68, Bool.and_self]) (by simp only [List.map_cons, List.map_nil, cellsOf32, cellsOf68])) ps
end Go.Proofs.YtnmfmeehmieifaaGreatDoor
