/- A part of a proof: lemmas and contracts of functions; the last text of the claim says what is proved. -/
import Derived.Test.YtnmfmeehmieifaaDoorX19a2749626
import Derived.Test.YtnmfmeehmieifaaDoorChecked
set_option linter.unusedSectionVars false
set_option linter.unusedSimpArgs false
set_option linter.unusedVariables false
namespace Go.Proofs.YtnmfmeehmieifaaDoor
open Go Sg
set_option maxRecDepth 100000
theorem info3 : Tryd.prog.info? 3 = some Tryd.t3 := by unfold Tables.info?; exact Tryd.type3
theorem info4 : Tryd.prog.info? 4 = some Tryd.t4 := by unfold Tables.info?; exact Tryd.type4
theorem info5 : Tryd.prog.info? 5 = some Tryd.t5 := by unfold Tables.info?; exact Tryd.type5
theorem info9 : Tryd.prog.info? 9 = some Tryd.t9 := by unfold Tables.info?; exact Tryd.type9
theorem info22 : Tryd.prog.info? 22 = some Tryd.t22 := by unfold Tables.info?; exact Tryd.type22
theorem info23 : Tryd.prog.info? 23 = some Tryd.t23 := by unfold Tables.info?; exact Tryd.type23
theorem info24 : Tryd.prog.info? 24 = some Tryd.t24 := by unfold Tables.info?; exact Tryd.type24
theorem info26 : Tryd.prog.info? 26 = some Tryd.t26 := by unfold Tables.info?; exact Tryd.type26
theorem info37 : Tryd.prog.info? 37 = some Tryd.t37 := by unfold Tables.info?; exact Tryd.type37
theorem info39 : Tryd.prog.info? 39 = some Tryd.t39 := by unfold Tables.info?; exact Tryd.type39
theorem info40 : Tryd.prog.info? 40 = some Tryd.t40 := by unfold Tables.info?; exact Tryd.type40
theorem info42 : Tryd.prog.info? 42 = some Tryd.t42 := by unfold Tables.info?; exact Tryd.type42
theorem info44 : Tryd.prog.info? 44 = some Tryd.t44 := by unfold Tables.info?; exact Tryd.type44
theorem info51 : Tryd.prog.info? 51 = some Tryd.t51 := by unfold Tables.info?; exact Tryd.type51
theorem info56 : Tryd.prog.info? 56 = some Tryd.t56 := by unfold Tables.info?; exact Tryd.type56
theorem info68 : Tryd.prog.info? 68 = some Tryd.t68 := by unfold Tables.info?; exact Tryd.type68
theorem info70 : Tryd.prog.info? 70 = some Tryd.t70 := by unfold Tables.info?; exact Tryd.type70
theorem info97 : Tryd.prog.info? 97 = some Tryd.t97 := by unfold Tables.info?; exact Tryd.type97
theorem info99 : Tryd.prog.info? 99 = some Tryd.t99 := by unfold Tables.info?; exact Tryd.type99
theorem info100 : Tryd.prog.info? 100 = some Tryd.t100 := by unfold Tables.info?; exact Tryd.type100
theorem info102 : Tryd.prog.info? 102 = some Tryd.t102 := by unfold Tables.info?; exact Tryd.type102
theorem info103 : Tryd.prog.info? 103 = some Tryd.t103 := by unfold Tables.info?; exact Tryd.type103
attribute [go_sem] Tryd.underlying1
attribute [go_sem] Tryd.underlying2
@[go_sem] theorem has3 : (Tryd.prog.info? 3).isSome = true := by rw [info3]; rfl
@[go_sem] theorem cellsOf3 : Tryd.prog.cellsOf 3 = 1 := by unfold Program.cellsOf; rw [info3]; rfl
@[go_sem] theorem bytesOf3 : bytesOf Tryd.prog 3 = 8 := by unfold bytesOf; rw [info3]; rfl
@[go_sem] theorem takeVar3 (cs : List PV) : takeVar Tryd.prog 3 cs = cs[0]? := by unfold takeVar isAggT; rw [Tryd.underlying3, info3]
@[go_sem] theorem partA3 (cs : List PV) (k : Nat) : partA Tryd.prog 3 cs k = cs[k]? := by unfold partA isAggT; rw [Tryd.underlying3, info3]
@[go_sem] theorem zeroA3 : zeroA Tryd.prog 3 = some (.int IntKind.i64 0) := by unfold zeroA; rw [info3]; rfl
@[go_sem] theorem zeroOk3 : zeroOk Tryd.prog 3 = true := by unfold zeroOk; rw [zeroA3, cellsOf3]; rfl
attribute [go_sem] Tryd.underlying3
@[go_sem] theorem cellsOf4 : Tryd.prog.cellsOf 4 = 1 := by unfold Program.cellsOf; rw [info4]; rfl
@[go_sem] theorem takeVar4 (cs : List PV) : takeVar Tryd.prog 4 cs = cs[0]? := by unfold takeVar isAggT; rw [Tryd.underlying4, info4]
@[go_sem] theorem zeroA4 : zeroA Tryd.prog 4 = some (.bool false) := by unfold zeroA; rw [info4]; rfl
attribute [go_sem] Tryd.underlying4
@[go_sem] theorem has5 : (Tryd.prog.info? 5).isSome = true := by rw [info5]; rfl
@[go_sem] theorem cellsOf5 : Tryd.prog.cellsOf 5 = 1 := by unfold Program.cellsOf; rw [info5]; rfl
@[go_sem] theorem takeVar5 (cs : List PV) : takeVar Tryd.prog 5 cs = cs[0]? := by unfold takeVar isAggT; rw [Tryd.underlying5, info5]
attribute [go_sem] Tryd.underlying5
attribute [go_sem] Tryd.underlying6
attribute [go_sem] Tryd.underlying7
attribute [go_sem] Tryd.underlying8
@[go_sem] theorem cellsOf9 : Tryd.prog.cellsOf 9 = 1 := by unfold Program.cellsOf; rw [info9]; rfl
@[go_sem] theorem bytesOf9 : bytesOf Tryd.prog 9 = 16 := by unfold bytesOf; rw [info9]; rfl
@[go_sem] theorem takeVar9 (cs : List PV) : takeVar Tryd.prog 9 cs = cs[0]? := by unfold takeVar isAggT; rw [Tryd.underlying9, info9]
@[go_sem] theorem zeroA9 : zeroA Tryd.prog 9 = some (.str ({ data := #[] })) := by unfold zeroA; rw [info9]; rfl
@[go_sem] theorem zeroOk9 : zeroOk Tryd.prog 9 = true := by unfold zeroOk; rw [zeroA9, cellsOf9]; rfl
attribute [go_sem] Tryd.underlying9
attribute [go_sem] Tryd.underlying10
attribute [go_sem] Tryd.underlying11
attribute [go_sem] Tryd.underlying13
attribute [go_sem] Tryd.underlying14
attribute [go_sem] Tryd.underlying16
attribute [go_sem] Tryd.underlying18
attribute [go_sem] Tryd.underlying19
attribute [go_sem] Tryd.underlying20
@[go_sem] theorem has22 : (Tryd.prog.info? 22).isSome = true := by rw [info22]; rfl
@[go_sem] theorem cellsOf22 : Tryd.prog.cellsOf 22 = 1 := by unfold Program.cellsOf; rw [info22]; rfl
@[go_sem] theorem takeVar22 (cs : List PV) : takeVar Tryd.prog 22 cs = cs[0]? := by unfold takeVar isAggT; rw [Tryd.underlying22, info22]
attribute [go_sem] Tryd.underlying22
@[go_sem] theorem has23 : (Tryd.prog.info? 23).isSome = true := by rw [info23]; rfl
@[go_sem] theorem cellsOf23 : Tryd.prog.cellsOf 23 = 1 := by unfold Program.cellsOf; rw [info23]; rfl
@[go_sem] theorem takeVar23 (cs : List PV) : takeVar Tryd.prog 23 cs = cs[0]? := by unfold takeVar isAggT; rw [Tryd.underlying23, info23]
attribute [go_sem] Tryd.underlying23
@[go_sem] theorem has24 : (Tryd.prog.info? 24).isSome = true := by rw [info24]; rfl
@[go_sem] theorem cellsOf24 : Tryd.prog.cellsOf 24 = 1 := by unfold Program.cellsOf; rw [info24]; rfl
@[go_sem] theorem takeVar24 (cs : List PV) : takeVar Tryd.prog 24 cs = cs[0]? := by unfold takeVar isAggT; rw [Tryd.underlying24, info24]
attribute [go_sem] Tryd.underlying24
@[go_sem] theorem cellsOf26 : Tryd.prog.cellsOf 26 = 3 := by unfold Program.cellsOf; rw [info26]; rfl
@[go_sem] theorem takeVar26 (cs : List PV) : takeVar Tryd.prog 26 cs = if 3 ≤ cs.length then some (.agg (cs.take 3)) else none := by unfold takeVar isAggT; rw [Tryd.underlying26, info26]; rfl
@[go_sem] theorem zeroA26 : zeroA Tryd.prog 26 = some (.agg [(.int IntKind.i64 0), .emp, .emp]) := by unfold zeroA; rw [info26]; rfl
@[go_sem] theorem field26_0 : fieldInfo Tryd.prog 26 0 = some (0, 3) := by unfold fieldInfo; rw [Tryd.underlying26]; show (match Tryd.prog.info? 3 with | some i => if i.size = 0 then none else some (0, 3) | none => none) = _; rw [info3]; rfl
@[go_sem] theorem field26_1 : fieldInfo Tryd.prog 26 1 = some (1, 23) := by unfold fieldInfo; rw [Tryd.underlying26]; show (match Tryd.prog.info? 23 with | some i => if i.size = 0 then none else some (1, 23) | none => none) = _; rw [info23]; rfl
@[go_sem] theorem field26_2 : fieldInfo Tryd.prog 26 2 = some (2, 24) := by unfold fieldInfo; rw [Tryd.underlying26]; show (match Tryd.prog.info? 24 with | some i => if i.size = 0 then none else some (2, 24) | none => none) = _; rw [info24]; rfl
attribute [go_sem] Tryd.underlying26
attribute [go_sem] Tryd.underlying29
attribute [go_sem] Tryd.underlying30
attribute [go_sem] Tryd.underlying32
attribute [go_sem] Tryd.underlying33
attribute [go_sem] Tryd.underlying35
attribute [go_sem] Tryd.underlying36
@[go_sem] theorem has37 : (Tryd.prog.info? 37).isSome = true := by rw [info37]; rfl
@[go_sem] theorem cellsOf37 : Tryd.prog.cellsOf 37 = 1 := by unfold Program.cellsOf; rw [info37]; rfl
@[go_sem] theorem takeVar37 (cs : List PV) : takeVar Tryd.prog 37 cs = cs[0]? := by unfold takeVar isAggT; rw [Tryd.underlying37, info37]
attribute [go_sem] Tryd.underlying37
attribute [go_sem] Tryd.underlying38
@[go_sem] theorem has39 : (Tryd.prog.info? 39).isSome = true := by rw [info39]; rfl
@[go_sem] theorem cellsOf39 : Tryd.prog.cellsOf 39 = 2 := by unfold Program.cellsOf; rw [info39]; rfl
@[go_sem] theorem takeVar39 (cs : List PV) : takeVar Tryd.prog 39 cs = if 2 ≤ cs.length then some (.agg (cs.take 2)) else none := by unfold takeVar isAggT; rw [Tryd.underlying39, info39]; rfl
@[go_sem] theorem partA39 (cs : List PV) (k : Nat) : partA Tryd.prog 39 cs k = if k + 2 ≤ cs.length then some (.agg ((cs.drop k).take 2)) else none := by unfold partA isAggT; rw [Tryd.underlying39, info39]; rfl
@[go_sem] theorem zeroA39 : zeroA Tryd.prog 39 = some (.agg [(.int IntKind.i64 0), (.int IntKind.i64 0)]) := by unfold zeroA; rw [info39]; rfl
@[go_sem] theorem field39_0 : fieldInfo Tryd.prog 39 0 = some (0, 3) := by unfold fieldInfo; rw [Tryd.underlying39]; show (match Tryd.prog.info? 3 with | some i => if i.size = 0 then none else some (0, 3) | none => none) = _; rw [info3]; rfl
@[go_sem] theorem field39_1 : fieldInfo Tryd.prog 39 1 = some (1, 3) := by unfold fieldInfo; rw [Tryd.underlying39]; show (match Tryd.prog.info? 3 with | some i => if i.size = 0 then none else some (1, 3) | none => none) = _; rw [info3]; rfl
attribute [go_sem] Tryd.underlying39
@[go_sem] theorem has40 : (Tryd.prog.info? 40).isSome = true := by rw [info40]; rfl
@[go_sem] theorem cellsOf40 : Tryd.prog.cellsOf 40 = 1 := by unfold Program.cellsOf; rw [info40]; rfl
@[go_sem] theorem takeVar40 (cs : List PV) : takeVar Tryd.prog 40 cs = cs[0]? := by unfold takeVar isAggT; rw [Tryd.underlying40, info40]
attribute [go_sem] Tryd.underlying40
attribute [go_sem] Tryd.underlying41
@[go_sem] theorem has42 : (Tryd.prog.info? 42).isSome = true := by rw [info42]; rfl
@[go_sem] theorem cellsOf42 : Tryd.prog.cellsOf 42 = 5 := by unfold Program.cellsOf; rw [info42]; rfl
@[go_sem] theorem bytesOf42 : bytesOf Tryd.prog 42 = 56 := by unfold bytesOf; rw [info42]; rfl
@[go_sem] theorem takeVar42 (cs : List PV) : takeVar Tryd.prog 42 cs = if 5 ≤ cs.length then some (.agg (cs.take 5)) else none := by unfold takeVar isAggT; rw [Tryd.underlying42, info42]; rfl
@[go_sem] theorem zeroA42 : zeroA Tryd.prog 42 = some (.agg [(.int IntKind.i64 0), (.int IntKind.i64 0), (.int IntKind.i64 0), (.int IntKind.i64 0), .emp]) := by unfold zeroA; rw [info42]; rfl
@[go_sem] theorem zeroOk42 : zeroOk Tryd.prog 42 = true := by unfold zeroOk; rw [zeroA42, cellsOf42]; rfl
@[go_sem] theorem field42_0 : fieldInfo Tryd.prog 42 0 = some (0, 3) := by unfold fieldInfo; rw [Tryd.underlying42]; show (match Tryd.prog.info? 3 with | some i => if i.size = 0 then none else some (0, 3) | none => none) = _; rw [info3]; rfl
@[go_sem] theorem field42_1 : fieldInfo Tryd.prog 42 1 = some (1, 3) := by unfold fieldInfo; rw [Tryd.underlying42]; show (match Tryd.prog.info? 3 with | some i => if i.size = 0 then none else some (1, 3) | none => none) = _; rw [info3]; rfl
@[go_sem] theorem field42_2 : fieldInfo Tryd.prog 42 2 = some (2, 39) := by unfold fieldInfo; rw [Tryd.underlying42]; show (match Tryd.prog.info? 39 with | some i => if i.size = 0 then none else some (2, 39) | none => none) = _; rw [info39]; rfl
@[go_sem] theorem field42_3 : fieldInfo Tryd.prog 42 3 = some (4, 40) := by unfold fieldInfo; rw [Tryd.underlying42]; show (match Tryd.prog.info? 40 with | some i => if i.size = 0 then none else some (4, 40) | none => none) = _; rw [info40]; rfl
attribute [go_sem] Tryd.underlying42
attribute [go_sem] Tryd.underlying43
@[go_sem] theorem cellsOf44 : Tryd.prog.cellsOf 44 = 7 := by unfold Program.cellsOf; rw [info44]; rfl
@[go_sem] theorem bytesOf44 : bytesOf Tryd.prog 44 = 104 := by unfold bytesOf; rw [info44]; rfl
@[go_sem] theorem takeVar44 (cs : List PV) : takeVar Tryd.prog 44 cs = if 7 ≤ cs.length then some (.agg (cs.take 7)) else none := by unfold takeVar isAggT; rw [Tryd.underlying44, info44]; rfl
@[go_sem] theorem zeroA44 : zeroA Tryd.prog 44 = some (.agg [.emp, .emp, (.int IntKind.i64 0), (.int IntKind.i64 0), (.int IntKind.i64 0), (.int IntKind.i64 0), .emp]) := by unfold zeroA; rw [info44]; rfl
@[go_sem] theorem zeroOk44 : zeroOk Tryd.prog 44 = true := by unfold zeroOk; rw [zeroA44, cellsOf44]; rfl
@[go_sem] theorem field44_0 : fieldInfo Tryd.prog 44 0 = some (0, 37) := by unfold fieldInfo; rw [Tryd.underlying44]; show (match Tryd.prog.info? 37 with | some i => if i.size = 0 then none else some (0, 37) | none => none) = _; rw [info37]; rfl
@[go_sem] theorem field44_1 : fieldInfo Tryd.prog 44 1 = some (1, 37) := by unfold fieldInfo; rw [Tryd.underlying44]; show (match Tryd.prog.info? 37 with | some i => if i.size = 0 then none else some (1, 37) | none => none) = _; rw [info37]; rfl
@[go_sem] theorem field44_2 : fieldInfo Tryd.prog 44 2 = some (2, 42) := by unfold fieldInfo; rw [Tryd.underlying44]; show (match Tryd.prog.info? 42 with | some i => if i.size = 0 then none else some (2, 42) | none => none) = _; rw [info42]; rfl
attribute [go_sem] Tryd.underlying44
attribute [go_sem] Tryd.underlying45
attribute [go_sem] Tryd.underlying46
attribute [go_sem] Tryd.underlying47
attribute [go_sem] Tryd.underlying48
attribute [go_sem] Tryd.underlying49
attribute [go_sem] Tryd.underlying50
@[go_sem] theorem cellsOf51 : Tryd.prog.cellsOf 51 = 4 := by unfold Program.cellsOf; rw [info51]; rfl
@[go_sem] theorem bytesOf51 : bytesOf Tryd.prog 51 = 32 := by unfold bytesOf; rw [info51]; rfl
@[go_sem] theorem takeVar51 (cs : List PV) : takeVar Tryd.prog 51 cs = if 4 ≤ cs.length then some (.agg (cs.take 4)) else none := by unfold takeVar isAggT; rw [Tryd.underlying51, info51]; rfl
@[go_sem] theorem zeroA51 : zeroA Tryd.prog 51 = some (.agg [(.int IntKind.i64 0), (.int IntKind.i64 0), (.int IntKind.i64 0), (.int IntKind.i64 0)]) := by unfold zeroA; rw [info51]; rfl
@[go_sem] theorem zeroOk51 : zeroOk Tryd.prog 51 = true := by unfold zeroOk; rw [zeroA51, cellsOf51]; rfl
@[go_sem] theorem field51_0 : fieldInfo Tryd.prog 51 0 = some (0, 3) := by unfold fieldInfo; rw [Tryd.underlying51]; show (match Tryd.prog.info? 3 with | some i => if i.size = 0 then none else some (0, 3) | none => none) = _; rw [info3]; rfl
@[go_sem] theorem field51_1 : fieldInfo Tryd.prog 51 1 = some (1, 3) := by unfold fieldInfo; rw [Tryd.underlying51]; show (match Tryd.prog.info? 3 with | some i => if i.size = 0 then none else some (1, 3) | none => none) = _; rw [info3]; rfl
@[go_sem] theorem field51_2 : fieldInfo Tryd.prog 51 2 = some (2, 39) := by unfold fieldInfo; rw [Tryd.underlying51]; show (match Tryd.prog.info? 39 with | some i => if i.size = 0 then none else some (2, 39) | none => none) = _; rw [info39]; rfl
attribute [go_sem] Tryd.underlying51
attribute [go_sem] Tryd.underlying52
attribute [go_sem] Tryd.underlying53
attribute [go_sem] Tryd.underlying54
attribute [go_sem] Tryd.underlying55
@[go_sem] theorem cellsOf56 : Tryd.prog.cellsOf 56 = 1 := by unfold Program.cellsOf; rw [info56]; rfl
@[go_sem] theorem takeVar56 (cs : List PV) : takeVar Tryd.prog 56 cs = cs[0]? := by unfold takeVar isAggT; rw [Tryd.underlying56, info56]
@[go_sem] theorem zeroA56 : zeroA Tryd.prog 56 = some .emp := by unfold zeroA; rw [info56]; rfl
attribute [go_sem] Tryd.underlying56
attribute [go_sem] Tryd.underlying57
attribute [go_sem] Tryd.underlying58
attribute [go_sem] Tryd.underlying59
attribute [go_sem] Tryd.underlying60
attribute [go_sem] Tryd.underlying62
attribute [go_sem] Tryd.underlying63
attribute [go_sem] Tryd.underlying64
attribute [go_sem] Tryd.underlying65
attribute [go_sem] Tryd.underlying66
@[go_sem] theorem zeroA68 : zeroA Tryd.prog 68 = some (.agg [.emp, (.int IntKind.i64 0)]) := by unfold zeroA; rw [info68]; rfl
@[go_sem] theorem field68_0 : fieldInfo Tryd.prog 68 0 = some (0, 22) := by unfold fieldInfo; rw [Tryd.underlying68]; show (match Tryd.prog.info? 22 with | some i => if i.size = 0 then none else some (0, 22) | none => none) = _; rw [info22]; rfl
@[go_sem] theorem field68_1 : fieldInfo Tryd.prog 68 1 = some (1, 3) := by unfold fieldInfo; rw [Tryd.underlying68]; show (match Tryd.prog.info? 3 with | some i => if i.size = 0 then none else some (1, 3) | none => none) = _; rw [info3]; rfl
attribute [go_sem] Tryd.underlying68
@[go_sem] theorem cellsOf70 : Tryd.prog.cellsOf 70 = 1 := by unfold Program.cellsOf; rw [info70]; rfl
@[go_sem] theorem takeVar70 (cs : List PV) : takeVar Tryd.prog 70 cs = cs[0]? := by unfold takeVar isAggT; rw [Tryd.underlying70, info70]
@[go_sem] theorem zeroA70 : zeroA Tryd.prog 70 = some .nilfn := by unfold zeroA; rw [info70]; rfl
attribute [go_sem] Tryd.underlying70
attribute [go_sem] Tryd.underlying71
attribute [go_sem] Tryd.underlying73
attribute [go_sem] Tryd.underlying74
attribute [go_sem] Tryd.underlying75
attribute [go_sem] Tryd.underlying76
attribute [go_sem] Tryd.underlying78
attribute [go_sem] Tryd.underlying79
attribute [go_sem] Tryd.underlying81
attribute [go_sem] Tryd.underlying83
attribute [go_sem] Tryd.underlying86
attribute [go_sem] Tryd.underlying87
attribute [go_sem] Tryd.underlying90
attribute [go_sem] Tryd.underlying92
attribute [go_sem] Tryd.underlying95
attribute [go_sem] Tryd.underlying96
@[go_sem] theorem takeVar97 (cs : List PV) : takeVar Tryd.prog 97 cs = cs[0]? := by unfold takeVar isAggT; rw [Tryd.underlying97, info97]
attribute [go_sem] Tryd.underlying97
attribute [go_sem] Tryd.underlying98
@[go_sem] theorem zeroA99 : zeroA Tryd.prog 99 = some (.agg []) := by unfold zeroA; rw [info99]; rfl
attribute [go_sem] Tryd.underlying99
@[go_sem] theorem zeroA100 : zeroA Tryd.prog 100 = some (.agg []) := by unfold zeroA; rw [info100]; rfl
attribute [go_sem] Tryd.underlying100
attribute [go_sem] Tryd.underlying101
@[go_sem] theorem zeroA102 : zeroA Tryd.prog 102 = some (.agg []) := by unfold zeroA; rw [info102]; rfl
attribute [go_sem] Tryd.underlying102
@[go_sem] theorem zeroA103 : zeroA Tryd.prog 103 = some (.agg []) := by unfold zeroA; rw [info103]; rfl
attribute [go_sem] Tryd.underlying103
attribute [go_sem] Tryd.underlying104
attribute [go_sem] Tryd.underlying105
attribute [go_sem] Tryd.underlying106
attribute [go_sem] Tryd.underlying107
attribute [go_sem] Tryd.underlying109
attribute [go_sem] Tryd.underlying110
attribute [go_sem] Tryd.underlying111
attribute [go_sem] Tryd.underlying112
attribute [go_sem] Tryd.underlying113
attribute [go_sem] Tryd.underlying114
attribute [go_sem] Tryd.underlying115
attribute [go_sem] Tryd.underlying116
attribute [go_sem] Tryd.underlying117
attribute [go_sem] Tryd.underlying118
attribute [go_sem] Tryd.underlying119
attribute [go_sem] Tryd.underlying120
attribute [go_sem] Tryd.underlying121
attribute [go_sem] Tryd.underlying122
attribute [go_sem] Tryd.underlying126
attribute [go_sem] Tryd.underlying128
attribute [go_sem] Tryd.underlying129
attribute [go_sem] Tryd.underlying131
attribute [go_sem] Tryd.underlying137
attribute [go_sem] Tryd.underlying139
attribute [go_sem] Tryd.underlying141
attribute [go_sem] Tryd.underlying142
attribute [go_sem] Tryd.underlying148
@[go_sem] theorem buildA26 (ps : List (Nat × PV)) : buildA Tryd.prog 26 ps = (match fillL [(0, 1), (1, 1), (2, 1)] [(.int IntKind.i64 0), .emp, .emp] ps with | some cs => some (.agg cs) | none => none) := buildA_of zeroA26 (placesA_struct Tryd.underlying26 (by simp only [List.all_cons, List.all_nil, has3, has23, has24, Bool.and_self]) (by simp only [List.map_cons, List.map_nil, cellsOf3, cellsOf23, cellsOf24])) ps
@[go_sem] theorem buildA39 (ps : List (Nat × PV)) : buildA Tryd.prog 39 ps = (match fillL [(0, 1), (1, 1)] [(.int IntKind.i64 0), (.int IntKind.i64 0)] ps with | some cs => some (.agg cs) | none => none) := buildA_of zeroA39 (placesA_struct Tryd.underlying39 (by simp only [List.all_cons, List.all_nil, has3, Bool.and_self]) (by simp only [List.map_cons, List.map_nil, cellsOf3])) ps
@[go_sem] theorem buildA42 (ps : List (Nat × PV)) : buildA Tryd.prog 42 ps = (match fillL [(0, 1), (1, 1), (2, 2), (4, 1)] [(.int IntKind.i64 0), (.int IntKind.i64 0), (.int IntKind.i64 0), (.int IntKind.i64 0), .emp] ps with | some cs => some (.agg cs) | none => none) := buildA_of zeroA42 (placesA_struct Tryd.underlying42 (by simp only [List.all_cons, List.all_nil, has3, has39, has40, Bool.and_self]) (by simp only [List.map_cons, List.map_nil, cellsOf3, cellsOf39, cellsOf40])) ps
@[go_sem] theorem buildA44 (ps : List (Nat × PV)) : buildA Tryd.prog 44 ps = (match fillL [(0, 1), (1, 1), (2, 5)] [.emp, .emp, (.int IntKind.i64 0), (.int IntKind.i64 0), (.int IntKind.i64 0), (.int IntKind.i64 0), .emp] ps with | some cs => some (.agg cs) | none => none) := buildA_of zeroA44 (placesA_struct Tryd.underlying44 (by simp only [List.all_cons, List.all_nil, has37, has42, Bool.and_self]) (by simp only [List.map_cons, List.map_nil, cellsOf37, cellsOf42])) ps
@[go_sem] theorem buildA51 (ps : List (Nat × PV)) : buildA Tryd.prog 51 ps = (match fillL [(0, 1), (1, 1), (2, 2)] [(.int IntKind.i64 0), (.int IntKind.i64 0), (.int IntKind.i64 0), (.int IntKind.i64 0)] ps with | some cs => some (.agg cs) | none => none) := buildA_of zeroA51 (placesA_struct Tryd.underlying51 (by simp only [List.all_cons, List.all_nil, has3, has39, Bool.and_self]) (by simp only [List.map_cons, List.map_nil, cellsOf3, cellsOf39])) ps
@[go_sem] theorem buildA68 (ps : List (Nat × PV)) : buildA Tryd.prog 68 ps = (match fillL [(0, 1), (1, 1)] [.emp, (.int IntKind.i64 0)] ps with | some cs => some (.agg cs) | none => none) := buildA_of zeroA68 (placesA_struct Tryd.underlying68 (by simp only [List.all_cons, List.all_nil, has3, has22, Bool.and_self]) (by simp only [List.map_cons, List.map_nil, cellsOf3, cellsOf22])) ps
end Go.Proofs.YtnmfmeehmieifaaDoor
