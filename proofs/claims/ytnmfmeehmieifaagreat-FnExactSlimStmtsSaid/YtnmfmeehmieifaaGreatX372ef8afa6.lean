/- A part of a proof: lemmas and contracts of functions; the last text of the claim says what is proved. -/
import Derived.Test.YtnmfmeehmieifaaGreatXce98a9ec91
import Derived.Test.YtnmfmeehmieifaaGreatChecked
set_option linter.unusedSectionVars false
set_option linter.unusedSimpArgs false
set_option linter.unusedVariables false
namespace Go.Proofs.YtnmfmeehmieifaaGreat
open Go Sg
set_option maxRecDepth 100000
theorem info3 : Tryz.prog.info? 3 = some Tryz.t3 := by unfold Tables.info?; exact Tryz.type3
theorem info4 : Tryz.prog.info? 4 = some Tryz.t4 := by unfold Tables.info?; exact Tryz.type4
theorem info22 : Tryz.prog.info? 22 = some Tryz.t22 := by unfold Tables.info?; exact Tryz.type22
theorem info24 : Tryz.prog.info? 24 = some Tryz.t24 := by unfold Tables.info?; exact Tryz.type24
theorem info67 : Tryz.prog.info? 67 = some Tryz.t67 := by unfold Tables.info?; exact Tryz.type67
theorem info68 : Tryz.prog.info? 68 = some Tryz.t68 := by unfold Tables.info?; exact Tryz.type68
theorem info70 : Tryz.prog.info? 70 = some Tryz.t70 := by unfold Tables.info?; exact Tryz.type70
theorem info72 : Tryz.prog.info? 72 = some Tryz.t72 := by unfold Tables.info?; exact Tryz.type72
theorem info74 : Tryz.prog.info? 74 = some Tryz.t74 := by unfold Tables.info?; exact Tryz.type74
theorem info75 : Tryz.prog.info? 75 = some Tryz.t75 := by unfold Tables.info?; exact Tryz.type75
theorem info77 : Tryz.prog.info? 77 = some Tryz.t77 := by unfold Tables.info?; exact Tryz.type77
theorem info79 : Tryz.prog.info? 79 = some Tryz.t79 := by unfold Tables.info?; exact Tryz.type79
theorem info122 : Tryz.prog.info? 122 = some Tryz.t122 := by unfold Tables.info?; exact Tryz.type122
theorem info190 : Tryz.prog.info? 190 = some Tryz.t190 := by unfold Tables.info?; exact Tryz.type190
theorem info191 : Tryz.prog.info? 191 = some Tryz.t191 := by unfold Tables.info?; exact Tryz.type191
theorem info193 : Tryz.prog.info? 193 = some Tryz.t193 := by unfold Tables.info?; exact Tryz.type193
theorem info198 : Tryz.prog.info? 198 = some Tryz.t198 := by unfold Tables.info?; exact Tryz.type198
theorem info199 : Tryz.prog.info? 199 = some Tryz.t199 := by unfold Tables.info?; exact Tryz.type199
theorem info203 : Tryz.prog.info? 203 = some Tryz.t203 := by unfold Tables.info?; exact Tryz.type203
theorem info205 : Tryz.prog.info? 205 = some Tryz.t205 := by unfold Tables.info?; exact Tryz.type205
theorem info207 : Tryz.prog.info? 207 = some Tryz.t207 := by unfold Tables.info?; exact Tryz.type207
theorem info236 : Tryz.prog.info? 236 = some Tryz.t236 := by unfold Tables.info?; exact Tryz.type236
theorem info237 : Tryz.prog.info? 237 = some Tryz.t237 := by unfold Tables.info?; exact Tryz.type237
theorem info238 : Tryz.prog.info? 238 = some Tryz.t238 := by unfold Tables.info?; exact Tryz.type238
theorem info239 : Tryz.prog.info? 239 = some Tryz.t239 := by unfold Tables.info?; exact Tryz.type239
theorem info240 : Tryz.prog.info? 240 = some Tryz.t240 := by unfold Tables.info?; exact Tryz.type240
attribute [go_sem] Tryz.underlying1
attribute [go_sem] Tryz.underlying2
@[go_sem] theorem has3 : (Tryz.prog.info? 3).isSome = true := by rw [info3]; rfl
@[go_sem] theorem cellsOf3 : Tryz.prog.cellsOf 3 = 1 := by unfold Program.cellsOf; rw [info3]; rfl
@[go_sem] theorem takeVar3 (cs : List PV) : takeVar Tryz.prog 3 cs = cs[0]? := by unfold takeVar isAggT; rw [Tryz.underlying3, info3]
@[go_sem] theorem partA3 (cs : List PV) (k : Nat) : partA Tryz.prog 3 cs k = cs[k]? := by unfold partA isAggT; rw [Tryz.underlying3, info3]
@[go_sem] theorem zeroA3 : zeroA Tryz.prog 3 = some (.int IntKind.i64 0) := by unfold zeroA; rw [info3]; rfl
attribute [go_sem] Tryz.underlying3
@[go_sem] theorem cellsOf4 : Tryz.prog.cellsOf 4 = 1 := by unfold Program.cellsOf; rw [info4]; rfl
@[go_sem] theorem takeVar4 (cs : List PV) : takeVar Tryz.prog 4 cs = cs[0]? := by unfold takeVar isAggT; rw [Tryz.underlying4, info4]
@[go_sem] theorem zeroA4 : zeroA Tryz.prog 4 = some (.bool false) := by unfold zeroA; rw [info4]; rfl
attribute [go_sem] Tryz.underlying4
attribute [go_sem] Tryz.underlying5
attribute [go_sem] Tryz.underlying6
attribute [go_sem] Tryz.underlying7
attribute [go_sem] Tryz.underlying8
attribute [go_sem] Tryz.underlying9
attribute [go_sem] Tryz.underlying10
attribute [go_sem] Tryz.underlying11
attribute [go_sem] Tryz.underlying13
attribute [go_sem] Tryz.underlying14
attribute [go_sem] Tryz.underlying16
attribute [go_sem] Tryz.underlying19
attribute [go_sem] Tryz.underlying20
@[go_sem] theorem cellsOf22 : Tryz.prog.cellsOf 22 = 1 := by unfold Program.cellsOf; rw [info22]; rfl
@[go_sem] theorem takeVar22 (cs : List PV) : takeVar Tryz.prog 22 cs = cs[0]? := by unfold takeVar isAggT; rw [Tryz.underlying22, info22]
attribute [go_sem] Tryz.underlying22
@[go_sem] theorem has24 : (Tryz.prog.info? 24).isSome = true := by rw [info24]; rfl
@[go_sem] theorem cellsOf24 : Tryz.prog.cellsOf 24 = 1 := by unfold Program.cellsOf; rw [info24]; rfl
@[go_sem] theorem takeVar24 (cs : List PV) : takeVar Tryz.prog 24 cs = cs[0]? := by unfold takeVar isAggT; rw [Tryz.underlying24, info24]
attribute [go_sem] Tryz.underlying24
attribute [go_sem] Tryz.underlying25
attribute [go_sem] Tryz.underlying26
attribute [go_sem] Tryz.underlying27
attribute [go_sem] Tryz.underlying28
attribute [go_sem] Tryz.underlying30
attribute [go_sem] Tryz.underlying31
attribute [go_sem] Tryz.underlying32
attribute [go_sem] Tryz.underlying33
attribute [go_sem] Tryz.underlying34
attribute [go_sem] Tryz.underlying35
attribute [go_sem] Tryz.underlying36
attribute [go_sem] Tryz.underlying37
attribute [go_sem] Tryz.underlying38
attribute [go_sem] Tryz.underlying39
attribute [go_sem] Tryz.underlying40
attribute [go_sem] Tryz.underlying41
attribute [go_sem] Tryz.underlying42
attribute [go_sem] Tryz.underlying44
attribute [go_sem] Tryz.underlying45
attribute [go_sem] Tryz.underlying46
attribute [go_sem] Tryz.underlying47
attribute [go_sem] Tryz.underlying48
attribute [go_sem] Tryz.underlying49
attribute [go_sem] Tryz.underlying50
attribute [go_sem] Tryz.underlying51
attribute [go_sem] Tryz.underlying52
attribute [go_sem] Tryz.underlying57
attribute [go_sem] Tryz.underlying59
attribute [go_sem] Tryz.underlying60
attribute [go_sem] Tryz.underlying61
attribute [go_sem] Tryz.underlying62
attribute [go_sem] Tryz.underlying64
@[go_sem] theorem cellsOf67 : Tryz.prog.cellsOf 67 = 2 := by unfold Program.cellsOf; rw [info67]; rfl
@[go_sem] theorem takeVar67 (cs : List PV) : takeVar Tryz.prog 67 cs = if 2 ≤ cs.length then some (.agg (cs.take 2)) else none := by unfold takeVar isAggT; rw [Tryz.underlying67, info67]; rfl
@[go_sem] theorem field67_0 : fieldInfo Tryz.prog 67 0 = some (0, 3) := by unfold fieldInfo; rw [Tryz.underlying67]; show (match Tryz.prog.info? 3 with | some i => if i.size = 0 then none else some (0, 3) | none => none) = _; rw [info3]; rfl
@[go_sem] theorem field67_1 : fieldInfo Tryz.prog 67 1 = some (1, 3) := by unfold fieldInfo; rw [Tryz.underlying67]; show (match Tryz.prog.info? 3 with | some i => if i.size = 0 then none else some (1, 3) | none => none) = _; rw [info3]; rfl
attribute [go_sem] Tryz.underlying67
@[go_sem] theorem cellsOf68 : Tryz.prog.cellsOf 68 = 1 := by unfold Program.cellsOf; rw [info68]; rfl
@[go_sem] theorem takeVar68 (cs : List PV) : takeVar Tryz.prog 68 cs = cs[0]? := by unfold takeVar isAggT; rw [Tryz.underlying68, info68]
attribute [go_sem] Tryz.underlying68
@[go_sem] theorem cellsOf70 : Tryz.prog.cellsOf 70 = 5 := by unfold Program.cellsOf; rw [info70]; rfl
@[go_sem] theorem takeVar70 (cs : List PV) : takeVar Tryz.prog 70 cs = if 5 ≤ cs.length then some (.agg (cs.take 5)) else none := by unfold takeVar isAggT; rw [Tryz.underlying70, info70]; rfl
@[go_sem] theorem field70_0 : fieldInfo Tryz.prog 70 0 = some (0, 3) := by unfold fieldInfo; rw [Tryz.underlying70]; show (match Tryz.prog.info? 3 with | some i => if i.size = 0 then none else some (0, 3) | none => none) = _; rw [info3]; rfl
@[go_sem] theorem field70_1 : fieldInfo Tryz.prog 70 1 = some (1, 3) := by unfold fieldInfo; rw [Tryz.underlying70]; show (match Tryz.prog.info? 3 with | some i => if i.size = 0 then none else some (1, 3) | none => none) = _; rw [info3]; rfl
@[go_sem] theorem field70_2 : fieldInfo Tryz.prog 70 2 = some (2, 67) := by unfold fieldInfo; rw [Tryz.underlying70]; show (match Tryz.prog.info? 67 with | some i => if i.size = 0 then none else some (2, 67) | none => none) = _; rw [info67]; rfl
@[go_sem] theorem field70_3 : fieldInfo Tryz.prog 70 3 = some (4, 68) := by unfold fieldInfo; rw [Tryz.underlying70]; show (match Tryz.prog.info? 68 with | some i => if i.size = 0 then none else some (4, 68) | none => none) = _; rw [info68]; rfl
attribute [go_sem] Tryz.underlying70
attribute [go_sem] Tryz.underlying71
@[go_sem] theorem cellsOf72 : Tryz.prog.cellsOf 72 = 10 := by unfold Program.cellsOf; rw [info72]; rfl
@[go_sem] theorem takeVar72 (cs : List PV) : takeVar Tryz.prog 72 cs = if 10 ≤ cs.length then some (.agg (cs.take 10)) else none := by unfold takeVar isAggT; rw [Tryz.underlying72, info72]; rfl
@[go_sem] theorem field72_0 : fieldInfo Tryz.prog 72 0 = some (0, 3) := by unfold fieldInfo; rw [Tryz.underlying72]; show (match Tryz.prog.info? 3 with | some i => if i.size = 0 then none else some (0, 3) | none => none) = _; rw [info3]; rfl
@[go_sem] theorem field72_1 : fieldInfo Tryz.prog 72 1 = some (1, 67) := by unfold fieldInfo; rw [Tryz.underlying72]; show (match Tryz.prog.info? 67 with | some i => if i.size = 0 then none else some (1, 67) | none => none) = _; rw [info67]; rfl
@[go_sem] theorem field72_2 : fieldInfo Tryz.prog 72 2 = some (3, 70) := by unfold fieldInfo; rw [Tryz.underlying72]; show (match Tryz.prog.info? 70 with | some i => if i.size = 0 then none else some (3, 70) | none => none) = _; rw [info70]; rfl
@[go_sem] theorem field72_3 : fieldInfo Tryz.prog 72 3 = some (8, 22) := by unfold fieldInfo; rw [Tryz.underlying72]; show (match Tryz.prog.info? 22 with | some i => if i.size = 0 then none else some (8, 22) | none => none) = _; rw [info22]; rfl
@[go_sem] theorem field72_4 : fieldInfo Tryz.prog 72 4 = some (9, 22) := by unfold fieldInfo; rw [Tryz.underlying72]; show (match Tryz.prog.info? 22 with | some i => if i.size = 0 then none else some (9, 22) | none => none) = _; rw [info22]; rfl
attribute [go_sem] Tryz.underlying72
@[go_sem] theorem has74 : (Tryz.prog.info? 74).isSome = true := by rw [info74]; rfl
@[go_sem] theorem cellsOf74 : Tryz.prog.cellsOf 74 = 2 := by unfold Program.cellsOf; rw [info74]; rfl
@[go_sem] theorem takeVar74 (cs : List PV) : takeVar Tryz.prog 74 cs = if 2 ≤ cs.length then some (.agg (cs.take 2)) else none := by unfold takeVar isAggT; rw [Tryz.underlying74, info74]; rfl
@[go_sem] theorem zeroA74 : zeroA Tryz.prog 74 = some (.agg [(.int IntKind.i64 0), (.int IntKind.i64 0)]) := by unfold zeroA; rw [info74]; rfl
@[go_sem] theorem field74_0 : fieldInfo Tryz.prog 74 0 = some (0, 3) := by unfold fieldInfo; rw [Tryz.underlying74]; show (match Tryz.prog.info? 3 with | some i => if i.size = 0 then none else some (0, 3) | none => none) = _; rw [info3]; rfl
@[go_sem] theorem field74_1 : fieldInfo Tryz.prog 74 1 = some (1, 3) := by unfold fieldInfo; rw [Tryz.underlying74]; show (match Tryz.prog.info? 3 with | some i => if i.size = 0 then none else some (1, 3) | none => none) = _; rw [info3]; rfl
attribute [go_sem] Tryz.underlying74
@[go_sem] theorem has75 : (Tryz.prog.info? 75).isSome = true := by rw [info75]; rfl
@[go_sem] theorem cellsOf75 : Tryz.prog.cellsOf 75 = 1 := by unfold Program.cellsOf; rw [info75]; rfl
@[go_sem] theorem takeVar75 (cs : List PV) : takeVar Tryz.prog 75 cs = cs[0]? := by unfold takeVar isAggT; rw [Tryz.underlying75, info75]
attribute [go_sem] Tryz.underlying75
attribute [go_sem] Tryz.underlying76
@[go_sem] theorem has77 : (Tryz.prog.info? 77).isSome = true := by rw [info77]; rfl
@[go_sem] theorem cellsOf77 : Tryz.prog.cellsOf 77 = 5 := by unfold Program.cellsOf; rw [info77]; rfl
@[go_sem] theorem bytesOf77 : bytesOf Tryz.prog 77 = 56 := by unfold bytesOf; rw [info77]; rfl
@[go_sem] theorem takeVar77 (cs : List PV) : takeVar Tryz.prog 77 cs = if 5 ≤ cs.length then some (.agg (cs.take 5)) else none := by unfold takeVar isAggT; rw [Tryz.underlying77, info77]; rfl
@[go_sem] theorem zeroA77 : zeroA Tryz.prog 77 = some (.agg [(.int IntKind.i64 0), (.int IntKind.i64 0), (.int IntKind.i64 0), (.int IntKind.i64 0), .emp]) := by unfold zeroA; rw [info77]; rfl
@[go_sem] theorem zeroOk77 : zeroOk Tryz.prog 77 = true := by unfold zeroOk; rw [zeroA77, cellsOf77]; rfl
@[go_sem] theorem field77_0 : fieldInfo Tryz.prog 77 0 = some (0, 3) := by unfold fieldInfo; rw [Tryz.underlying77]; show (match Tryz.prog.info? 3 with | some i => if i.size = 0 then none else some (0, 3) | none => none) = _; rw [info3]; rfl
@[go_sem] theorem field77_1 : fieldInfo Tryz.prog 77 1 = some (1, 3) := by unfold fieldInfo; rw [Tryz.underlying77]; show (match Tryz.prog.info? 3 with | some i => if i.size = 0 then none else some (1, 3) | none => none) = _; rw [info3]; rfl
@[go_sem] theorem field77_2 : fieldInfo Tryz.prog 77 2 = some (2, 74) := by unfold fieldInfo; rw [Tryz.underlying77]; show (match Tryz.prog.info? 74 with | some i => if i.size = 0 then none else some (2, 74) | none => none) = _; rw [info74]; rfl
@[go_sem] theorem field77_3 : fieldInfo Tryz.prog 77 3 = some (4, 75) := by unfold fieldInfo; rw [Tryz.underlying77]; show (match Tryz.prog.info? 75 with | some i => if i.size = 0 then none else some (4, 75) | none => none) = _; rw [info75]; rfl
attribute [go_sem] Tryz.underlying77
@[go_sem] theorem has79 : (Tryz.prog.info? 79).isSome = true := by rw [info79]; rfl
@[go_sem] theorem cellsOf79 : Tryz.prog.cellsOf 79 = 10 := by unfold Program.cellsOf; rw [info79]; rfl
@[go_sem] theorem bytesOf79 : bytesOf Tryz.prog 79 = 128 := by unfold bytesOf; rw [info79]; rfl
@[go_sem] theorem takeVar79 (cs : List PV) : takeVar Tryz.prog 79 cs = if 10 ≤ cs.length then some (.agg (cs.take 10)) else none := by unfold takeVar isAggT; rw [Tryz.underlying79, info79]; rfl
@[go_sem] theorem zeroA79 : zeroA Tryz.prog 79 = some (.agg [(.int IntKind.i64 0), (.int IntKind.i64 0), (.int IntKind.i64 0), (.int IntKind.i64 0), (.int IntKind.i64 0), (.int IntKind.i64 0), (.int IntKind.i64 0), .emp, .emp, .emp]) := by unfold zeroA; rw [info79]; rfl
@[go_sem] theorem zeroOk79 : zeroOk Tryz.prog 79 = true := by unfold zeroOk; rw [zeroA79, cellsOf79]; rfl
@[go_sem] theorem field79_0 : fieldInfo Tryz.prog 79 0 = some (0, 3) := by unfold fieldInfo; rw [Tryz.underlying79]; show (match Tryz.prog.info? 3 with | some i => if i.size = 0 then none else some (0, 3) | none => none) = _; rw [info3]; rfl
@[go_sem] theorem field79_1 : fieldInfo Tryz.prog 79 1 = some (1, 74) := by unfold fieldInfo; rw [Tryz.underlying79]; show (match Tryz.prog.info? 74 with | some i => if i.size = 0 then none else some (1, 74) | none => none) = _; rw [info74]; rfl
@[go_sem] theorem field79_2 : fieldInfo Tryz.prog 79 2 = some (3, 77) := by unfold fieldInfo; rw [Tryz.underlying79]; show (match Tryz.prog.info? 77 with | some i => if i.size = 0 then none else some (3, 77) | none => none) = _; rw [info77]; rfl
@[go_sem] theorem field79_3 : fieldInfo Tryz.prog 79 3 = some (8, 24) := by unfold fieldInfo; rw [Tryz.underlying79]; show (match Tryz.prog.info? 24 with | some i => if i.size = 0 then none else some (8, 24) | none => none) = _; rw [info24]; rfl
@[go_sem] theorem field79_4 : fieldInfo Tryz.prog 79 4 = some (9, 24) := by unfold fieldInfo; rw [Tryz.underlying79]; show (match Tryz.prog.info? 24 with | some i => if i.size = 0 then none else some (9, 24) | none => none) = _; rw [info24]; rfl
attribute [go_sem] Tryz.underlying79
attribute [go_sem] Tryz.underlying85
attribute [go_sem] Tryz.underlying87
attribute [go_sem] Tryz.underlying88
attribute [go_sem] Tryz.underlying89
attribute [go_sem] Tryz.underlying90
attribute [go_sem] Tryz.underlying92
attribute [go_sem] Tryz.underlying94
attribute [go_sem] Tryz.underlying95
attribute [go_sem] Tryz.underlying96
attribute [go_sem] Tryz.underlying98
attribute [go_sem] Tryz.underlying99
attribute [go_sem] Tryz.underlying101
attribute [go_sem] Tryz.underlying102
attribute [go_sem] Tryz.underlying103
attribute [go_sem] Tryz.underlying104
attribute [go_sem] Tryz.underlying106
attribute [go_sem] Tryz.underlying107
attribute [go_sem] Tryz.underlying111
attribute [go_sem] Tryz.underlying113
attribute [go_sem] Tryz.underlying114
attribute [go_sem] Tryz.underlying116
attribute [go_sem] Tryz.underlying119
attribute [go_sem] Tryz.underlying121
@[go_sem] theorem cellsOf122 : Tryz.prog.cellsOf 122 = 1 := by unfold Program.cellsOf; rw [info122]; rfl
@[go_sem] theorem takeVar122 (cs : List PV) : takeVar Tryz.prog 122 cs = cs[0]? := by unfold takeVar isAggT; rw [Tryz.underlying122, info122]
@[go_sem] theorem zeroA122 : zeroA Tryz.prog 122 = some .nilfn := by unfold zeroA; rw [info122]; rfl
attribute [go_sem] Tryz.underlying122
attribute [go_sem] Tryz.underlying123
attribute [go_sem] Tryz.underlying126
attribute [go_sem] Tryz.underlying127
attribute [go_sem] Tryz.underlying129
attribute [go_sem] Tryz.underlying132
attribute [go_sem] Tryz.underlying133
attribute [go_sem] Tryz.underlying135
attribute [go_sem] Tryz.underlying136
attribute [go_sem] Tryz.underlying139
attribute [go_sem] Tryz.underlying141
attribute [go_sem] Tryz.underlying142
attribute [go_sem] Tryz.underlying150
attribute [go_sem] Tryz.underlying151
attribute [go_sem] Tryz.underlying152
attribute [go_sem] Tryz.underlying154
attribute [go_sem] Tryz.underlying156
attribute [go_sem] Tryz.underlying158
attribute [go_sem] Tryz.underlying164
attribute [go_sem] Tryz.underlying166
attribute [go_sem] Tryz.underlying170
attribute [go_sem] Tryz.underlying172
attribute [go_sem] Tryz.underlying175
attribute [go_sem] Tryz.underlying176
attribute [go_sem] Tryz.underlying177
attribute [go_sem] Tryz.underlying181
attribute [go_sem] Tryz.underlying182
attribute [go_sem] Tryz.underlying184
@[go_sem] theorem has190 : (Tryz.prog.info? 190).isSome = true := by rw [info190]; rfl
@[go_sem] theorem cellsOf190 : Tryz.prog.cellsOf 190 = 6 := by unfold Program.cellsOf; rw [info190]; rfl
attribute [go_sem] Tryz.underlying190
@[go_sem] theorem has191 : (Tryz.prog.info? 191).isSome = true := by rw [info191]; rfl
@[go_sem] theorem cellsOf191 : Tryz.prog.cellsOf 191 = 18 := by unfold Program.cellsOf; rw [info191]; rfl
attribute [go_sem] Tryz.underlying191
@[go_sem] theorem zeroA193 : zeroA Tryz.prog 193 = some (.agg [(.int IntKind.i64 0), (.int IntKind.i64 0), (.int IntKind.i64 0), (.int IntKind.i64 0), (.int IntKind.i64 0), (.int IntKind.i64 0), (.int IntKind.i64 0), (.int IntKind.i64 0), (.int IntKind.i64 0), (.int IntKind.i64 0), (.int IntKind.i64 0), (.int IntKind.i64 0), (.int IntKind.i64 0), (.int IntKind.i64 0), (.int IntKind.i64 0), (.int IntKind.i64 0), (.int IntKind.i64 0), (.int IntKind.i64 0)]) := by unfold zeroA; rw [info193]; rfl
@[go_sem] theorem field193_0 : fieldInfo Tryz.prog 193 0 = some (0, 191) := by unfold fieldInfo; rw [Tryz.underlying193]; show (match Tryz.prog.info? 191 with | some i => if i.size = 0 then none else some (0, 191) | none => none) = _; rw [info191]; rfl
attribute [go_sem] Tryz.underlying193
attribute [go_sem] Tryz.underlying194
@[go_sem] theorem has198 : (Tryz.prog.info? 198).isSome = true := by rw [info198]; rfl
@[go_sem] theorem cellsOf198 : Tryz.prog.cellsOf 198 = 1 := by unfold Program.cellsOf; rw [info198]; rfl
@[go_sem] theorem partA198 (cs : List PV) (k : Nat) : partA Tryz.prog 198 cs k = cs[k]? := by unfold partA isAggT; rw [Tryz.underlying198, info198]
attribute [go_sem] Tryz.underlying198
@[go_sem] theorem cellsOf199 : Tryz.prog.cellsOf 199 = 5 := by unfold Program.cellsOf; rw [info199]; rfl
@[go_sem] theorem takeVar199 (cs : List PV) : takeVar Tryz.prog 199 cs = if 5 ≤ cs.length then some (.agg (cs.take 5)) else none := by unfold takeVar isAggT; rw [Tryz.underlying199, info199]; rfl
@[go_sem] theorem zeroA199 : zeroA Tryz.prog 199 = some (.agg [.nilfn, .nilfn, .nilfn, .nilfn, .nilfn]) := by unfold zeroA; rw [info199]; rfl
attribute [go_sem] Tryz.underlying199
@[go_sem] theorem zeroA203 : zeroA Tryz.prog 203 = some (.agg [(.int IntKind.i64 0), (.int IntKind.i64 0), (.int IntKind.i64 0), (.int IntKind.i64 0), (.int IntKind.i64 0), (.int IntKind.i64 0), .emp]) := by unfold zeroA; rw [info203]; rfl
@[go_sem] theorem field203_0 : fieldInfo Tryz.prog 203 0 = some (0, 74) := by unfold fieldInfo; rw [Tryz.underlying203]; show (match Tryz.prog.info? 74 with | some i => if i.size = 0 then none else some (0, 74) | none => none) = _; rw [info74]; rfl
@[go_sem] theorem field203_1 : fieldInfo Tryz.prog 203 1 = some (2, 77) := by unfold fieldInfo; rw [Tryz.underlying203]; show (match Tryz.prog.info? 77 with | some i => if i.size = 0 then none else some (2, 77) | none => none) = _; rw [info77]; rfl
attribute [go_sem] Tryz.underlying203
@[go_sem] theorem zeroA205 : zeroA Tryz.prog 205 = some (.agg [(.int IntKind.i64 0), (.int IntKind.i64 0), (.int IntKind.i64 0), (.int IntKind.i64 0), .emp, .emp, .emp]) := by unfold zeroA; rw [info205]; rfl
@[go_sem] theorem field205_0 : fieldInfo Tryz.prog 205 0 = some (0, 77) := by unfold fieldInfo; rw [Tryz.underlying205]; show (match Tryz.prog.info? 77 with | some i => if i.size = 0 then none else some (0, 77) | none => none) = _; rw [info77]; rfl
@[go_sem] theorem field205_1 : fieldInfo Tryz.prog 205 1 = some (5, 24) := by unfold fieldInfo; rw [Tryz.underlying205]; show (match Tryz.prog.info? 24 with | some i => if i.size = 0 then none else some (5, 24) | none => none) = _; rw [info24]; rfl
@[go_sem] theorem field205_2 : fieldInfo Tryz.prog 205 2 = some (6, 24) := by unfold fieldInfo; rw [Tryz.underlying205]; show (match Tryz.prog.info? 24 with | some i => if i.size = 0 then none else some (6, 24) | none => none) = _; rw [info24]; rfl
attribute [go_sem] Tryz.underlying205
@[go_sem] theorem zeroA207 : zeroA Tryz.prog 207 = some (.agg [(.int IntKind.i64 0), (.int IntKind.i64 0), (.int IntKind.i64 0), (.int IntKind.i64 0), .emp, .emp]) := by unfold zeroA; rw [info207]; rfl
@[go_sem] theorem field207_0 : fieldInfo Tryz.prog 207 0 = some (0, 77) := by unfold fieldInfo; rw [Tryz.underlying207]; show (match Tryz.prog.info? 77 with | some i => if i.size = 0 then none else some (0, 77) | none => none) = _; rw [info77]; rfl
attribute [go_sem] Tryz.underlying207
attribute [go_sem] Tryz.underlying210
attribute [go_sem] Tryz.underlying215
attribute [go_sem] Tryz.underlying218
attribute [go_sem] Tryz.underlying225
attribute [go_sem] Tryz.underlying227
attribute [go_sem] Tryz.underlying228
attribute [go_sem] Tryz.underlying234
@[go_sem] theorem zeroA236 : zeroA Tryz.prog 236 = some (.agg []) := by unfold zeroA; rw [info236]; rfl
attribute [go_sem] Tryz.underlying236
@[go_sem] theorem zeroA237 : zeroA Tryz.prog 237 = some (.agg []) := by unfold zeroA; rw [info237]; rfl
attribute [go_sem] Tryz.underlying237
@[go_sem] theorem zeroA238 : zeroA Tryz.prog 238 = some (.agg []) := by unfold zeroA; rw [info238]; rfl
attribute [go_sem] Tryz.underlying238
@[go_sem] theorem zeroA239 : zeroA Tryz.prog 239 = some (.agg []) := by unfold zeroA; rw [info239]; rfl
attribute [go_sem] Tryz.underlying239
@[go_sem] theorem takeVar240 (cs : List PV) : takeVar Tryz.prog 240 cs = cs[0]? := by unfold takeVar isAggT; rw [Tryz.underlying240, info240]
attribute [go_sem] Tryz.underlying240
attribute [go_sem] Tryz.underlying251
attribute [go_sem] Tryz.underlying256
attribute [go_sem] Tryz.underlying261
attribute [go_sem] Tryz.underlying274
attribute [go_sem] Tryz.underlying276
@[go_sem] theorem buildA74 (ps : List (Nat × PV)) : buildA Tryz.prog 74 ps = (match fillL [(0, 1), (1, 1)] [(.int IntKind.i64 0), (.int IntKind.i64 0)] ps with | some cs => some (.agg cs) | none => none) := buildA_of zeroA74 (placesA_struct Tryz.underlying74 (by simp only [List.all_cons, List.all_nil, has3, Bool.and_self]) (by simp only [List.map_cons, List.map_nil, cellsOf3])) ps
@[go_sem] theorem buildA77 (ps : List (Nat × PV)) : buildA Tryz.prog 77 ps = (match fillL [(0, 1), (1, 1), (2, 2), (4, 1)] [(.int IntKind.i64 0), (.int IntKind.i64 0), (.int IntKind.i64 0), (.int IntKind.i64 0), .emp] ps with | some cs => some (.agg cs) | none => none) := buildA_of zeroA77 (placesA_struct Tryz.underlying77 (by simp only [List.all_cons, List.all_nil, has3, has74, has75, Bool.and_self]) (by simp only [List.map_cons, List.map_nil, cellsOf3, cellsOf74, cellsOf75])) ps
@[go_sem] theorem buildA193 (ps : List (Nat × PV)) : buildA Tryz.prog 193 ps = (match fillL [(0, 18)] [(.int IntKind.i64 0), (.int IntKind.i64 0), (.int IntKind.i64 0), (.int IntKind.i64 0), (.int IntKind.i64 0), (.int IntKind.i64 0), (.int IntKind.i64 0), (.int IntKind.i64 0), (.int IntKind.i64 0), (.int IntKind.i64 0), (.int IntKind.i64 0), (.int IntKind.i64 0), (.int IntKind.i64 0), (.int IntKind.i64 0), (.int IntKind.i64 0), (.int IntKind.i64 0), (.int IntKind.i64 0), (.int IntKind.i64 0)] ps with | some cs => some (.agg cs) | none => none) := buildA_of zeroA193 (placesA_struct Tryz.underlying193 (by simp only [List.all_cons, List.all_nil, has191, Bool.and_self]) (by simp only [List.map_cons, List.map_nil, cellsOf191])) ps
@[go_sem] theorem buildA203 (ps : List (Nat × PV)) : buildA Tryz.prog 203 ps = (match fillL [(0, 2), (2, 5)] [(.int IntKind.i64 0), (.int IntKind.i64 0), (.int IntKind.i64 0), (.int IntKind.i64 0), (.int IntKind.i64 0), (.int IntKind.i64 0), .emp] ps with | some cs => some (.agg cs) | none => none) := buildA_of zeroA203 (placesA_struct Tryz.underlying203 (by simp only [List.all_cons, List.all_nil, has74, has77, Bool.and_self]) (by simp only [List.map_cons, List.map_nil, cellsOf74, cellsOf77])) ps
@[go_sem] theorem buildA205 (ps : List (Nat × PV)) : buildA Tryz.prog 205 ps = (match fillL [(0, 5), (5, 1), (6, 1)] [(.int IntKind.i64 0), (.int IntKind.i64 0), (.int IntKind.i64 0), (.int IntKind.i64 0), .emp, .emp, .emp] ps with | some cs => some (.agg cs) | none => none) := buildA_of zeroA205 (placesA_struct Tryz.underlying205 (by simp only [List.all_cons, List.all_nil, has24, has77, Bool.and_self]) (by simp only [List.map_cons, List.map_nil, cellsOf24, cellsOf77])) ps
@[go_sem] theorem buildA207 (ps : List (Nat × PV)) : buildA Tryz.prog 207 ps = (match fillL [(0, 5), (5, 1)] [(.int IntKind.i64 0), (.int IntKind.i64 0), (.int IntKind.i64 0), (.int IntKind.i64 0), .emp, .emp] ps with | some cs => some (.agg cs) | none => none) := buildA_of zeroA207 (placesA_struct Tryz.underlying207 (by simp only [List.all_cons, List.all_nil, has24, has77, Bool.and_self]) (by simp only [List.map_cons, List.map_nil, cellsOf24, cellsOf77])) ps
end Go.Proofs.YtnmfmeehmieifaaGreat
