/- A part of a proof: lemmas and contracts of functions; the last text of the claim says what is proved. -/
import Derived.Test.YtmicbfojofcigaaGreatXac8685dc9f
import Derived.Test.YtmicbfojofcigaaGreatChecked
set_option linter.unusedSectionVars false
set_option linter.unusedSimpArgs false
set_option linter.unusedVariables false
namespace Go.Proofs.YtmicbfojofcigaaGreat
open Go Sg
set_option maxRecDepth 100000
theorem info3 : Tryz.prog.info? 3 = some Tryz.t3 := by unfold Tables.info?; exact Tryz.type3
theorem info4 : Tryz.prog.info? 4 = some Tryz.t4 := by unfold Tables.info?; exact Tryz.type4
theorem info5 : Tryz.prog.info? 5 = some Tryz.t5 := by unfold Tables.info?; exact Tryz.type5
theorem info9 : Tryz.prog.info? 9 = some Tryz.t9 := by unfold Tables.info?; exact Tryz.type9
theorem info22 : Tryz.prog.info? 22 = some Tryz.t22 := by unfold Tables.info?; exact Tryz.type22
theorem info24 : Tryz.prog.info? 24 = some Tryz.t24 := by unfold Tables.info?; exact Tryz.type24
theorem info25 : Tryz.prog.info? 25 = some Tryz.t25 := by unfold Tables.info?; exact Tryz.type25
theorem info27 : Tryz.prog.info? 27 = some Tryz.t27 := by unfold Tables.info?; exact Tryz.type27
theorem info32 : Tryz.prog.info? 32 = some Tryz.t32 := by unfold Tables.info?; exact Tryz.type32
theorem info40 : Tryz.prog.info? 40 = some Tryz.t40 := by unfold Tables.info?; exact Tryz.type40
theorem info43 : Tryz.prog.info? 43 = some Tryz.t43 := by unfold Tables.info?; exact Tryz.type43
theorem info45 : Tryz.prog.info? 45 = some Tryz.t45 := by unfold Tables.info?; exact Tryz.type45
theorem info52 : Tryz.prog.info? 52 = some Tryz.t52 := by unfold Tables.info?; exact Tryz.type52
theorem info62 : Tryz.prog.info? 62 = some Tryz.t62 := by unfold Tables.info?; exact Tryz.type62
theorem info78 : Tryz.prog.info? 78 = some Tryz.t78 := by unfold Tables.info?; exact Tryz.type78
theorem info83 : Tryz.prog.info? 83 = some Tryz.t83 := by unfold Tables.info?; exact Tryz.type83
theorem info93 : Tryz.prog.info? 93 = some Tryz.t93 := by unfold Tables.info?; exact Tryz.type93
theorem info95 : Tryz.prog.info? 95 = some Tryz.t95 := by unfold Tables.info?; exact Tryz.type95
theorem info96 : Tryz.prog.info? 96 = some Tryz.t96 := by unfold Tables.info?; exact Tryz.type96
theorem info97 : Tryz.prog.info? 97 = some Tryz.t97 := by unfold Tables.info?; exact Tryz.type97
theorem info98 : Tryz.prog.info? 98 = some Tryz.t98 := by unfold Tables.info?; exact Tryz.type98
theorem info110 : Tryz.prog.info? 110 = some Tryz.t110 := by unfold Tables.info?; exact Tryz.type110
theorem info144 : Tryz.prog.info? 144 = some Tryz.t144 := by unfold Tables.info?; exact Tryz.type144
theorem info148 : Tryz.prog.info? 148 = some Tryz.t148 := by unfold Tables.info?; exact Tryz.type148
theorem info150 : Tryz.prog.info? 150 = some Tryz.t150 := by unfold Tables.info?; exact Tryz.type150
theorem info152 : Tryz.prog.info? 152 = some Tryz.t152 := by unfold Tables.info?; exact Tryz.type152
theorem info171 : Tryz.prog.info? 171 = some Tryz.t171 := by unfold Tables.info?; exact Tryz.type171
attribute [go_sem] Tryz.underlying1
attribute [go_sem] Tryz.underlying2
@[go_sem] theorem has3 : (Tryz.prog.info? 3).isSome = true := by rw [info3]; rfl
@[go_sem] theorem cellsOf3 : Tryz.prog.cellsOf 3 = 1 := by unfold Program.cellsOf; rw [info3]; rfl
@[go_sem] theorem bytesOf3 : bytesOf Tryz.prog 3 = 8 := by unfold bytesOf; rw [info3]; rfl
@[go_sem] theorem takeVar3 (cs : List PV) : takeVar Tryz.prog 3 cs = cs[0]? := by unfold takeVar isAggT; rw [Tryz.underlying3, info3]
@[go_sem] theorem partA3 (cs : List PV) (k : Nat) : partA Tryz.prog 3 cs k = cs[k]? := by unfold partA isAggT; rw [Tryz.underlying3, info3]
@[go_sem] theorem zeroA3 : zeroA Tryz.prog 3 = some (.int IntKind.i64 0) := by unfold zeroA; rw [info3]; rfl
@[go_sem] theorem zeroOk3 : zeroOk Tryz.prog 3 = true := by unfold zeroOk; rw [zeroA3, cellsOf3]; rfl
attribute [go_sem] Tryz.underlying3
@[go_sem] theorem cellsOf4 : Tryz.prog.cellsOf 4 = 1 := by unfold Program.cellsOf; rw [info4]; rfl
@[go_sem] theorem takeVar4 (cs : List PV) : takeVar Tryz.prog 4 cs = cs[0]? := by unfold takeVar isAggT; rw [Tryz.underlying4, info4]
@[go_sem] theorem zeroA4 : zeroA Tryz.prog 4 = some (.bool false) := by unfold zeroA; rw [info4]; rfl
attribute [go_sem] Tryz.underlying4
@[go_sem] theorem has5 : (Tryz.prog.info? 5).isSome = true := by rw [info5]; rfl
@[go_sem] theorem cellsOf5 : Tryz.prog.cellsOf 5 = 1 := by unfold Program.cellsOf; rw [info5]; rfl
@[go_sem] theorem takeVar5 (cs : List PV) : takeVar Tryz.prog 5 cs = cs[0]? := by unfold takeVar isAggT; rw [Tryz.underlying5, info5]
attribute [go_sem] Tryz.underlying5
attribute [go_sem] Tryz.underlying6
attribute [go_sem] Tryz.underlying7
attribute [go_sem] Tryz.underlying8
@[go_sem] theorem cellsOf9 : Tryz.prog.cellsOf 9 = 1 := by unfold Program.cellsOf; rw [info9]; rfl
@[go_sem] theorem bytesOf9 : bytesOf Tryz.prog 9 = 16 := by unfold bytesOf; rw [info9]; rfl
@[go_sem] theorem takeVar9 (cs : List PV) : takeVar Tryz.prog 9 cs = cs[0]? := by unfold takeVar isAggT; rw [Tryz.underlying9, info9]
@[go_sem] theorem zeroA9 : zeroA Tryz.prog 9 = some (.str ({ data := #[] })) := by unfold zeroA; rw [info9]; rfl
@[go_sem] theorem zeroOk9 : zeroOk Tryz.prog 9 = true := by unfold zeroOk; rw [zeroA9, cellsOf9]; rfl
attribute [go_sem] Tryz.underlying9
attribute [go_sem] Tryz.underlying10
attribute [go_sem] Tryz.underlying11
attribute [go_sem] Tryz.underlying12
attribute [go_sem] Tryz.underlying14
attribute [go_sem] Tryz.underlying16
attribute [go_sem] Tryz.underlying18
attribute [go_sem] Tryz.underlying19
attribute [go_sem] Tryz.underlying20
@[go_sem] theorem has22 : (Tryz.prog.info? 22).isSome = true := by rw [info22]; rfl
@[go_sem] theorem cellsOf22 : Tryz.prog.cellsOf 22 = 1 := by unfold Program.cellsOf; rw [info22]; rfl
@[go_sem] theorem takeVar22 (cs : List PV) : takeVar Tryz.prog 22 cs = cs[0]? := by unfold takeVar isAggT; rw [Tryz.underlying22, info22]
attribute [go_sem] Tryz.underlying22
@[go_sem] theorem has24 : (Tryz.prog.info? 24).isSome = true := by rw [info24]; rfl
@[go_sem] theorem cellsOf24 : Tryz.prog.cellsOf 24 = 2 := by unfold Program.cellsOf; rw [info24]; rfl
@[go_sem] theorem takeVar24 (cs : List PV) : takeVar Tryz.prog 24 cs = if 2 ≤ cs.length then some (.agg (cs.take 2)) else none := by unfold takeVar isAggT; rw [Tryz.underlying24, info24]; rfl
@[go_sem] theorem partA24 (cs : List PV) (k : Nat) : partA Tryz.prog 24 cs k = if k + 2 ≤ cs.length then some (.agg ((cs.drop k).take 2)) else none := by unfold partA isAggT; rw [Tryz.underlying24, info24]; rfl
@[go_sem] theorem zeroA24 : zeroA Tryz.prog 24 = some (.agg [(.int IntKind.i64 0), (.int IntKind.i64 0)]) := by unfold zeroA; rw [info24]; rfl
@[go_sem] theorem field24_0 : fieldInfo Tryz.prog 24 0 = some (0, 3) := by unfold fieldInfo; rw [Tryz.underlying24]; show (match Tryz.prog.info? 3 with | some i => if i.size = 0 then none else some (0, 3) | none => none) = _; rw [info3]; rfl
@[go_sem] theorem field24_1 : fieldInfo Tryz.prog 24 1 = some (1, 3) := by unfold fieldInfo; rw [Tryz.underlying24]; show (match Tryz.prog.info? 3 with | some i => if i.size = 0 then none else some (1, 3) | none => none) = _; rw [info3]; rfl
attribute [go_sem] Tryz.underlying24
@[go_sem] theorem has25 : (Tryz.prog.info? 25).isSome = true := by rw [info25]; rfl
@[go_sem] theorem cellsOf25 : Tryz.prog.cellsOf 25 = 1 := by unfold Program.cellsOf; rw [info25]; rfl
@[go_sem] theorem takeVar25 (cs : List PV) : takeVar Tryz.prog 25 cs = cs[0]? := by unfold takeVar isAggT; rw [Tryz.underlying25, info25]
attribute [go_sem] Tryz.underlying25
attribute [go_sem] Tryz.underlying26
@[go_sem] theorem has27 : (Tryz.prog.info? 27).isSome = true := by rw [info27]; rfl
@[go_sem] theorem cellsOf27 : Tryz.prog.cellsOf 27 = 5 := by unfold Program.cellsOf; rw [info27]; rfl
@[go_sem] theorem bytesOf27 : bytesOf Tryz.prog 27 = 56 := by unfold bytesOf; rw [info27]; rfl
@[go_sem] theorem takeVar27 (cs : List PV) : takeVar Tryz.prog 27 cs = if 5 ≤ cs.length then some (.agg (cs.take 5)) else none := by unfold takeVar isAggT; rw [Tryz.underlying27, info27]; rfl
@[go_sem] theorem zeroA27 : zeroA Tryz.prog 27 = some (.agg [(.int IntKind.i64 0), (.int IntKind.i64 0), (.int IntKind.i64 0), (.int IntKind.i64 0), .emp]) := by unfold zeroA; rw [info27]; rfl
@[go_sem] theorem zeroOk27 : zeroOk Tryz.prog 27 = true := by unfold zeroOk; rw [zeroA27, cellsOf27]; rfl
@[go_sem] theorem field27_0 : fieldInfo Tryz.prog 27 0 = some (0, 3) := by unfold fieldInfo; rw [Tryz.underlying27]; show (match Tryz.prog.info? 3 with | some i => if i.size = 0 then none else some (0, 3) | none => none) = _; rw [info3]; rfl
@[go_sem] theorem field27_1 : fieldInfo Tryz.prog 27 1 = some (1, 3) := by unfold fieldInfo; rw [Tryz.underlying27]; show (match Tryz.prog.info? 3 with | some i => if i.size = 0 then none else some (1, 3) | none => none) = _; rw [info3]; rfl
@[go_sem] theorem field27_2 : fieldInfo Tryz.prog 27 2 = some (2, 24) := by unfold fieldInfo; rw [Tryz.underlying27]; show (match Tryz.prog.info? 24 with | some i => if i.size = 0 then none else some (2, 24) | none => none) = _; rw [info24]; rfl
@[go_sem] theorem field27_3 : fieldInfo Tryz.prog 27 3 = some (4, 25) := by unfold fieldInfo; rw [Tryz.underlying27]; show (match Tryz.prog.info? 25 with | some i => if i.size = 0 then none else some (4, 25) | none => none) = _; rw [info25]; rfl
attribute [go_sem] Tryz.underlying27
attribute [go_sem] Tryz.underlying28
attribute [go_sem] Tryz.underlying29
attribute [go_sem] Tryz.underlying30
attribute [go_sem] Tryz.underlying31
@[go_sem] theorem cellsOf32 : Tryz.prog.cellsOf 32 = 1 := by unfold Program.cellsOf; rw [info32]; rfl
@[go_sem] theorem takeVar32 (cs : List PV) : takeVar Tryz.prog 32 cs = cs[0]? := by unfold takeVar isAggT; rw [Tryz.underlying32, info32]
@[go_sem] theorem zeroA32 : zeroA Tryz.prog 32 = some .emp := by unfold zeroA; rw [info32]; rfl
attribute [go_sem] Tryz.underlying32
attribute [go_sem] Tryz.underlying33
attribute [go_sem] Tryz.underlying34
attribute [go_sem] Tryz.underlying36
attribute [go_sem] Tryz.underlying38
attribute [go_sem] Tryz.underlying39
@[go_sem] theorem has40 : (Tryz.prog.info? 40).isSome = true := by rw [info40]; rfl
@[go_sem] theorem cellsOf40 : Tryz.prog.cellsOf 40 = 1 := by unfold Program.cellsOf; rw [info40]; rfl
@[go_sem] theorem takeVar40 (cs : List PV) : takeVar Tryz.prog 40 cs = cs[0]? := by unfold takeVar isAggT; rw [Tryz.underlying40, info40]
attribute [go_sem] Tryz.underlying40
attribute [go_sem] Tryz.underlying41
attribute [go_sem] Tryz.underlying42
@[go_sem] theorem has43 : (Tryz.prog.info? 43).isSome = true := by rw [info43]; rfl
@[go_sem] theorem cellsOf43 : Tryz.prog.cellsOf 43 = 1 := by unfold Program.cellsOf; rw [info43]; rfl
@[go_sem] theorem takeVar43 (cs : List PV) : takeVar Tryz.prog 43 cs = cs[0]? := by unfold takeVar isAggT; rw [Tryz.underlying43, info43]
attribute [go_sem] Tryz.underlying43
attribute [go_sem] Tryz.underlying44
@[go_sem] theorem cellsOf45 : Tryz.prog.cellsOf 45 = 10 := by unfold Program.cellsOf; rw [info45]; rfl
@[go_sem] theorem bytesOf45 : bytesOf Tryz.prog 45 = 128 := by unfold bytesOf; rw [info45]; rfl
@[go_sem] theorem takeVar45 (cs : List PV) : takeVar Tryz.prog 45 cs = if 10 ≤ cs.length then some (.agg (cs.take 10)) else none := by unfold takeVar isAggT; rw [Tryz.underlying45, info45]; rfl
@[go_sem] theorem zeroA45 : zeroA Tryz.prog 45 = some (.agg [(.int IntKind.i64 0), (.int IntKind.i64 0), (.int IntKind.i64 0), (.int IntKind.i64 0), (.int IntKind.i64 0), (.int IntKind.i64 0), (.int IntKind.i64 0), .emp, .emp, .emp]) := by unfold zeroA; rw [info45]; rfl
@[go_sem] theorem zeroOk45 : zeroOk Tryz.prog 45 = true := by unfold zeroOk; rw [zeroA45, cellsOf45]; rfl
@[go_sem] theorem field45_0 : fieldInfo Tryz.prog 45 0 = some (0, 3) := by unfold fieldInfo; rw [Tryz.underlying45]; show (match Tryz.prog.info? 3 with | some i => if i.size = 0 then none else some (0, 3) | none => none) = _; rw [info3]; rfl
@[go_sem] theorem field45_1 : fieldInfo Tryz.prog 45 1 = some (1, 24) := by unfold fieldInfo; rw [Tryz.underlying45]; show (match Tryz.prog.info? 24 with | some i => if i.size = 0 then none else some (1, 24) | none => none) = _; rw [info24]; rfl
@[go_sem] theorem field45_2 : fieldInfo Tryz.prog 45 2 = some (3, 27) := by unfold fieldInfo; rw [Tryz.underlying45]; show (match Tryz.prog.info? 27 with | some i => if i.size = 0 then none else some (3, 27) | none => none) = _; rw [info27]; rfl
@[go_sem] theorem field45_3 : fieldInfo Tryz.prog 45 3 = some (8, 43) := by unfold fieldInfo; rw [Tryz.underlying45]; show (match Tryz.prog.info? 43 with | some i => if i.size = 0 then none else some (8, 43) | none => none) = _; rw [info43]; rfl
@[go_sem] theorem field45_4 : fieldInfo Tryz.prog 45 4 = some (9, 43) := by unfold fieldInfo; rw [Tryz.underlying45]; show (match Tryz.prog.info? 43 with | some i => if i.size = 0 then none else some (9, 43) | none => none) = _; rw [info43]; rfl
attribute [go_sem] Tryz.underlying45
attribute [go_sem] Tryz.underlying46
attribute [go_sem] Tryz.underlying47
attribute [go_sem] Tryz.underlying48
attribute [go_sem] Tryz.underlying49
attribute [go_sem] Tryz.underlying50
attribute [go_sem] Tryz.underlying51
@[go_sem] theorem cellsOf52 : Tryz.prog.cellsOf 52 = 1 := by unfold Program.cellsOf; rw [info52]; rfl
@[go_sem] theorem takeVar52 (cs : List PV) : takeVar Tryz.prog 52 cs = cs[0]? := by unfold takeVar isAggT; rw [Tryz.underlying52, info52]
@[go_sem] theorem zeroA52 : zeroA Tryz.prog 52 = some .nilfn := by unfold zeroA; rw [info52]; rfl
attribute [go_sem] Tryz.underlying52
attribute [go_sem] Tryz.underlying53
attribute [go_sem] Tryz.underlying54
attribute [go_sem] Tryz.underlying55
attribute [go_sem] Tryz.underlying56
attribute [go_sem] Tryz.underlying57
attribute [go_sem] Tryz.underlying58
attribute [go_sem] Tryz.underlying59
attribute [go_sem] Tryz.underlying60
attribute [go_sem] Tryz.underlying61
@[go_sem] theorem cellsOf62 : Tryz.prog.cellsOf 62 = 1 := by unfold Program.cellsOf; rw [info62]; rfl
@[go_sem] theorem takeVar62 (cs : List PV) : takeVar Tryz.prog 62 cs = cs[0]? := by unfold takeVar isAggT; rw [Tryz.underlying62, info62]
@[go_sem] theorem zeroA62 : zeroA Tryz.prog 62 = some .emp := by unfold zeroA; rw [info62]; rfl
attribute [go_sem] Tryz.underlying62
attribute [go_sem] Tryz.underlying64
attribute [go_sem] Tryz.underlying70
attribute [go_sem] Tryz.underlying73
attribute [go_sem] Tryz.underlying74
attribute [go_sem] Tryz.underlying75
attribute [go_sem] Tryz.underlying76
attribute [go_sem] Tryz.underlying77
@[go_sem] theorem zeroA78 : zeroA Tryz.prog 78 = some (.agg [.emp]) := by unfold zeroA; rw [info78]; rfl
@[go_sem] theorem field78_0 : fieldInfo Tryz.prog 78 0 = some (0, 40) := by unfold fieldInfo; rw [Tryz.underlying78]; show (match Tryz.prog.info? 40 with | some i => if i.size = 0 then none else some (0, 40) | none => none) = _; rw [info40]; rfl
attribute [go_sem] Tryz.underlying78
attribute [go_sem] Tryz.underlying79
@[go_sem] theorem zeroA83 : zeroA Tryz.prog 83 = some (.agg [.emp, (.int IntKind.i64 0)]) := by unfold zeroA; rw [info83]; rfl
@[go_sem] theorem field83_0 : fieldInfo Tryz.prog 83 0 = some (0, 22) := by unfold fieldInfo; rw [Tryz.underlying83]; show (match Tryz.prog.info? 22 with | some i => if i.size = 0 then none else some (0, 22) | none => none) = _; rw [info22]; rfl
@[go_sem] theorem field83_1 : fieldInfo Tryz.prog 83 1 = some (1, 3) := by unfold fieldInfo; rw [Tryz.underlying83]; show (match Tryz.prog.info? 3 with | some i => if i.size = 0 then none else some (1, 3) | none => none) = _; rw [info3]; rfl
attribute [go_sem] Tryz.underlying83
attribute [go_sem] Tryz.underlying85
attribute [go_sem] Tryz.underlying86
attribute [go_sem] Tryz.underlying87
attribute [go_sem] Tryz.underlying89
attribute [go_sem] Tryz.underlying90
attribute [go_sem] Tryz.underlying92
@[go_sem] theorem takeVar93 (cs : List PV) : takeVar Tryz.prog 93 cs = cs[0]? := by unfold takeVar isAggT; rw [Tryz.underlying93, info93]
attribute [go_sem] Tryz.underlying93
attribute [go_sem] Tryz.underlying94
@[go_sem] theorem zeroA95 : zeroA Tryz.prog 95 = some (.agg []) := by unfold zeroA; rw [info95]; rfl
attribute [go_sem] Tryz.underlying95
@[go_sem] theorem zeroA96 : zeroA Tryz.prog 96 = some (.agg []) := by unfold zeroA; rw [info96]; rfl
attribute [go_sem] Tryz.underlying96
@[go_sem] theorem zeroA97 : zeroA Tryz.prog 97 = some (.agg []) := by unfold zeroA; rw [info97]; rfl
attribute [go_sem] Tryz.underlying97
@[go_sem] theorem zeroA98 : zeroA Tryz.prog 98 = some (.agg []) := by unfold zeroA; rw [info98]; rfl
attribute [go_sem] Tryz.underlying98
attribute [go_sem] Tryz.underlying99
attribute [go_sem] Tryz.underlying100
attribute [go_sem] Tryz.underlying101
attribute [go_sem] Tryz.underlying102
attribute [go_sem] Tryz.underlying103
attribute [go_sem] Tryz.underlying104
attribute [go_sem] Tryz.underlying105
attribute [go_sem] Tryz.underlying106
attribute [go_sem] Tryz.underlying107
attribute [go_sem] Tryz.underlying108
attribute [go_sem] Tryz.underlying109
@[go_sem] theorem has110 : (Tryz.prog.info? 110).isSome = true := by rw [info110]; rfl
@[go_sem] theorem cellsOf110 : Tryz.prog.cellsOf 110 = 4 := by unfold Program.cellsOf; rw [info110]; rfl
@[go_sem] theorem bytesOf110 : bytesOf Tryz.prog 110 = 32 := by unfold bytesOf; rw [info110]; rfl
@[go_sem] theorem takeVar110 (cs : List PV) : takeVar Tryz.prog 110 cs = if 4 ≤ cs.length then some (.agg (cs.take 4)) else none := by unfold takeVar isAggT; rw [Tryz.underlying110, info110]; rfl
@[go_sem] theorem zeroA110 : zeroA Tryz.prog 110 = some (.agg [(.int IntKind.i64 0), (.int IntKind.i64 0), (.int IntKind.i64 0), (.int IntKind.i64 0)]) := by unfold zeroA; rw [info110]; rfl
@[go_sem] theorem zeroOk110 : zeroOk Tryz.prog 110 = true := by unfold zeroOk; rw [zeroA110, cellsOf110]; rfl
@[go_sem] theorem field110_0 : fieldInfo Tryz.prog 110 0 = some (0, 3) := by unfold fieldInfo; rw [Tryz.underlying110]; show (match Tryz.prog.info? 3 with | some i => if i.size = 0 then none else some (0, 3) | none => none) = _; rw [info3]; rfl
@[go_sem] theorem field110_1 : fieldInfo Tryz.prog 110 1 = some (1, 3) := by unfold fieldInfo; rw [Tryz.underlying110]; show (match Tryz.prog.info? 3 with | some i => if i.size = 0 then none else some (1, 3) | none => none) = _; rw [info3]; rfl
@[go_sem] theorem field110_2 : fieldInfo Tryz.prog 110 2 = some (2, 24) := by unfold fieldInfo; rw [Tryz.underlying110]; show (match Tryz.prog.info? 24 with | some i => if i.size = 0 then none else some (2, 24) | none => none) = _; rw [info24]; rfl
attribute [go_sem] Tryz.underlying110
attribute [go_sem] Tryz.underlying111
attribute [go_sem] Tryz.underlying112
attribute [go_sem] Tryz.underlying113
attribute [go_sem] Tryz.underlying114
attribute [go_sem] Tryz.underlying116
attribute [go_sem] Tryz.underlying117
attribute [go_sem] Tryz.underlying118
attribute [go_sem] Tryz.underlying119
attribute [go_sem] Tryz.underlying120
attribute [go_sem] Tryz.underlying121
attribute [go_sem] Tryz.underlying122
attribute [go_sem] Tryz.underlying125
attribute [go_sem] Tryz.underlying126
attribute [go_sem] Tryz.underlying127
attribute [go_sem] Tryz.underlying130
attribute [go_sem] Tryz.underlying132
attribute [go_sem] Tryz.underlying134
attribute [go_sem] Tryz.underlying137
attribute [go_sem] Tryz.underlying139
attribute [go_sem] Tryz.underlying141
@[go_sem] theorem has144 : (Tryz.prog.info? 144).isSome = true := by rw [info144]; rfl
@[go_sem] theorem cellsOf144 : Tryz.prog.cellsOf 144 = 1 := by unfold Program.cellsOf; rw [info144]; rfl
@[go_sem] theorem takeVar144 (cs : List PV) : takeVar Tryz.prog 144 cs = cs[0]? := by unfold takeVar isAggT; rw [Tryz.underlying144, info144]
attribute [go_sem] Tryz.underlying144
attribute [go_sem] Tryz.underlying146
@[go_sem] theorem zeroA148 : zeroA Tryz.prog 148 = some (.agg [(.int IntKind.i64 0), (.int IntKind.i64 0), (.int IntKind.i64 0), (.int IntKind.i64 0), (.int IntKind.i64 0), (.int IntKind.i64 0), .emp]) := by unfold zeroA; rw [info148]; rfl
attribute [go_sem] Tryz.underlying148
@[go_sem] theorem zeroA150 : zeroA Tryz.prog 150 = some (.agg [(.int IntKind.i64 0), (.int IntKind.i64 0), (.int IntKind.i64 0), (.int IntKind.i64 0), .emp, .emp, .emp]) := by unfold zeroA; rw [info150]; rfl
attribute [go_sem] Tryz.underlying150
attribute [go_sem] Tryz.underlying151
@[go_sem] theorem zeroA152 : zeroA Tryz.prog 152 = some (.agg [(.int IntKind.i64 0), (.int IntKind.i64 0), (.int IntKind.i64 0), (.int IntKind.i64 0), .emp, .emp]) := by unfold zeroA; rw [info152]; rfl
attribute [go_sem] Tryz.underlying152
attribute [go_sem] Tryz.underlying157
attribute [go_sem] Tryz.underlying160
attribute [go_sem] Tryz.underlying162
attribute [go_sem] Tryz.underlying165
@[go_sem] theorem zeroA171 : zeroA Tryz.prog 171 = some (.agg [(.int IntKind.u8 0), (.int IntKind.u8 0), (.int IntKind.u8 0), (.int IntKind.u8 0), (.int IntKind.u8 0), (.int IntKind.u8 0), (.int IntKind.u8 0), (.int IntKind.u8 0), (.int IntKind.u8 0), (.int IntKind.u8 0), (.int IntKind.u8 0), (.int IntKind.u8 0), (.int IntKind.u8 0), (.int IntKind.u8 0), (.int IntKind.u8 0), (.int IntKind.u8 0), (.int IntKind.u8 0), (.int IntKind.u8 0), (.int IntKind.u8 0), (.int IntKind.u8 0), (.int IntKind.u8 0), (.int IntKind.u8 0), (.int IntKind.u8 0), (.int IntKind.u8 0)]) := by unfold zeroA; rw [info171]; rfl
attribute [go_sem] Tryz.underlying171
attribute [go_sem] Tryz.underlying175
attribute [go_sem] Tryz.underlying176
attribute [go_sem] Tryz.underlying186
attribute [go_sem] Tryz.underlying194
@[go_sem] theorem buildA24 (ps : List (Nat × PV)) : buildA Tryz.prog 24 ps = (match fillL [(0, 1), (1, 1)] [(.int IntKind.i64 0), (.int IntKind.i64 0)] ps with | some cs => some (.agg cs) | none => none) := buildA_of zeroA24 (placesA_struct Tryz.underlying24 (by simp only [List.all_cons, List.all_nil, has3, Bool.and_self]) (by simp only [List.map_cons, List.map_nil, cellsOf3])) ps
@[go_sem] theorem buildA27 (ps : List (Nat × PV)) : buildA Tryz.prog 27 ps = (match fillL [(0, 1), (1, 1), (2, 2), (4, 1)] [(.int IntKind.i64 0), (.int IntKind.i64 0), (.int IntKind.i64 0), (.int IntKind.i64 0), .emp] ps with | some cs => some (.agg cs) | none => none) := buildA_of zeroA27 (placesA_struct Tryz.underlying27 (by simp only [List.all_cons, List.all_nil, has3, has24, has25, Bool.and_self]) (by simp only [List.map_cons, List.map_nil, cellsOf3, cellsOf24, cellsOf25])) ps
@[go_sem] theorem buildA45 (ps : List (Nat × PV)) : buildA Tryz.prog 45 ps = (match fillL [(0, 1), (1, 2), (3, 5), (8, 1), (9, 1)] [(.int IntKind.i64 0), (.int IntKind.i64 0), (.int IntKind.i64 0), (.int IntKind.i64 0), (.int IntKind.i64 0), (.int IntKind.i64 0), (.int IntKind.i64 0), .emp, .emp, .emp] ps with | some cs => some (.agg cs) | none => none) := buildA_of zeroA45 (placesA_struct Tryz.underlying45 (by simp only [List.all_cons, List.all_nil, has3, has24, has27, has43, Bool.and_self]) (by simp only [List.map_cons, List.map_nil, cellsOf3, cellsOf24, cellsOf27, cellsOf43])) ps
@[go_sem] theorem buildA78 (ps : List (Nat × PV)) : buildA Tryz.prog 78 ps = (match fillL [(0, 1)] [.emp] ps with | some cs => some (.agg cs) | none => none) := buildA_of zeroA78 (placesA_struct Tryz.underlying78 (by simp only [List.all_cons, List.all_nil, has40, Bool.and_self]) (by simp only [List.map_cons, List.map_nil, cellsOf40])) ps
@[go_sem] theorem buildA83 (ps : List (Nat × PV)) : buildA Tryz.prog 83 ps = (match fillL [(0, 1), (1, 1)] [.emp, (.int IntKind.i64 0)] ps with | some cs => some (.agg cs) | none => none) := buildA_of zeroA83 (placesA_struct Tryz.underlying83 (by simp only [List.all_cons, List.all_nil, has3, has22, Bool.and_self]) (by simp only [List.map_cons, List.map_nil, cellsOf3, cellsOf22])) ps
@[go_sem] theorem buildA110 (ps : List (Nat × PV)) : buildA Tryz.prog 110 ps = (match fillL [(0, 1), (1, 1), (2, 2)] [(.int IntKind.i64 0), (.int IntKind.i64 0), (.int IntKind.i64 0), (.int IntKind.i64 0)] ps with | some cs => some (.agg cs) | none => none) := buildA_of zeroA110 (placesA_struct Tryz.underlying110 (by simp only [List.all_cons, List.all_nil, has3, has24, Bool.and_self]) (by simp only [List.map_cons, List.map_nil, cellsOf3, cellsOf24])) ps
@[go_sem] theorem buildA148 (ps : List (Nat × PV)) : buildA Tryz.prog 148 ps = (match fillL [(0, 2), (2, 5)] [(.int IntKind.i64 0), (.int IntKind.i64 0), (.int IntKind.i64 0), (.int IntKind.i64 0), (.int IntKind.i64 0), (.int IntKind.i64 0), .emp] ps with | some cs => some (.agg cs) | none => none) := buildA_of zeroA148 (placesA_struct Tryz.underlying148 (by simp only [List.all_cons, List.all_nil, has24, has27, Bool.and_self]) (by simp only [List.map_cons, List.map_nil, cellsOf24, cellsOf27])) ps
@[go_sem] theorem buildA150 (ps : List (Nat × PV)) : buildA Tryz.prog 150 ps = (match fillL [(0, 5), (5, 1), (6, 1)] [(.int IntKind.i64 0), (.int IntKind.i64 0), (.int IntKind.i64 0), (.int IntKind.i64 0), .emp, .emp, .emp] ps with | some cs => some (.agg cs) | none => none) := buildA_of zeroA150 (placesA_struct Tryz.underlying150 (by simp only [List.all_cons, List.all_nil, has27, has43, Bool.and_self]) (by simp only [List.map_cons, List.map_nil, cellsOf27, cellsOf43])) ps
@[go_sem] theorem buildA152 (ps : List (Nat × PV)) : buildA Tryz.prog 152 ps = (match fillL [(0, 5), (5, 1)] [(.int IntKind.i64 0), (.int IntKind.i64 0), (.int IntKind.i64 0), (.int IntKind.i64 0), .emp, .emp] ps with | some cs => some (.agg cs) | none => none) := buildA_of zeroA152 (placesA_struct Tryz.underlying152 (by simp only [List.all_cons, List.all_nil, has27, has43, Bool.and_self]) (by simp only [List.map_cons, List.map_nil, cellsOf27, cellsOf43])) ps
end Go.Proofs.YtmicbfojofcigaaGreat
