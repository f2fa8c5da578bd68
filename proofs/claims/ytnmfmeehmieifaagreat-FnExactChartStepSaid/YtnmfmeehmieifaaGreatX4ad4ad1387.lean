/- A part of a proof: lemmas and contracts of functions; the last text of the claim says what is proved. -/
import Derived.Test.YtnmfmeehmieifaaGreatX2321e7e3ac
import Derived.Test.YtnmfmeehmieifaaGreatChecked
set_option linter.unusedSectionVars false
set_option linter.unusedSimpArgs false
set_option linter.unusedVariables false
namespace Go.Proofs.YtnmfmeehmieifaaGreat
open Go Sg
set_option maxRecDepth 100000
theorem info3 : Tryz.prog.info? 3 = some Tryz.t3 := by unfold Tables.info?; exact Tryz.type3
theorem info4 : Tryz.prog.info? 4 = some Tryz.t4 := by unfold Tables.info?; exact Tryz.type4
theorem info31 : Tryz.prog.info? 31 = some Tryz.t31 := by unfold Tables.info?; exact Tryz.type31
theorem info32 : Tryz.prog.info? 32 = some Tryz.t32 := by unfold Tables.info?; exact Tryz.type32
theorem info34 : Tryz.prog.info? 34 = some Tryz.t34 := by unfold Tables.info?; exact Tryz.type34
theorem info35 : Tryz.prog.info? 35 = some Tryz.t35 := by unfold Tables.info?; exact Tryz.type35
theorem info37 : Tryz.prog.info? 37 = some Tryz.t37 := by unfold Tables.info?; exact Tryz.type37
theorem info38 : Tryz.prog.info? 38 = some Tryz.t38 := by unfold Tables.info?; exact Tryz.type38
theorem info40 : Tryz.prog.info? 40 = some Tryz.t40 := by unfold Tables.info?; exact Tryz.type40
theorem info45 : Tryz.prog.info? 45 = some Tryz.t45 := by unfold Tables.info?; exact Tryz.type45
theorem info46 : Tryz.prog.info? 46 = some Tryz.t46 := by unfold Tables.info?; exact Tryz.type46
theorem info48 : Tryz.prog.info? 48 = some Tryz.t48 := by unfold Tables.info?; exact Tryz.type48
theorem info50 : Tryz.prog.info? 50 = some Tryz.t50 := by unfold Tables.info?; exact Tryz.type50
theorem info52 : Tryz.prog.info? 52 = some Tryz.t52 := by unfold Tables.info?; exact Tryz.type52
theorem info67 : Tryz.prog.info? 67 = some Tryz.t67 := by unfold Tables.info?; exact Tryz.type67
theorem info68 : Tryz.prog.info? 68 = some Tryz.t68 := by unfold Tables.info?; exact Tryz.type68
theorem info70 : Tryz.prog.info? 70 = some Tryz.t70 := by unfold Tables.info?; exact Tryz.type70
theorem info74 : Tryz.prog.info? 74 = some Tryz.t74 := by unfold Tables.info?; exact Tryz.type74
theorem info75 : Tryz.prog.info? 75 = some Tryz.t75 := by unfold Tables.info?; exact Tryz.type75
theorem info77 : Tryz.prog.info? 77 = some Tryz.t77 := by unfold Tables.info?; exact Tryz.type77
theorem info96 : Tryz.prog.info? 96 = some Tryz.t96 := by unfold Tables.info?; exact Tryz.type96
theorem info103 : Tryz.prog.info? 103 = some Tryz.t103 := by unfold Tables.info?; exact Tryz.type103
theorem info104 : Tryz.prog.info? 104 = some Tryz.t104 := by unfold Tables.info?; exact Tryz.type104
theorem info106 : Tryz.prog.info? 106 = some Tryz.t106 := by unfold Tables.info?; exact Tryz.type106
theorem info107 : Tryz.prog.info? 107 = some Tryz.t107 := by unfold Tables.info?; exact Tryz.type107
theorem info122 : Tryz.prog.info? 122 = some Tryz.t122 := by unfold Tables.info?; exact Tryz.type122
theorem info152 : Tryz.prog.info? 152 = some Tryz.t152 := by unfold Tables.info?; exact Tryz.type152
theorem info154 : Tryz.prog.info? 154 = some Tryz.t154 := by unfold Tables.info?; exact Tryz.type154
theorem info158 : Tryz.prog.info? 158 = some Tryz.t158 := by unfold Tables.info?; exact Tryz.type158
theorem info166 : Tryz.prog.info? 166 = some Tryz.t166 := by unfold Tables.info?; exact Tryz.type166
theorem info190 : Tryz.prog.info? 190 = some Tryz.t190 := by unfold Tables.info?; exact Tryz.type190
theorem info191 : Tryz.prog.info? 191 = some Tryz.t191 := by unfold Tables.info?; exact Tryz.type191
theorem info193 : Tryz.prog.info? 193 = some Tryz.t193 := by unfold Tables.info?; exact Tryz.type193
theorem info221 : Tryz.prog.info? 221 = some Tryz.t221 := by unfold Tables.info?; exact Tryz.type221
theorem info222 : Tryz.prog.info? 222 = some Tryz.t222 := by unfold Tables.info?; exact Tryz.type222
theorem info223 : Tryz.prog.info? 223 = some Tryz.t223 := by unfold Tables.info?; exact Tryz.type223
theorem info224 : Tryz.prog.info? 224 = some Tryz.t224 := by unfold Tables.info?; exact Tryz.type224
theorem info236 : Tryz.prog.info? 236 = some Tryz.t236 := by unfold Tables.info?; exact Tryz.type236
theorem info237 : Tryz.prog.info? 237 = some Tryz.t237 := by unfold Tables.info?; exact Tryz.type237
theorem info238 : Tryz.prog.info? 238 = some Tryz.t238 := by unfold Tables.info?; exact Tryz.type238
theorem info239 : Tryz.prog.info? 239 = some Tryz.t239 := by unfold Tables.info?; exact Tryz.type239
theorem info240 : Tryz.prog.info? 240 = some Tryz.t240 := by unfold Tables.info?; exact Tryz.type240
attribute [go_sem] Tryz.underlying1
attribute [go_sem] Tryz.underlying2
@[go_sem] theorem has3 : (Tryz.prog.info? 3).isSome = true := by rw [info3]; rfl
@[go_sem] theorem cellsOf3 : Tryz.prog.cellsOf 3 = 1 := by unfold Program.cellsOf; rw [info3]; rfl
@[go_sem] theorem bytesOf3 : bytesOf Tryz.prog 3 = 8 := by unfold bytesOf; rw [info3]; rfl
@[go_sem] theorem takeVar3 (cs : List PV) : takeVar Tryz.prog 3 cs = cs[0]? := by unfold takeVar isAggT; rw [Tryz.underlying3, info3]
@[go_sem] theorem partA3 (cs : List PV) (k : Nat) : partA Tryz.prog 3 cs k = cs[k]? := by unfold partA isAggT; rw [Tryz.underlying3, info3]
@[go_sem] theorem zeroA3 : zeroA Tryz.prog 3 = some (.int IntKind.i64 0) := by unfold zeroA; rw [info3]; rfl
@[go_sem] theorem zeroOk3 : zeroOk Tryz.prog 3 = true := by unfold zeroOk; rw [zeroA3, cellsOf3]; rfl
attribute [go_sem] Tryz.underlying3
@[go_sem] theorem has4 : (Tryz.prog.info? 4).isSome = true := by rw [info4]; rfl
@[go_sem] theorem cellsOf4 : Tryz.prog.cellsOf 4 = 1 := by unfold Program.cellsOf; rw [info4]; rfl
@[go_sem] theorem bytesOf4 : bytesOf Tryz.prog 4 = 1 := by unfold bytesOf; rw [info4]; rfl
@[go_sem] theorem takeVar4 (cs : List PV) : takeVar Tryz.prog 4 cs = cs[0]? := by unfold takeVar isAggT; rw [Tryz.underlying4, info4]
@[go_sem] theorem zeroA4 : zeroA Tryz.prog 4 = some (.bool false) := by unfold zeroA; rw [info4]; rfl
@[go_sem] theorem zeroOk4 : zeroOk Tryz.prog 4 = true := by unfold zeroOk; rw [zeroA4, cellsOf4]; rfl
attribute [go_sem] Tryz.underlying4
attribute [go_sem] Tryz.underlying5
attribute [go_sem] Tryz.underlying6
attribute [go_sem] Tryz.underlying7
attribute [go_sem] Tryz.underlying8
attribute [go_sem] Tryz.underlying9
attribute [go_sem] Tryz.underlying10
attribute [go_sem] Tryz.underlying11
attribute [go_sem] Tryz.underlying13
attribute [go_sem] Tryz.underlying14
attribute [go_sem] Tryz.underlying16
attribute [go_sem] Tryz.underlying19
attribute [go_sem] Tryz.underlying22
attribute [go_sem] Tryz.underlying24
attribute [go_sem] Tryz.underlying25
attribute [go_sem] Tryz.underlying26
attribute [go_sem] Tryz.underlying27
attribute [go_sem] Tryz.underlying28
attribute [go_sem] Tryz.underlying29
attribute [go_sem] Tryz.underlying30
@[go_sem] theorem cellsOf31 : Tryz.prog.cellsOf 31 = 1 := by unfold Program.cellsOf; rw [info31]; rfl
@[go_sem] theorem takeVar31 (cs : List PV) : takeVar Tryz.prog 31 cs = cs[0]? := by unfold takeVar isAggT; rw [Tryz.underlying31, info31]
attribute [go_sem] Tryz.underlying31
@[go_sem] theorem cellsOf32 : Tryz.prog.cellsOf 32 = 1 := by unfold Program.cellsOf; rw [info32]; rfl
@[go_sem] theorem takeVar32 (cs : List PV) : takeVar Tryz.prog 32 cs = cs[0]? := by unfold takeVar isAggT; rw [Tryz.underlying32, info32]
attribute [go_sem] Tryz.underlying32
attribute [go_sem] Tryz.underlying33
@[go_sem] theorem cellsOf34 : Tryz.prog.cellsOf 34 = 3 := by unfold Program.cellsOf; rw [info34]; rfl
@[go_sem] theorem takeVar34 (cs : List PV) : takeVar Tryz.prog 34 cs = if 3 ≤ cs.length then some (.agg (cs.take 3)) else none := by unfold takeVar isAggT; rw [Tryz.underlying34, info34]; rfl
@[go_sem] theorem field34_0 : fieldInfo Tryz.prog 34 0 = some (0, 3) := by unfold fieldInfo; rw [Tryz.underlying34]; show (match Tryz.prog.info? 3 with | some i => if i.size = 0 then none else some (0, 3) | none => none) = _; rw [info3]; rfl
@[go_sem] theorem field34_1 : fieldInfo Tryz.prog 34 1 = some (1, 31) := by unfold fieldInfo; rw [Tryz.underlying34]; show (match Tryz.prog.info? 31 with | some i => if i.size = 0 then none else some (1, 31) | none => none) = _; rw [info31]; rfl
@[go_sem] theorem field34_2 : fieldInfo Tryz.prog 34 2 = some (2, 32) := by unfold fieldInfo; rw [Tryz.underlying34]; show (match Tryz.prog.info? 32 with | some i => if i.size = 0 then none else some (2, 32) | none => none) = _; rw [info32]; rfl
attribute [go_sem] Tryz.underlying34
@[go_sem] theorem has35 : (Tryz.prog.info? 35).isSome = true := by rw [info35]; rfl
@[go_sem] theorem cellsOf35 : Tryz.prog.cellsOf 35 = 1 := by unfold Program.cellsOf; rw [info35]; rfl
@[go_sem] theorem takeVar35 (cs : List PV) : takeVar Tryz.prog 35 cs = cs[0]? := by unfold takeVar isAggT; rw [Tryz.underlying35, info35]
attribute [go_sem] Tryz.underlying35
attribute [go_sem] Tryz.underlying36
@[go_sem] theorem cellsOf37 : Tryz.prog.cellsOf 37 = 2 := by unfold Program.cellsOf; rw [info37]; rfl
@[go_sem] theorem takeVar37 (cs : List PV) : takeVar Tryz.prog 37 cs = if 2 ≤ cs.length then some (.agg (cs.take 2)) else none := by unfold takeVar isAggT; rw [Tryz.underlying37, info37]; rfl
@[go_sem] theorem field37_0 : fieldInfo Tryz.prog 37 0 = some (0, 35) := by unfold fieldInfo; rw [Tryz.underlying37]; show (match Tryz.prog.info? 35 with | some i => if i.size = 0 then none else some (0, 35) | none => none) = _; rw [info35]; rfl
@[go_sem] theorem field37_1 : fieldInfo Tryz.prog 37 1 = some (1, 35) := by unfold fieldInfo; rw [Tryz.underlying37]; show (match Tryz.prog.info? 35 with | some i => if i.size = 0 then none else some (1, 35) | none => none) = _; rw [info35]; rfl
attribute [go_sem] Tryz.underlying37
@[go_sem] theorem has38 : (Tryz.prog.info? 38).isSome = true := by rw [info38]; rfl
@[go_sem] theorem cellsOf38 : Tryz.prog.cellsOf 38 = 1 := by unfold Program.cellsOf; rw [info38]; rfl
@[go_sem] theorem takeVar38 (cs : List PV) : takeVar Tryz.prog 38 cs = cs[0]? := by unfold takeVar isAggT; rw [Tryz.underlying38, info38]
@[go_sem] theorem zeroA38 : zeroA Tryz.prog 38 = some .emp := by unfold zeroA; rw [info38]; rfl
@[go_sem] theorem zeroOk38 : zeroOk Tryz.prog 38 = true := by unfold zeroOk; rw [zeroA38, cellsOf38]; rfl
attribute [go_sem] Tryz.underlying38
attribute [go_sem] Tryz.underlying39
@[go_sem] theorem cellsOf40 : Tryz.prog.cellsOf 40 = 3 := by unfold Program.cellsOf; rw [info40]; rfl
@[go_sem] theorem takeVar40 (cs : List PV) : takeVar Tryz.prog 40 cs = if 3 ≤ cs.length then some (.agg (cs.take 3)) else none := by unfold takeVar isAggT; rw [Tryz.underlying40, info40]; rfl
@[go_sem] theorem field40_0 : fieldInfo Tryz.prog 40 0 = some (0, 38) := by unfold fieldInfo; rw [Tryz.underlying40]; show (match Tryz.prog.info? 38 with | some i => if i.size = 0 then none else some (0, 38) | none => none) = _; rw [info38]; rfl
@[go_sem] theorem field40_1 : fieldInfo Tryz.prog 40 1 = some (1, 38) := by unfold fieldInfo; rw [Tryz.underlying40]; show (match Tryz.prog.info? 38 with | some i => if i.size = 0 then none else some (1, 38) | none => none) = _; rw [info38]; rfl
@[go_sem] theorem field40_2 : fieldInfo Tryz.prog 40 2 = some (2, 38) := by unfold fieldInfo; rw [Tryz.underlying40]; show (match Tryz.prog.info? 38 with | some i => if i.size = 0 then none else some (2, 38) | none => none) = _; rw [info38]; rfl
attribute [go_sem] Tryz.underlying40
attribute [go_sem] Tryz.underlying41
attribute [go_sem] Tryz.underlying42
attribute [go_sem] Tryz.underlying44
@[go_sem] theorem cellsOf45 : Tryz.prog.cellsOf 45 = 1 := by unfold Program.cellsOf; rw [info45]; rfl
@[go_sem] theorem takeVar45 (cs : List PV) : takeVar Tryz.prog 45 cs = cs[0]? := by unfold takeVar isAggT; rw [Tryz.underlying45, info45]
attribute [go_sem] Tryz.underlying45
@[go_sem] theorem cellsOf46 : Tryz.prog.cellsOf 46 = 1 := by unfold Program.cellsOf; rw [info46]; rfl
@[go_sem] theorem takeVar46 (cs : List PV) : takeVar Tryz.prog 46 cs = cs[0]? := by unfold takeVar isAggT; rw [Tryz.underlying46, info46]
attribute [go_sem] Tryz.underlying46
attribute [go_sem] Tryz.underlying47
@[go_sem] theorem cellsOf48 : Tryz.prog.cellsOf 48 = 3 := by unfold Program.cellsOf; rw [info48]; rfl
@[go_sem] theorem takeVar48 (cs : List PV) : takeVar Tryz.prog 48 cs = if 3 ≤ cs.length then some (.agg (cs.take 3)) else none := by unfold takeVar isAggT; rw [Tryz.underlying48, info48]; rfl
@[go_sem] theorem zeroA48 : zeroA Tryz.prog 48 = some (.agg [(.int IntKind.i64 0), .emp, .emp]) := by unfold zeroA; rw [info48]; rfl
@[go_sem] theorem field48_0 : fieldInfo Tryz.prog 48 0 = some (0, 3) := by unfold fieldInfo; rw [Tryz.underlying48]; show (match Tryz.prog.info? 3 with | some i => if i.size = 0 then none else some (0, 3) | none => none) = _; rw [info3]; rfl
@[go_sem] theorem field48_1 : fieldInfo Tryz.prog 48 1 = some (1, 45) := by unfold fieldInfo; rw [Tryz.underlying48]; show (match Tryz.prog.info? 45 with | some i => if i.size = 0 then none else some (1, 45) | none => none) = _; rw [info45]; rfl
@[go_sem] theorem field48_2 : fieldInfo Tryz.prog 48 2 = some (2, 46) := by unfold fieldInfo; rw [Tryz.underlying48]; show (match Tryz.prog.info? 46 with | some i => if i.size = 0 then none else some (2, 46) | none => none) = _; rw [info46]; rfl
attribute [go_sem] Tryz.underlying48
attribute [go_sem] Tryz.underlying49
@[go_sem] theorem cellsOf50 : Tryz.prog.cellsOf 50 = 2 := by unfold Program.cellsOf; rw [info50]; rfl
@[go_sem] theorem takeVar50 (cs : List PV) : takeVar Tryz.prog 50 cs = if 2 ≤ cs.length then some (.agg (cs.take 2)) else none := by unfold takeVar isAggT; rw [Tryz.underlying50, info50]; rfl
@[go_sem] theorem zeroA50 : zeroA Tryz.prog 50 = some (.agg [.emp, .emp]) := by unfold zeroA; rw [info50]; rfl
@[go_sem] theorem field50_0 : fieldInfo Tryz.prog 50 0 = some (0, 35) := by unfold fieldInfo; rw [Tryz.underlying50]; show (match Tryz.prog.info? 35 with | some i => if i.size = 0 then none else some (0, 35) | none => none) = _; rw [info35]; rfl
@[go_sem] theorem field50_1 : fieldInfo Tryz.prog 50 1 = some (1, 35) := by unfold fieldInfo; rw [Tryz.underlying50]; show (match Tryz.prog.info? 35 with | some i => if i.size = 0 then none else some (1, 35) | none => none) = _; rw [info35]; rfl
attribute [go_sem] Tryz.underlying50
attribute [go_sem] Tryz.underlying51
@[go_sem] theorem cellsOf52 : Tryz.prog.cellsOf 52 = 3 := by unfold Program.cellsOf; rw [info52]; rfl
@[go_sem] theorem takeVar52 (cs : List PV) : takeVar Tryz.prog 52 cs = if 3 ≤ cs.length then some (.agg (cs.take 3)) else none := by unfold takeVar isAggT; rw [Tryz.underlying52, info52]; rfl
@[go_sem] theorem zeroA52 : zeroA Tryz.prog 52 = some (.agg [.emp, .emp, .emp]) := by unfold zeroA; rw [info52]; rfl
@[go_sem] theorem field52_0 : fieldInfo Tryz.prog 52 0 = some (0, 38) := by unfold fieldInfo; rw [Tryz.underlying52]; show (match Tryz.prog.info? 38 with | some i => if i.size = 0 then none else some (0, 38) | none => none) = _; rw [info38]; rfl
@[go_sem] theorem field52_1 : fieldInfo Tryz.prog 52 1 = some (1, 38) := by unfold fieldInfo; rw [Tryz.underlying52]; show (match Tryz.prog.info? 38 with | some i => if i.size = 0 then none else some (1, 38) | none => none) = _; rw [info38]; rfl
@[go_sem] theorem field52_2 : fieldInfo Tryz.prog 52 2 = some (2, 38) := by unfold fieldInfo; rw [Tryz.underlying52]; show (match Tryz.prog.info? 38 with | some i => if i.size = 0 then none else some (2, 38) | none => none) = _; rw [info38]; rfl
attribute [go_sem] Tryz.underlying52
attribute [go_sem] Tryz.underlying54
attribute [go_sem] Tryz.underlying59
attribute [go_sem] Tryz.underlying60
attribute [go_sem] Tryz.underlying62
attribute [go_sem] Tryz.underlying64
@[go_sem] theorem cellsOf67 : Tryz.prog.cellsOf 67 = 2 := by unfold Program.cellsOf; rw [info67]; rfl
@[go_sem] theorem takeVar67 (cs : List PV) : takeVar Tryz.prog 67 cs = if 2 ≤ cs.length then some (.agg (cs.take 2)) else none := by unfold takeVar isAggT; rw [Tryz.underlying67, info67]; rfl
@[go_sem] theorem field67_0 : fieldInfo Tryz.prog 67 0 = some (0, 3) := by unfold fieldInfo; rw [Tryz.underlying67]; show (match Tryz.prog.info? 3 with | some i => if i.size = 0 then none else some (0, 3) | none => none) = _; rw [info3]; rfl
@[go_sem] theorem field67_1 : fieldInfo Tryz.prog 67 1 = some (1, 3) := by unfold fieldInfo; rw [Tryz.underlying67]; show (match Tryz.prog.info? 3 with | some i => if i.size = 0 then none else some (1, 3) | none => none) = _; rw [info3]; rfl
attribute [go_sem] Tryz.underlying67
@[go_sem] theorem cellsOf68 : Tryz.prog.cellsOf 68 = 1 := by unfold Program.cellsOf; rw [info68]; rfl
@[go_sem] theorem takeVar68 (cs : List PV) : takeVar Tryz.prog 68 cs = cs[0]? := by unfold takeVar isAggT; rw [Tryz.underlying68, info68]
attribute [go_sem] Tryz.underlying68
@[go_sem] theorem cellsOf70 : Tryz.prog.cellsOf 70 = 5 := by unfold Program.cellsOf; rw [info70]; rfl
@[go_sem] theorem takeVar70 (cs : List PV) : takeVar Tryz.prog 70 cs = if 5 ≤ cs.length then some (.agg (cs.take 5)) else none := by unfold takeVar isAggT; rw [Tryz.underlying70, info70]; rfl
@[go_sem] theorem field70_0 : fieldInfo Tryz.prog 70 0 = some (0, 3) := by unfold fieldInfo; rw [Tryz.underlying70]; show (match Tryz.prog.info? 3 with | some i => if i.size = 0 then none else some (0, 3) | none => none) = _; rw [info3]; rfl
@[go_sem] theorem field70_1 : fieldInfo Tryz.prog 70 1 = some (1, 3) := by unfold fieldInfo; rw [Tryz.underlying70]; show (match Tryz.prog.info? 3 with | some i => if i.size = 0 then none else some (1, 3) | none => none) = _; rw [info3]; rfl
@[go_sem] theorem field70_2 : fieldInfo Tryz.prog 70 2 = some (2, 67) := by unfold fieldInfo; rw [Tryz.underlying70]; show (match Tryz.prog.info? 67 with | some i => if i.size = 0 then none else some (2, 67) | none => none) = _; rw [info67]; rfl
@[go_sem] theorem field70_3 : fieldInfo Tryz.prog 70 3 = some (4, 68) := by unfold fieldInfo; rw [Tryz.underlying70]; show (match Tryz.prog.info? 68 with | some i => if i.size = 0 then none else some (4, 68) | none => none) = _; rw [info68]; rfl
attribute [go_sem] Tryz.underlying70
attribute [go_sem] Tryz.underlying71
attribute [go_sem] Tryz.underlying72
@[go_sem] theorem cellsOf74 : Tryz.prog.cellsOf 74 = 2 := by unfold Program.cellsOf; rw [info74]; rfl
@[go_sem] theorem takeVar74 (cs : List PV) : takeVar Tryz.prog 74 cs = if 2 ≤ cs.length then some (.agg (cs.take 2)) else none := by unfold takeVar isAggT; rw [Tryz.underlying74, info74]; rfl
@[go_sem] theorem zeroA74 : zeroA Tryz.prog 74 = some (.agg [(.int IntKind.i64 0), (.int IntKind.i64 0)]) := by unfold zeroA; rw [info74]; rfl
@[go_sem] theorem field74_0 : fieldInfo Tryz.prog 74 0 = some (0, 3) := by unfold fieldInfo; rw [Tryz.underlying74]; show (match Tryz.prog.info? 3 with | some i => if i.size = 0 then none else some (0, 3) | none => none) = _; rw [info3]; rfl
@[go_sem] theorem field74_1 : fieldInfo Tryz.prog 74 1 = some (1, 3) := by unfold fieldInfo; rw [Tryz.underlying74]; show (match Tryz.prog.info? 3 with | some i => if i.size = 0 then none else some (1, 3) | none => none) = _; rw [info3]; rfl
attribute [go_sem] Tryz.underlying74
@[go_sem] theorem cellsOf75 : Tryz.prog.cellsOf 75 = 1 := by unfold Program.cellsOf; rw [info75]; rfl
@[go_sem] theorem takeVar75 (cs : List PV) : takeVar Tryz.prog 75 cs = cs[0]? := by unfold takeVar isAggT; rw [Tryz.underlying75, info75]
attribute [go_sem] Tryz.underlying75
attribute [go_sem] Tryz.underlying76
@[go_sem] theorem has77 : (Tryz.prog.info? 77).isSome = true := by rw [info77]; rfl
@[go_sem] theorem cellsOf77 : Tryz.prog.cellsOf 77 = 5 := by unfold Program.cellsOf; rw [info77]; rfl
@[go_sem] theorem bytesOf77 : bytesOf Tryz.prog 77 = 56 := by unfold bytesOf; rw [info77]; rfl
@[go_sem] theorem takeVar77 (cs : List PV) : takeVar Tryz.prog 77 cs = if 5 ≤ cs.length then some (.agg (cs.take 5)) else none := by unfold takeVar isAggT; rw [Tryz.underlying77, info77]; rfl
@[go_sem] theorem zeroA77 : zeroA Tryz.prog 77 = some (.agg [(.int IntKind.i64 0), (.int IntKind.i64 0), (.int IntKind.i64 0), (.int IntKind.i64 0), .emp]) := by unfold zeroA; rw [info77]; rfl
@[go_sem] theorem zeroOk77 : zeroOk Tryz.prog 77 = true := by unfold zeroOk; rw [zeroA77, cellsOf77]; rfl
@[go_sem] theorem field77_0 : fieldInfo Tryz.prog 77 0 = some (0, 3) := by unfold fieldInfo; rw [Tryz.underlying77]; show (match Tryz.prog.info? 3 with | some i => if i.size = 0 then none else some (0, 3) | none => none) = _; rw [info3]; rfl
@[go_sem] theorem field77_1 : fieldInfo Tryz.prog 77 1 = some (1, 3) := by unfold fieldInfo; rw [Tryz.underlying77]; show (match Tryz.prog.info? 3 with | some i => if i.size = 0 then none else some (1, 3) | none => none) = _; rw [info3]; rfl
@[go_sem] theorem field77_2 : fieldInfo Tryz.prog 77 2 = some (2, 74) := by unfold fieldInfo; rw [Tryz.underlying77]; show (match Tryz.prog.info? 74 with | some i => if i.size = 0 then none else some (2, 74) | none => none) = _; rw [info74]; rfl
@[go_sem] theorem field77_3 : fieldInfo Tryz.prog 77 3 = some (4, 75) := by unfold fieldInfo; rw [Tryz.underlying77]; show (match Tryz.prog.info? 75 with | some i => if i.size = 0 then none else some (4, 75) | none => none) = _; rw [info75]; rfl
attribute [go_sem] Tryz.underlying77
attribute [go_sem] Tryz.underlying79
attribute [go_sem] Tryz.underlying85
attribute [go_sem] Tryz.underlying88
attribute [go_sem] Tryz.underlying89
attribute [go_sem] Tryz.underlying94
attribute [go_sem] Tryz.underlying95
@[go_sem] theorem takeVar96 (cs : List PV) : takeVar Tryz.prog 96 cs = cs[0]? := by unfold takeVar isAggT; rw [Tryz.underlying96, info96]
attribute [go_sem] Tryz.underlying96
attribute [go_sem] Tryz.underlying98
attribute [go_sem] Tryz.underlying99
attribute [go_sem] Tryz.underlying100
attribute [go_sem] Tryz.underlying101
attribute [go_sem] Tryz.underlying102
@[go_sem] theorem has103 : (Tryz.prog.info? 103).isSome = true := by rw [info103]; rfl
@[go_sem] theorem cellsOf103 : Tryz.prog.cellsOf 103 = 1 := by unfold Program.cellsOf; rw [info103]; rfl
@[go_sem] theorem takeVar103 (cs : List PV) : takeVar Tryz.prog 103 cs = cs[0]? := by unfold takeVar isAggT; rw [Tryz.underlying103, info103]
@[go_sem] theorem zeroA103 : zeroA Tryz.prog 103 = some (.int IntKind.u64 0) := by unfold zeroA; rw [info103]; rfl
attribute [go_sem] Tryz.underlying103
@[go_sem] theorem has104 : (Tryz.prog.info? 104).isSome = true := by rw [info104]; rfl
@[go_sem] theorem cellsOf104 : Tryz.prog.cellsOf 104 = 6 := by unfold Program.cellsOf; rw [info104]; rfl
@[go_sem] theorem takeVar104 (cs : List PV) : takeVar Tryz.prog 104 cs = if 6 ≤ cs.length then some (.agg (cs.take 6)) else none := by unfold takeVar isAggT; rw [Tryz.underlying104, info104]; rfl
attribute [go_sem] Tryz.underlying104
@[go_sem] theorem zeroA106 : zeroA Tryz.prog 106 = some (.agg [(.int IntKind.u64 0), (.int IntKind.u64 0), (.bool false), (.bool false), (.bool false), (.bool false), (.bool false), (.bool false)]) := by unfold zeroA; rw [info106]; rfl
@[go_sem] theorem field106_0 : fieldInfo Tryz.prog 106 0 = some (0, 103) := by unfold fieldInfo; rw [Tryz.underlying106]; show (match Tryz.prog.info? 103 with | some i => if i.size = 0 then none else some (0, 103) | none => none) = _; rw [info103]; rfl
@[go_sem] theorem field106_1 : fieldInfo Tryz.prog 106 1 = some (1, 103) := by unfold fieldInfo; rw [Tryz.underlying106]; show (match Tryz.prog.info? 103 with | some i => if i.size = 0 then none else some (1, 103) | none => none) = _; rw [info103]; rfl
@[go_sem] theorem field106_2 : fieldInfo Tryz.prog 106 2 = some (2, 104) := by unfold fieldInfo; rw [Tryz.underlying106]; show (match Tryz.prog.info? 104 with | some i => if i.size = 0 then none else some (2, 104) | none => none) = _; rw [info104]; rfl
attribute [go_sem] Tryz.underlying106
@[go_sem] theorem cellsOf107 : Tryz.prog.cellsOf 107 = 1 := by unfold Program.cellsOf; rw [info107]; rfl
@[go_sem] theorem takeVar107 (cs : List PV) : takeVar Tryz.prog 107 cs = cs[0]? := by unfold takeVar isAggT; rw [Tryz.underlying107, info107]
@[go_sem] theorem zeroA107 : zeroA Tryz.prog 107 = some .nilp := by unfold zeroA; rw [info107]; rfl
attribute [go_sem] Tryz.underlying107
attribute [go_sem] Tryz.underlying111
attribute [go_sem] Tryz.underlying113
attribute [go_sem] Tryz.underlying114
attribute [go_sem] Tryz.underlying116
attribute [go_sem] Tryz.underlying121
@[go_sem] theorem cellsOf122 : Tryz.prog.cellsOf 122 = 1 := by unfold Program.cellsOf; rw [info122]; rfl
@[go_sem] theorem takeVar122 (cs : List PV) : takeVar Tryz.prog 122 cs = cs[0]? := by unfold takeVar isAggT; rw [Tryz.underlying122, info122]
@[go_sem] theorem zeroA122 : zeroA Tryz.prog 122 = some .nilfn := by unfold zeroA; rw [info122]; rfl
attribute [go_sem] Tryz.underlying122
attribute [go_sem] Tryz.underlying123
attribute [go_sem] Tryz.underlying125
attribute [go_sem] Tryz.underlying126
attribute [go_sem] Tryz.underlying127
attribute [go_sem] Tryz.underlying128
attribute [go_sem] Tryz.underlying129
attribute [go_sem] Tryz.underlying132
attribute [go_sem] Tryz.underlying133
attribute [go_sem] Tryz.underlying136
attribute [go_sem] Tryz.underlying139
attribute [go_sem] Tryz.underlying141
attribute [go_sem] Tryz.underlying142
attribute [go_sem] Tryz.underlying143
attribute [go_sem] Tryz.underlying150
@[go_sem] theorem cellsOf152 : Tryz.prog.cellsOf 152 = 7 := by unfold Program.cellsOf; rw [info152]; rfl
@[go_sem] theorem takeVar152 (cs : List PV) : takeVar Tryz.prog 152 cs = if 7 ≤ cs.length then some (.agg (cs.take 7)) else none := by unfold takeVar isAggT; rw [Tryz.underlying152, info152]; rfl
@[go_sem] theorem field152_0 : fieldInfo Tryz.prog 152 0 = some (0, 38) := by unfold fieldInfo; rw [Tryz.underlying152]; show (match Tryz.prog.info? 38 with | some i => if i.size = 0 then none else some (0, 38) | none => none) = _; rw [info38]; rfl
@[go_sem] theorem field152_1 : fieldInfo Tryz.prog 152 1 = some (1, 38) := by unfold fieldInfo; rw [Tryz.underlying152]; show (match Tryz.prog.info? 38 with | some i => if i.size = 0 then none else some (1, 38) | none => none) = _; rw [info38]; rfl
@[go_sem] theorem field152_2 : fieldInfo Tryz.prog 152 2 = some (2, 70) := by unfold fieldInfo; rw [Tryz.underlying152]; show (match Tryz.prog.info? 70 with | some i => if i.size = 0 then none else some (2, 70) | none => none) = _; rw [info70]; rfl
attribute [go_sem] Tryz.underlying152
@[go_sem] theorem has154 : (Tryz.prog.info? 154).isSome = true := by rw [info154]; rfl
@[go_sem] theorem cellsOf154 : Tryz.prog.cellsOf 154 = 7 := by unfold Program.cellsOf; rw [info154]; rfl
@[go_sem] theorem bytesOf154 : bytesOf Tryz.prog 154 = 104 := by unfold bytesOf; rw [info154]; rfl
@[go_sem] theorem takeVar154 (cs : List PV) : takeVar Tryz.prog 154 cs = if 7 ≤ cs.length then some (.agg (cs.take 7)) else none := by unfold takeVar isAggT; rw [Tryz.underlying154, info154]; rfl
@[go_sem] theorem zeroA154 : zeroA Tryz.prog 154 = some (.agg [.emp, .emp, (.int IntKind.i64 0), (.int IntKind.i64 0), (.int IntKind.i64 0), (.int IntKind.i64 0), .emp]) := by unfold zeroA; rw [info154]; rfl
@[go_sem] theorem zeroOk154 : zeroOk Tryz.prog 154 = true := by unfold zeroOk; rw [zeroA154, cellsOf154]; rfl
@[go_sem] theorem field154_0 : fieldInfo Tryz.prog 154 0 = some (0, 38) := by unfold fieldInfo; rw [Tryz.underlying154]; show (match Tryz.prog.info? 38 with | some i => if i.size = 0 then none else some (0, 38) | none => none) = _; rw [info38]; rfl
@[go_sem] theorem field154_1 : fieldInfo Tryz.prog 154 1 = some (1, 38) := by unfold fieldInfo; rw [Tryz.underlying154]; show (match Tryz.prog.info? 38 with | some i => if i.size = 0 then none else some (1, 38) | none => none) = _; rw [info38]; rfl
@[go_sem] theorem field154_2 : fieldInfo Tryz.prog 154 2 = some (2, 77) := by unfold fieldInfo; rw [Tryz.underlying154]; show (match Tryz.prog.info? 77 with | some i => if i.size = 0 then none else some (2, 77) | none => none) = _; rw [info77]; rfl
attribute [go_sem] Tryz.underlying154
@[go_sem] theorem has158 : (Tryz.prog.info? 158).isSome = true := by rw [info158]; rfl
@[go_sem] theorem cellsOf158 : Tryz.prog.cellsOf 158 = 4 := by unfold Program.cellsOf; rw [info158]; rfl
@[go_sem] theorem bytesOf158 : bytesOf Tryz.prog 158 = 32 := by unfold bytesOf; rw [info158]; rfl
@[go_sem] theorem takeVar158 (cs : List PV) : takeVar Tryz.prog 158 cs = if 4 ≤ cs.length then some (.agg (cs.take 4)) else none := by unfold takeVar isAggT; rw [Tryz.underlying158, info158]; rfl
@[go_sem] theorem zeroA158 : zeroA Tryz.prog 158 = some (.agg [(.int IntKind.i64 0), (.int IntKind.i64 0), (.int IntKind.i64 0), (.int IntKind.i64 0)]) := by unfold zeroA; rw [info158]; rfl
@[go_sem] theorem zeroOk158 : zeroOk Tryz.prog 158 = true := by unfold zeroOk; rw [zeroA158, cellsOf158]; rfl
@[go_sem] theorem field158_0 : fieldInfo Tryz.prog 158 0 = some (0, 3) := by unfold fieldInfo; rw [Tryz.underlying158]; show (match Tryz.prog.info? 3 with | some i => if i.size = 0 then none else some (0, 3) | none => none) = _; rw [info3]; rfl
@[go_sem] theorem field158_1 : fieldInfo Tryz.prog 158 1 = some (1, 3) := by unfold fieldInfo; rw [Tryz.underlying158]; show (match Tryz.prog.info? 3 with | some i => if i.size = 0 then none else some (1, 3) | none => none) = _; rw [info3]; rfl
@[go_sem] theorem field158_2 : fieldInfo Tryz.prog 158 2 = some (2, 74) := by unfold fieldInfo; rw [Tryz.underlying158]; show (match Tryz.prog.info? 74 with | some i => if i.size = 0 then none else some (2, 74) | none => none) = _; rw [info74]; rfl
attribute [go_sem] Tryz.underlying158
attribute [go_sem] Tryz.underlying164
@[go_sem] theorem cellsOf166 : Tryz.prog.cellsOf 166 = 4 := by unfold Program.cellsOf; rw [info166]; rfl
@[go_sem] theorem takeVar166 (cs : List PV) : takeVar Tryz.prog 166 cs = if 4 ≤ cs.length then some (.agg (cs.take 4)) else none := by unfold takeVar isAggT; rw [Tryz.underlying166, info166]; rfl
@[go_sem] theorem field166_0 : fieldInfo Tryz.prog 166 0 = some (0, 3) := by unfold fieldInfo; rw [Tryz.underlying166]; show (match Tryz.prog.info? 3 with | some i => if i.size = 0 then none else some (0, 3) | none => none) = _; rw [info3]; rfl
@[go_sem] theorem field166_1 : fieldInfo Tryz.prog 166 1 = some (1, 3) := by unfold fieldInfo; rw [Tryz.underlying166]; show (match Tryz.prog.info? 3 with | some i => if i.size = 0 then none else some (1, 3) | none => none) = _; rw [info3]; rfl
@[go_sem] theorem field166_2 : fieldInfo Tryz.prog 166 2 = some (2, 67) := by unfold fieldInfo; rw [Tryz.underlying166]; show (match Tryz.prog.info? 67 with | some i => if i.size = 0 then none else some (2, 67) | none => none) = _; rw [info67]; rfl
attribute [go_sem] Tryz.underlying166
attribute [go_sem] Tryz.underlying168
attribute [go_sem] Tryz.underlying169
attribute [go_sem] Tryz.underlying170
attribute [go_sem] Tryz.underlying172
attribute [go_sem] Tryz.underlying176
attribute [go_sem] Tryz.underlying177
attribute [go_sem] Tryz.underlying180
attribute [go_sem] Tryz.underlying181
attribute [go_sem] Tryz.underlying182
attribute [go_sem] Tryz.underlying186
attribute [go_sem] Tryz.underlying188
@[go_sem] theorem has190 : (Tryz.prog.info? 190).isSome = true := by rw [info190]; rfl
@[go_sem] theorem cellsOf190 : Tryz.prog.cellsOf 190 = 6 := by unfold Program.cellsOf; rw [info190]; rfl
@[go_sem] theorem takeVar190 (cs : List PV) : takeVar Tryz.prog 190 cs = if 6 ≤ cs.length then some (.agg (cs.take 6)) else none := by unfold takeVar isAggT; rw [Tryz.underlying190, info190]; rfl
attribute [go_sem] Tryz.underlying190
@[go_sem] theorem has191 : (Tryz.prog.info? 191).isSome = true := by rw [info191]; rfl
@[go_sem] theorem cellsOf191 : Tryz.prog.cellsOf 191 = 18 := by unfold Program.cellsOf; rw [info191]; rfl
attribute [go_sem] Tryz.underlying191
attribute [go_sem] Tryz.underlying192
@[go_sem] theorem zeroA193 : zeroA Tryz.prog 193 = some (.agg [(.int IntKind.i64 0), (.int IntKind.i64 0), (.int IntKind.i64 0), (.int IntKind.i64 0), (.int IntKind.i64 0), (.int IntKind.i64 0), (.int IntKind.i64 0), (.int IntKind.i64 0), (.int IntKind.i64 0), (.int IntKind.i64 0), (.int IntKind.i64 0), (.int IntKind.i64 0), (.int IntKind.i64 0), (.int IntKind.i64 0), (.int IntKind.i64 0), (.int IntKind.i64 0), (.int IntKind.i64 0), (.int IntKind.i64 0)]) := by unfold zeroA; rw [info193]; rfl
@[go_sem] theorem field193_0 : fieldInfo Tryz.prog 193 0 = some (0, 191) := by unfold fieldInfo; rw [Tryz.underlying193]; show (match Tryz.prog.info? 191 with | some i => if i.size = 0 then none else some (0, 191) | none => none) = _; rw [info191]; rfl
attribute [go_sem] Tryz.underlying193
attribute [go_sem] Tryz.underlying194
attribute [go_sem] Tryz.underlying203
attribute [go_sem] Tryz.underlying210
attribute [go_sem] Tryz.underlying215
attribute [go_sem] Tryz.underlying218
@[go_sem] theorem zeroA221 : zeroA Tryz.prog 221 = some (.agg []) := by unfold zeroA; rw [info221]; rfl
attribute [go_sem] Tryz.underlying221
@[go_sem] theorem zeroA222 : zeroA Tryz.prog 222 = some (.agg []) := by unfold zeroA; rw [info222]; rfl
attribute [go_sem] Tryz.underlying222
@[go_sem] theorem zeroA223 : zeroA Tryz.prog 223 = some (.agg []) := by unfold zeroA; rw [info223]; rfl
attribute [go_sem] Tryz.underlying223
@[go_sem] theorem zeroA224 : zeroA Tryz.prog 224 = some (.agg []) := by unfold zeroA; rw [info224]; rfl
attribute [go_sem] Tryz.underlying224
attribute [go_sem] Tryz.underlying225
attribute [go_sem] Tryz.underlying227
attribute [go_sem] Tryz.underlying228
@[go_sem] theorem zeroA236 : zeroA Tryz.prog 236 = some (.agg []) := by unfold zeroA; rw [info236]; rfl
attribute [go_sem] Tryz.underlying236
@[go_sem] theorem zeroA237 : zeroA Tryz.prog 237 = some (.agg []) := by unfold zeroA; rw [info237]; rfl
attribute [go_sem] Tryz.underlying237
@[go_sem] theorem zeroA238 : zeroA Tryz.prog 238 = some (.agg []) := by unfold zeroA; rw [info238]; rfl
attribute [go_sem] Tryz.underlying238
@[go_sem] theorem zeroA239 : zeroA Tryz.prog 239 = some (.agg []) := by unfold zeroA; rw [info239]; rfl
attribute [go_sem] Tryz.underlying239
@[go_sem] theorem takeVar240 (cs : List PV) : takeVar Tryz.prog 240 cs = cs[0]? := by unfold takeVar isAggT; rw [Tryz.underlying240, info240]
attribute [go_sem] Tryz.underlying240
attribute [go_sem] Tryz.underlying255
attribute [go_sem] Tryz.underlying256
attribute [go_sem] Tryz.underlying261
attribute [go_sem] Tryz.underlying274
attribute [go_sem] Tryz.underlying276
@[go_sem] theorem buildA50 (ps : List (Nat × PV)) : buildA Tryz.prog 50 ps = (match fillL [(0, 1), (1, 1)] [.emp, .emp] ps with | some cs => some (.agg cs) | none => none) := buildA_of zeroA50 (placesA_struct Tryz.underlying50 (by simp only [List.all_cons, List.all_nil, has35, Bool.and_self]) (by simp only [List.map_cons, List.map_nil, cellsOf35])) ps
@[go_sem] theorem buildA52 (ps : List (Nat × PV)) : buildA Tryz.prog 52 ps = (match fillL [(0, 1), (1, 1), (2, 1)] [.emp, .emp, .emp] ps with | some cs => some (.agg cs) | none => none) := buildA_of zeroA52 (placesA_struct Tryz.underlying52 (by simp only [List.all_cons, List.all_nil, has38, Bool.and_self]) (by simp only [List.map_cons, List.map_nil, cellsOf38])) ps
@[go_sem] theorem buildA74 (ps : List (Nat × PV)) : buildA Tryz.prog 74 ps = (match fillL [(0, 1), (1, 1)] [(.int IntKind.i64 0), (.int IntKind.i64 0)] ps with | some cs => some (.agg cs) | none => none) := buildA_of zeroA74 (placesA_struct Tryz.underlying74 (by simp only [List.all_cons, List.all_nil, has3, Bool.and_self]) (by simp only [List.map_cons, List.map_nil, cellsOf3])) ps
@[go_sem] theorem buildA106 (ps : List (Nat × PV)) : buildA Tryz.prog 106 ps = (match fillL [(0, 1), (1, 1), (2, 6)] [(.int IntKind.u64 0), (.int IntKind.u64 0), (.bool false), (.bool false), (.bool false), (.bool false), (.bool false), (.bool false)] ps with | some cs => some (.agg cs) | none => none) := buildA_of zeroA106 (placesA_struct Tryz.underlying106 (by simp only [List.all_cons, List.all_nil, has103, has104, Bool.and_self]) (by simp only [List.map_cons, List.map_nil, cellsOf103, cellsOf104])) ps
@[go_sem] theorem buildA193 (ps : List (Nat × PV)) : buildA Tryz.prog 193 ps = (match fillL [(0, 18)] [(.int IntKind.i64 0), (.int IntKind.i64 0), (.int IntKind.i64 0), (.int IntKind.i64 0), (.int IntKind.i64 0), (.int IntKind.i64 0), (.int IntKind.i64 0), (.int IntKind.i64 0), (.int IntKind.i64 0), (.int IntKind.i64 0), (.int IntKind.i64 0), (.int IntKind.i64 0), (.int IntKind.i64 0), (.int IntKind.i64 0), (.int IntKind.i64 0), (.int IntKind.i64 0), (.int IntKind.i64 0), (.int IntKind.i64 0)] ps with | some cs => some (.agg cs) | none => none) := buildA_of zeroA193 (placesA_struct Tryz.underlying193 (by simp only [List.all_cons, List.all_nil, has191, Bool.and_self]) (by simp only [List.map_cons, List.map_nil, cellsOf191])) ps
end Go.Proofs.YtnmfmeehmieifaaGreat
