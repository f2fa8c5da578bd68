/- What is proved: FnChartSameCard: for every input the law returns true, and its arguments read as before. Conditions: none but the statement's own. -/
import Derived.Test.YtnmfmeehmieifaaDoorXdba83b667a
import Derived.ProofKit
import Derived.OpenShut
import Derived.Test.YtnmfmeehmieifaaDoorRows
import Derived.ChangeVars
import Derived.RowKitTokens
import Derived.LaidLaws
import Derived.WalkSmall
import Derived.Deep.DeepLaidRun
import Derived.Lib.LaidTab
import Derived.Test.YtnmfmeehmieifaaDoorTie
import Derived.Test.YtnmfmeehmieifaaDoorCards
set_option linter.unusedSectionVars false
set_option linter.unusedSimpArgs false
set_option linter.unusedVariables false
namespace Sg
open Go Go.ChangeShapes Go.WideShapes Go.ChangeAt Go.RowKit
set_option linter.unusedSectionVars false
variable [Glob]
def ghOf (W : World) : Gh := { io := fun _ => none, H := fun b => W.heap[b]? }
theorem top_calls {P : Program} {f : FuncId} {W : World} {vals : Array Value} {args : List PV} (hg : GlobOk P (ghOf W)) (hv : RL P (ghOf W) args vals) (hc : PureF P f args [.bool true]) :
    Calls P f vals W (fun e W' => e = .returned (.bool true) ∧ Below W.heap.size W W') := by
  rw [← callsIn_wide, ← Fe_none]
  have hi : Inv P (ghOf W) { f := fun _ => none, fr := fun _ => True } W :=
    ⟨fun _ _ h => h, fun i o h => (by cases h), fun i j o o' e e' h => (by cases h), fun i o e h => (by cases h), fun _ _ => rfl, hg⟩
  refine (hc _ [] ⟨0, fun _ _ => trivial⟩ (fun i o h => by simp [lk] at h) rfl List.nodup_nil (fun n hn => by simp at hn) (ghOf W) W vals hv hi).mono ?_
  rintro e w' ⟨g', out, k1, k2, k3, k4, rfl, k6⟩
  refine ⟨?_, ⟨k2.os, k2.tape, k2.output, k2.size, fun k hk => ?_⟩⟩
  · cases e with
    | returned v => cases k6; rfl
    | panicked ch => exact k6.elim
    | outgrown => exact k6.elim
  · have h1 : W.heap[k]? = some W.heap[k] := by rw [Array.getElem?_eq_getElem hk]
    rw [h1]
    exact k3.hH k _ (k1.H k _ h1)
def bytesA (l : List Nat) : List (List PV) := l.map fun (x : Nat) => [.int .u8 (x : Int)]
section
variable {H : Type} {enc : TypeId × Value → H} {P : Program}
omit [Glob] in
theorem open_bytesA {t e : TypeId} (ht : P.underlying t = some (.slice e)) (he : P.underlying e = some (.int .u8)) (hc : P.cellsOf e = 1) {W : World} {base : Nat} {v : Value} {d : DataW H} {ps : List MemPlace}
    (hval : Value.okWide P W .any base t v) (h : DataW.Trod enc P W 0 (fun _ => true) true t v d ps) :
    ∃ l : List Nat, (∀ x ∈ l, x < 256) ∧ l.length ≤ 9223372036854775807 ∧ R P (ghOf W) (.rows e (bytesA l)) v := by
  obtain ⟨a1, len, cap, rfl⟩ := okWide_slice ht hval
  obtain ⟨fuel, hf⟩ := h
  rcases open_ints ht he hc hf with ⟨hcs, hx⟩ | ⟨a, len', cap', zs, hcs, _, hl, hm, hz, hx, hcell, hwz⟩
  · simp [Value.cells] at hcs
    obtain ⟨rfl, rfl, rfl⟩ := hcs
    exact ⟨[], by simp, by simp, .rows0 e none 0⟩
  · simp [Value.cells] at hcs
    obtain ⟨rfl, rfl, rfl⟩ := hcs
    simp only [if_true] at hz
    have hml : cap ≤ 9223372036854775807 := hm
    refine ⟨(zs.take len).map Int.toNat, ?_, by simp; omega, ?_⟩
    · intro x hx
      simp only [List.mem_map] at hx
      obtain ⟨n, hn, rfl⟩ := hx
      have := hwz n (List.mem_of_mem_take hn)
      have : 0 ≤ n ∧ n ≤ 255 := by simpa [Lit.wf, IntKind.min, IntKind.max, IntKind.signed, IntKind.bits] using this
      omega
    · by_cases h0 : len = 0
      · subst h0; exact .rows0 e (some a) cap
      obtain ⟨ab, ao, spot⟩ := a
      have hspot : spot = none := by simpa [Addr.add] using World.cell?_spot (hcell 0 (by omega))
      subst hspot
      have hc0 := hcell 0 (by omega)
      rw [Addr.add_lit] at hc0
      obtain ⟨arr, T, fr, hW⟩ : ∃ arr T fr, W.heap[ab]? = some (.cells arr T fr) := by
        unfold World.cell? at hc0
        simp only at hc0
        split at hc0
        · exact ⟨_, _, _, by assumption⟩
        · cases hc0
      have hcell' : ∀ i, i < zs.length → arr[ao + i]? = some (.int .u8 (zs.getD i 0)) := by
        intro i hi
        have := hcell i hi
        rw [Addr.add_lit] at this
        unfold World.cell? at this
        simp only [hW] at this
        simpa using this
      have hlen : (bytesA ((zs.take len).map Int.toNat)).length = len := by simp [bytesA]; omega
      have hsz : ao + len ≤ arr.size := by
        have := hcell' (len - 1) (by omega)
        have := (Array.getElem?_eq_some_iff.1 this).1
        omega
      have key := R.rows (P := P) (g := ghOf W) e (bytesA ((zs.take len).map Int.toNat)) ab ao cap arr T fr hW (by omega) (by omega) (by rw [hlen, hc]; omega)
        (fun c hc' => by simp only [bytesA, List.mem_map] at hc'; obtain ⟨x, _, rfl⟩ := hc'; rw [hc]; rfl)
        (fun c hc' => by simp only [bytesA, List.mem_map] at hc'; obtain ⟨x, _, rfl⟩ := hc'; rfl)
        (fun c hc' x hx => by simp only [bytesA, List.mem_map] at hc'; obtain ⟨y, _, rfl⟩ := hc'; simp at hx; subst hx; rfl)
        (fun i j hi hj => by
          have hi' : i < len := by omega
          have e1 : (bytesA ((zs.take len).map Int.toNat))[i] = [.int .u8 (((zs.getD i 0).toNat : Nat) : Int)] := by
            simp [bytesA, List.getD, List.getElem?_eq_getElem (show i < zs.length by omega)]
          have hj0 : j = 0 := by
            have : (bytesA ((zs.take len).map Int.toNat))[i].length = 1 := by rw [e1]; rfl
            omega
          subst hj0
          have hz0 : 0 ≤ zs.getD i 0 := by
            have hmem : zs.getD i 0 ∈ zs := by rw [List.getD_eq_getElem?_getD, List.getElem?_eq_getElem (by omega)]; exact List.getElem_mem _
            have := hwz _ hmem
            have : 0 ≤ zs.getD i 0 ∧ zs.getD i 0 ≤ 255 := by simpa [Lit.wf, IntKind.min, IntKind.max, IntKind.signed, IntKind.bits] using this
            exact this.1
          have e2 : arr.getD (ao + i * P.cellsOf e + 0) undef = .int .u8 (zs.getD i 0) := by
            rw [hc, Nat.mul_one, Nat.add_zero, Array.getD_eq_getD_getElem?, hcell' i (by omega)]; rfl
          rw [e2]
          have e3 : (bytesA ((zs.take len).map Int.toNat))[i][0] = .int .u8 (zs.getD i 0) := by
            simp only [e1, List.getElem_cons_zero]
            rw [Int.toNat_of_nonneg hz0]
          rw [e3]
          exact .int _ _)
      rwa [hlen] at key
end
end Sg
namespace Go.Proofs.YtnmfmeehmieifaaDoor
open Go Sg Go.ChangeShapes Go.WideShapes Go.ChangeAt Go.RowKit
set_option linter.unusedVariables false
set_option maxRecDepth 100000
theorem Tryd.own : ownKnob Tryd.prog.godebug = none := by kernel_rfl
theorem Tryd.laidOut : laidOutB Tryd.prog = true := by kernel_rfl
def laidC : List (String × DataW Unit) := [("math/bits.deBruijn32tab", Rows.laid_math_bits_deBruijn32tab), ("math/bits.deBruijn64tab", Rows.laid_math_bits_deBruijn64tab), ("internal/strconv.uint64pow10", Rows.laid_internal_strconv_uint64pow10)]
theorem Tryd.gPow : Tryd.prog.globalNamed "internal/strconv.uint64pow10" = some 0 := by kernel_rfl
theorem Tryd.gPowT : (Tryd.prog.globals[0]?).map (·.type) = some 114 := by kernel_rfl
theorem Tryd.cellsU64 : Tryd.prog.cellsOf 105 = 1 := by kernel_rfl
theorem Tryd.cells20 : Tryd.prog.cellsOf 114 = 20 := by kernel_rfl
theorem powData : (Rows.laid_internal_strconv_uint64pow10 : DataW Unit) = Lib.tabData .u64 Lib.pow10Tab := by
  unfold Rows.laid_internal_strconv_uint64pow10 Lib.tabData Lib.pow10Tab
  rfl
theorem pow_of_laid {W : World} (h : laidMet Tryd.prog laidC W) : Lib.TabIs Tryd.prog W "internal/strconv.uint64pow10" .u64 Lib.pow10Tab := by
  obtain ⟨ps, ⟨g0, t0, cs0, f0, p0, q0, _, _, _, _, ⟨g1, t1, cs1, f1, p1, q1, _, _, _, _, ⟨g', t', cs, fuel, p, q, hg', ht', hvar, hd, _, _⟩, _⟩, _⟩, _⟩ := h
  obtain rfl := Option.some.inj (Tryd.gPow.symm.trans hg')
  obtain rfl := Option.some.inj (Tryd.gPowT.symm.trans ht')
  unfold Lib.TabIs
  rw [powData] at hd
  rw [hvar, ← Lib.cells_of_tab Tryd.underlying114 Tryd.underlying105 Tryd.cellsU64 Tryd.cells20 hd]
def rowOf : DataW Unit → Array Value
  | .agg l => (l.map fun d => match d with
    | .lit (.int k n) => Value.int k n
    | _ => .int .i64 0).toArray
  | _ => #[]
noncomputable def laidWorldC (os : Os) : World :=
  let w0 := World.holding Tryd.prog os ⟨#[], #[], []⟩
  let put (r : Array Value) : Obj → Obj := fun
      | .cells _ t frozen => .cells r t frozen
      | o => o
  { w0 with heap := ((w0.heap.modify 2 (put (rowOf Rows.laid_math_bits_deBruijn32tab))).modify 3 (put (rowOf Rows.laid_math_bits_deBruijn64tab))).modify 0 (put (rowOf Rows.laid_internal_strconv_uint64pow10)) }
theorem laidWorldC_met (os : Os) (args : Array Value) : laidMet Tryd.prog laidC ((laidWorldC os).forCall (fun _ _ => 0) ⟨#[], args, []⟩).memory :=
  laidMet_of_run3 8 (by kernel_rfl) (by kernel_rfl) (by kernel_rfl)
abbrev tabC : TabK := { tab := fun i => if i = 0 then some (Lib.pow10Tab.map (.int .u64)) else none, pw := Lib.pow10Tab, hlen := Lib.pow10Tab_length, tab0 := by simp, pow := rfl }
theorem tabC_ok {W : World} (h : Lib.TabIs Tryd.prog W "internal/strconv.uint64pow10" .u64 Lib.pow10Tab) : @GlobOk tabC.toTab.toGlob Tryd.prog (ghOf W) := by
  intro i cs hi
  have hi' : (if i = 0 then some (Lib.pow10Tab.map (PV.int .u64)) else none) = some cs := hi
  split at hi'
  · rename_i hi0
    subst hi0
    injection hi' with hi'
    subst hi'
    unfold Lib.TabIs World.var? at h
    rw [Tryd.gPow] at h
    simp only [Option.bind_some] at h
    split at h
    · rename_i c t fr hb
      injection h with h
      subst h
      refine ⟨?_, _, _, _, hb, by simp⟩
      have hp : PV.pureL (Lib.pow10Tab.map (PV.int .u64)) = true := (pureL_iff _).2 fun x hx => by
        obtain ⟨n, _, rfl⟩ := List.mem_map.1 hx
        rfl
      refine .vptr _ _ _ _ t fr hb (by simp) hp fun j hj => ?_
      have hj' : j < Lib.pow10Tab.length := by simpa using hj
      have e : ((Lib.pow10Tab.map fun z => Value.int .u64 z).toArray).getD (0 + j) undef = .int .u64 Lib.pow10Tab[j] := by
        rw [Nat.zero_add, Array.getD_eq_getD_getElem?]
        simp [hj']
      rw [e, List.getElem_map]
      exact .int _ _
    · cases h
  · cases hi'
end Go.Proofs.YtnmfmeehmieifaaDoor
namespace Go.Proofs.YtnmfmeehmieifaaDoor
open Go Sg Go.ChangeShapes Go.WideShapes Go.ChangeAt Go.RowKit
set_option linter.unusedVariables false
set_option maxRecDepth 100000 in
theorem fnChartSame_lifted (os : Os) (started : os.Started) (H : Type) (enc : TypeId × Value → H) :
    ReturnsInHanded {} Tryd.checked os 3 .any (fun w args => (Rows.fnChartSameSpec.pre enc Tryd.prog Tryd.f3 Rows.fnChartSameRow.domain false w args ∧ laidMet Tryd.prog laidC w) ∧ sizedMet enc Tryd.prog Tryd.f3 (OpenSpec.ofChange Rows.fnChartSameSpec) false w args) (Rows.fnChartSameSpec.post enc Tryd.prog Tryd.f3 false true false false) := by
  refine returnsInHanded_of_change_and (C := Tryd.checked) (X := fun w _ => laidMet Tryd.prog laidC w) (fun _ _ _ hh h => h.of_heap hh) Tryd.own started (by kernel_rfl) Tryd.func3
    (ChangeSpec.witness_at (enc := enc) (C := Tryd.checked) (os := os) (X := fun w _ => laidMet Tryd.prog laidC w) false (laidWorldC os) #[.slice none 0 0, .slice none 0 0] 8 rfl (by kernel_rfl) (by kernel_rfl) (by kernel_rfl) (by kernel_rfl) (by kernel_rfl) (laidWorldC_met os _)) ?_
  intro W base args ds gs before hval0 hW hcnd _ hL _
  have hval : ∀ (j : Nat) t v, Tryd.f3.params[j]? = some t → args[j]? = some v → Value.okWide Tryd.prog W .any base t v := hval0
  have hW' := hW
  obtain ⟨p, q, hA0, hV0, rfl, hfz, hnd⟩ := hW
  have hA : DataW.TrodAll enc Tryd.prog W 0 (fun _ => true) true Tryd.f3.params.toList args.toList ds p := hA0
  rw [Tryd.params3] at hA hval
  obtain ⟨v0, vs0, d0, ds0, p0, q0, hargs, rfl, rfl, h0, r0⟩ := trodAll_cons hA
  obtain ⟨v1, vs1, d1, ds1, p1, q1, hargs1, rfl, rfl, h1, r1⟩ := trodAll_cons r0
  obtain ⟨rfl, rfl, rfl⟩ := trodAll_nil r1
  obtain rfl : args = #[v0, v1] := by cases args; simp_all
  have htab := pow_of_laid hL
  obtain ⟨rfl, rfl⟩ := trodVars_none hV0
  clear hA0 hV0 hval0
  have hlt : ∀ x ∈ (p0 ++ (p1 ++ [])), x.block < W.heap.size := fun x hx => by simpa using hW'.lt x (by simp at hx ⊢; rcases hx with h | h <;> simp [h])
  obtain ⟨l0, hb0, hl0, hr0⟩ := open_bytesA Tryd.underlying22 Tryd.underlying5 (cellsOf5) (hval 0 22 v0 rfl rfl) h0
  obtain ⟨l1, hb1, hl1, hr1⟩ := open_bytesA Tryd.underlying22 Tryd.underlying5 (cellsOf5) (hval 1 22 v1 rfl rfl) h1
  letI : TabK := tabC
  refine (top_calls (W := W) (args := [.rows 5 (u8s l0), .rows 5 (u8s l1)]) (tabC_ok htab) ⟨rfl, fun j hj => ?_⟩ (lawSame_ok l0 l1 hb0 hb1)).mono fun e W' ⟨he, hb⟩ => ?_
  · match j, hj with
    | 0, _ => exact hr0
    | 1, _ => exact hr1
  subst he
  exact ⟨_, rfl, _, _, _, [], (p0 ++ (p1 ++ [])), [], hW', trodAll_cons_mk (shut_bool Tryd.underlying4 _) trodAll_mk0, (trodAll_cons_mk (WideElems.Trod_stays Tryd.laidOut (by kernel_rfl) (of_decide_eq_true (by kernel_rfl)) h0 (fun x hx => hb.same (hlt x (by simp [hx]))) (fun x hx => by simpa using hlt x (by simp [hx]))) (trodAll_cons_mk (WideElems.Trod_stays Tryd.laidOut (by kernel_rfl) (of_decide_eq_true (by kernel_rfl)) h1 (fun x hx => hb.same (hlt x (by simp [hx]))) (fun x hx => by simpa using hlt x (by simp [hx]))) trodAll_mk0)), rfl, hb.frame _, fun h => by cases h⟩
theorem fnChartSame_holds : Rows.FnChartSameSaid :=
  OpenClaim.holds_of_wide 3 Tryd.f3 rfl rfl rfl rfl rfl rfl rfl ⟨rfl, rfl, rfl, rfl, rfl⟩ rfl rfl rfl rfl rfl (by kernel_rfl) Tryd.func3 (by kernel_rfl)
    (of_decide_eq_true (by kernel_rfl)) (by unfold Func.isWrapper; first | (rw [if_pos (by decide +kernel)]; kernel_rfl) | (rw [if_neg (by decide +kernel)]; exact ⟨rfl, rfl⟩))
    (fun os started H enc _ => fnChartSame_lifted os started H enc)
set_option maxRecDepth 100000 in
theorem fnChartSame_card_holds : Rows.FnChartSameCardSaid :=
  Claim7.holds_tied_plain_at .later [] [.data, .data, .data] true (true, "38c6ec136f38d9a7f2161f3447e21529dc42a67ed693447e476715a72322dcda") false
    fnChartSame_holds (fun _ h => by cases h) (by kernel_rfl) (fun _ h => by cases h) fnChartSame_row_tie rfl ⟨rfl, rfl⟩ (by kernel_rfl) rfl
    (fun f fn hf hfn => by
      obtain rfl : f = 3 := Option.some.inj ((show Tryd.prog.funcNamed "loop.example/stopgate/laws.FnChartSame" = some 3 by kernel_rfl).symm.trans hf) |>.symm
      obtain rfl : fn = Tryd.f3 := (Option.some.inj (Tryd.func3.symm.trans hfn)).symm
      exact ⟨by kernel_rfl, fun j t ht => by
        rw [Tryd.params3] at ht
        have h3 : t = 22 := by
          rcases j with _ | _ | j
          · simpa using ht.symm
          · simpa using ht.symm
          · simp at ht
        subst h3
        exact (show Tryd.prog.wantsStandIn 22 = false by kernel_rfl)⟩)
    (by kernel_rfl)
end Go.Proofs.YtnmfmeehmieifaaDoor
