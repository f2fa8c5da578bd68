/- What is proved: FnCodeDepth: for every input the law returns true, and its arguments read as before. Conditions: none but the statement's own. -/
import Derived.Test.YtmicbfojofcigaaGreatX53626dee43
import Derived.ProofKit
import Derived.OpenShut
import Derived.Test.YtmicbfojofcigaaGreatRows
import Derived.HandedShaped
set_option linter.unusedSectionVars false
set_option linter.unusedSimpArgs false
set_option linter.unusedVariables false
namespace Sg
open Go Go.ChangeShapes Go.WideShapes Go.ChangeAt Go.RowKit
set_option linter.unusedSectionVars false
variable [Glob]
def ghOf (W : World) : Gh := { io := fun _ => none, H := fun b => W.heap[b]? }
theorem top_calls {P : Program} {f : FuncId} {W : World} {vals : Array Value} {args : List PV} (hg : GlobOk P (ghOf W)) (hv : RL P (ghOf W) args vals) (hc : PureF P f args [.bool true]) :
    Calls P f vals W (fun e W' => e = .returned (.bool true) ∧ Below W.heap.size W W') := by
  rw [← callsIn_wide, ← Fe_none]
  have hi : Inv P (ghOf W) { f := fun _ => none, fr := fun _ => True } W :=
    ⟨fun _ _ h => h, fun i o h => (by cases h), fun i j o o' e e' h => (by cases h), fun i o e h => (by cases h), fun _ _ => rfl, hg⟩
  refine (hc _ [] ⟨0, fun _ _ => trivial⟩ (fun i o h => by simp [lk] at h) rfl List.nodup_nil (fun n hn => by simp at hn) (ghOf W) W vals hv hi).mono ?_
  rintro e w' ⟨g', out, k1, k2, k3, k4, rfl, k6⟩
  refine ⟨?_, ⟨k2.os, k2.tape, k2.output, k2.size, fun k hk => ?_⟩⟩
  · cases e with
    | returned v => cases k6; rfl
    | panicked ch => exact k6.elim
    | outgrown => exact k6.elim
  · have h1 : W.heap[k]? = some W.heap[k] := by rw [Array.getElem?_eq_getElem hk]
    rw [h1]
    exact k3.hH k _ (k1.H k _ h1)
def bytesA (l : List Nat) : List (List PV) := l.map fun (x : Nat) => [.int .u8 (x : Int)]
section
variable {H : Type} {enc : TypeId × Value → H} {P : Program}
omit [Glob] in
theorem open_bytesA {t e : TypeId} (ht : P.underlying t = some (.slice e)) (he : P.underlying e = some (.int .u8)) (hc : P.cellsOf e = 1) {W : World} {base : Nat} {v : Value} {d : DataW H} {ps : List MemPlace}
    (hval : Value.okWide P W .any base t v) (h : DataW.Trod enc P W 0 (fun _ => true) true t v d ps) :
    ∃ l : List Nat, (∀ x ∈ l, x < 256) ∧ l.length ≤ 9223372036854775807 ∧ R P (ghOf W) (.rows e (bytesA l)) v := by
  obtain ⟨a1, len, cap, rfl⟩ := okWide_slice ht hval
  obtain ⟨fuel, hf⟩ := h
  rcases open_ints ht he hc hf with ⟨hcs, hx⟩ | ⟨a, len', cap', zs, hcs, _, hl, hm, hz, hx, hcell, hwz⟩
  · simp [Value.cells] at hcs
    obtain ⟨rfl, rfl, rfl⟩ := hcs
    exact ⟨[], by simp, by simp, .rows0 e none 0⟩
  · simp [Value.cells] at hcs
    obtain ⟨rfl, rfl, rfl⟩ := hcs
    simp only [if_true] at hz
    have hml : cap ≤ 9223372036854775807 := hm
    refine ⟨(zs.take len).map Int.toNat, ?_, by simp; omega, ?_⟩
    · intro x hx
      simp only [List.mem_map] at hx
      obtain ⟨n, hn, rfl⟩ := hx
      have := hwz n (List.mem_of_mem_take hn)
      have : 0 ≤ n ∧ n ≤ 255 := by simpa [Lit.wf, IntKind.min, IntKind.max, IntKind.signed, IntKind.bits] using this
      omega
    · by_cases h0 : len = 0
      · subst h0; exact .rows0 e (some a) cap
      obtain ⟨ab, ao, spot⟩ := a
      have hspot : spot = none := by simpa [Addr.add] using World.cell?_spot (hcell 0 (by omega))
      subst hspot
      have hc0 := hcell 0 (by omega)
      rw [Addr.add_lit] at hc0
      obtain ⟨arr, T, fr, hW⟩ : ∃ arr T fr, W.heap[ab]? = some (.cells arr T fr) := by
        unfold World.cell? at hc0
        simp only at hc0
        split at hc0
        · exact ⟨_, _, _, by assumption⟩
        · cases hc0
      have hcell' : ∀ i, i < zs.length → arr[ao + i]? = some (.int .u8 (zs.getD i 0)) := by
        intro i hi
        have := hcell i hi
        rw [Addr.add_lit] at this
        unfold World.cell? at this
        simp only [hW] at this
        simpa using this
      have hlen : (bytesA ((zs.take len).map Int.toNat)).length = len := by simp [bytesA]; omega
      have hsz : ao + len ≤ arr.size := by
        have := hcell' (len - 1) (by omega)
        have := (Array.getElem?_eq_some_iff.1 this).1
        omega
      have key := R.rows (P := P) (g := ghOf W) e (bytesA ((zs.take len).map Int.toNat)) ab ao cap arr T fr hW (by omega) (by omega) (by rw [hlen, hc]; omega)
        (fun c hc' => by simp only [bytesA, List.mem_map] at hc'; obtain ⟨x, _, rfl⟩ := hc'; rw [hc]; rfl)
        (fun c hc' => by simp only [bytesA, List.mem_map] at hc'; obtain ⟨x, _, rfl⟩ := hc'; rfl)
        (fun c hc' x hx => by simp only [bytesA, List.mem_map] at hc'; obtain ⟨y, _, rfl⟩ := hc'; simp at hx; subst hx; rfl)
        (fun i j hi hj => by
          have hi' : i < len := by omega
          have e1 : (bytesA ((zs.take len).map Int.toNat))[i] = [.int .u8 (((zs.getD i 0).toNat : Nat) : Int)] := by
            simp [bytesA, List.getD, List.getElem?_eq_getElem (show i < zs.length by omega)]
          have hj0 : j = 0 := by
            have : (bytesA ((zs.take len).map Int.toNat))[i].length = 1 := by rw [e1]; rfl
            omega
          subst hj0
          have hz0 : 0 ≤ zs.getD i 0 := by
            have hmem : zs.getD i 0 ∈ zs := by rw [List.getD_eq_getElem?_getD, List.getElem?_eq_getElem (by omega)]; exact List.getElem_mem _
            have := hwz _ hmem
            have : 0 ≤ zs.getD i 0 ∧ zs.getD i 0 ≤ 255 := by simpa [Lit.wf, IntKind.min, IntKind.max, IntKind.signed, IntKind.bits] using this
            exact this.1
          have e2 : arr.getD (ao + i * P.cellsOf e + 0) undef = .int .u8 (zs.getD i 0) := by
            rw [hc, Nat.mul_one, Nat.add_zero, Array.getD_eq_getD_getElem?, hcell' i (by omega)]; rfl
          rw [e2]
          have e3 : (bytesA ((zs.take len).map Int.toNat))[i][0] = .int .u8 (zs.getD i 0) := by
            simp only [e1, List.getElem_cons_zero]
            rw [Int.toNat_of_nonneg hz0]
          rw [e3]
          exact .int _ _)
      rwa [hlen] at key
end
end Sg
namespace Go.Proofs.YtmicbfojofcigaaGreat
open Go Sg Go.ChangeShapes Go.WideShapes Go.ChangeAt Go.RowKit
set_option linter.unusedVariables false
set_option linter.unusedSectionVars false
set_option maxRecDepth 100000
theorem Tryz.own : ownKnob Tryz.prog.godebug = none := by kernel_rfl
theorem Tryz.laidOut : laidOutB Tryz.prog = true := by kernel_rfl
abbrev tabI (l : List Int) (h : l.length = 20) : Tab := { tab := fun i => if i = 0 then some (l.map (.int .u64)) else none, pw := l, hlen := h, tab0 := by simp }
theorem tab_zero : ((begin Tryz.prog (fun _ _ => 0) default).world.heap[0]?).bind Obj.row? = some (Array.replicate 20 (.int .u64 0), 176) := by kernel_rfl
theorem tab_cells : Tryz.prog.cellTypes Tryz.prog.depth 176 = some (List.replicate 20 144) := by kernel_rfl
def vInt : Value → Int
  | .int _ m => m
  | _ => 0
theorem tab_of_shaped {W : World} (h : W.ShapedOpen Tryz.prog) : ∃ (l : List Int) (hl : l.length = 20), @GlobOk (tabI l hl).toGlob Tryz.prog (ghOf W) := by
  obtain ⟨cs, hh, hs, hr⟩ := h.1 0 _ _ (of_decide_eq_true (by kernel_rfl)) tab_zero
  obtain ⟨ts, hts, _, hall⟩ := hr (by kernel_rfl)
  rw [tab_cells] at hts
  obtain rfl := Option.some.inj hts
  have hs20 : cs.size = 20 := by rw [hs]; simp
  have hk : ∀ j, j < 20 → ∃ m, cs.getD j undef = .int .u64 m := by
    intro j hj
    have hj' : j < cs.size := by omega
    obtain ⟨u, hu, hok⟩ := hall j cs[j] (by simp [hj'])
    have hu' : u = 144 := by
      have hm : j % (List.replicate 20 144).length < 20 := by simp; omega
      rw [List.getElem?_replicate, if_pos hm] at hu
      exact (Option.some.inj hu).symm
    subst hu'
    rw [Array.getD_eq_getD_getElem?, Array.getElem?_eq_getElem hj', Option.getD_some]
    unfold Cell.ok at hok
    rw [Tryz.underlying144] at hok
    cases hv : cs[j] <;> rw [hv] at hok <;> simp at hok
    case int k' n => exact ⟨n, by rw [hok.1]⟩
  obtain ⟨l, hl, hlj⟩ : ∃ l : List Int, l.length = 20 ∧ ∀ j, j < 20 → l[j]? = some (vInt (cs.getD j undef)) :=
    ⟨(List.range 20).map fun j => vInt (cs.getD j undef), by simp, fun j h => by simp [h]⟩
  refine ⟨l, hl, ?_⟩
  intro i c hi
  have hi' : (if i = 0 then some (l.map (PV.int .u64)) else none) = some c := hi
  split at hi'
  · rename_i hi0
    subst hi0
    injection hi' with hi'
    subst hi'
    have hp : ∀ l : List Int, PV.pureL (l.map (PV.int .u64)) = true := by
      intro l
      induction l with
      | nil => rfl
      | cons x l ih => simp only [List.map_cons, PV.pureL, PV.pure, Bool.true_and]; exact ih
    refine .vptr _ _ _ cs _ (0, 0) hh (by simp [hl, hs20]) (hp l) fun j hj => ?_
    have hj20 : j < 20 := by simpa [hl] using hj
    obtain ⟨m, hm⟩ := hk j hj20
    rw [Nat.zero_add, hm, List.getElem_map]
    have h1 := hlj j hj20
    rw [hm, List.getElem?_eq_getElem (by omega)] at h1
    rw [Option.some.inj h1]
    exact .int _ _
  · cases hi'
end Go.Proofs.YtmicbfojofcigaaGreat
namespace Go.Proofs.YtmicbfojofcigaaGreat
open Go Sg Go.ChangeShapes Go.WideShapes Go.ChangeAt Go.RowKit
set_option linter.unusedVariables false
set_option linter.unusedSectionVars false
theorem lawDepth2_ok [Tab] (a : List Nat) (ha : ∀ x ∈ a, x < 256) (ha2 : a.length ≤ 9223372036854775807) : PureF Tryz.prog 4 [.rows 5 (u8s a)] [.bool true] := lawDepth_ok a ha
set_option maxRecDepth 100000 in
theorem fnCodeDepth_lifted (os : Os) (started : os.Started) (H : Type) (enc : TypeId × Value → H) :
    ReturnsInHanded {} Tryz.checked os 4 .any (Rows.fnCodeDepthSpec.pre6 enc Tryz.prog Tryz.f4 Rows.fnCodeDepthRow.domain false) (Rows.fnCodeDepthSpec.post enc Tryz.prog Tryz.f4 false true false false) := by
  refine returnsInHanded_of_change_shaped (C := Tryz.checked) Tryz.own started (by kernel_rfl) Tryz.func4
    (ChangeSpec.witness6 (enc := enc) (C := Tryz.checked) false ⟨#[], #[.slice none 0 0], []⟩ 8 (by kernel_rfl) (by kernel_rfl) (by kernel_rfl) (by kernel_rfl)) ?_
  intro W base args ds gs before hval0 hW hcnd _ hsh _
  have hval : ∀ (j : Nat) t v, Tryz.f4.params[j]? = some t → args[j]? = some v → Value.okWide Tryz.prog W .any base t v := hval0
  have hW' := hW
  obtain ⟨p, q, hA0, hV, rfl, hfz, hnd⟩ := hW
  have hA : DataW.TrodAll enc Tryz.prog W 0 (fun _ => true) true Tryz.f4.params.toList args.toList ds p := hA0
  rw [Tryz.params4] at hA hval
  obtain ⟨v0, vs0, d0, ds0, p0, q0, hargs, rfl, rfl, h0, r0⟩ := trodAll_cons hA
  obtain ⟨rfl, rfl, rfl⟩ := trodAll_nil r0
  obtain rfl : args = #[v0] := by cases args; simp_all
  obtain ⟨rfl, rfl⟩ := trodVars_none hV
  clear hA0 hval0
  simp only [List.append_nil] at hW'
  have hlt : ∀ x ∈ (p0 ++ []), x.block < W.heap.size := fun x hx => by simpa using hW'.lt x (by simpa using hx)
  obtain ⟨l0, hb0, hl0, hr0⟩ := open_bytesA Tryz.underlying22 Tryz.underlying5 (cellsOf5) (hval 0 22 v0 rfl rfl) h0
  obtain ⟨pw, hpw, hgl⟩ := tab_of_shaped hsh
  letI : Tab := tabI pw hpw
  refine (top_calls (W := W) (args := [.rows 5 (u8s l0)]) hgl ⟨rfl, fun j hj => ?_⟩ (lawDepth2_ok l0 hb0 hl0)).mono fun e W' ⟨he, hb⟩ => ?_
  · match j, hj with
    | 0, _ => exact hr0
  subst he
  exact ⟨_, rfl, _, _, _, [], (p0 ++ []), [], hW', trodAll_cons_mk (shut_bool Tryz.underlying4 _) trodAll_mk0, (trodAll_cons_mk (WideElems.Trod_stays Tryz.laidOut (by kernel_rfl) (of_decide_eq_true (by kernel_rfl)) h0 (fun x hx => hb.same (hlt x (by simp [hx]))) (fun x hx => by simpa using hlt x (by simp [hx]))) trodAll_mk0), rfl, hb.frame _, fun h => by cases h⟩
theorem fnCodeDepth_holds : Rows.FnCodeDepthSaid :=
  OpenClaim.holds_of_wide 4 Tryz.f4 rfl rfl rfl rfl rfl rfl rfl ⟨rfl, rfl, rfl, rfl, rfl⟩ rfl rfl rfl rfl rfl (by kernel_rfl) Tryz.func4 (by kernel_rfl)
    (of_decide_eq_true (by kernel_rfl)) (by unfold Func.isWrapper; first | (rw [if_pos (by decide +kernel)]; kernel_rfl) | (rw [if_neg (by decide +kernel)]; exact ⟨rfl, rfl⟩))
    (fun os started H enc _ => fnCodeDepth_lifted os started H enc)
end Go.Proofs.YtmicbfojofcigaaGreat
