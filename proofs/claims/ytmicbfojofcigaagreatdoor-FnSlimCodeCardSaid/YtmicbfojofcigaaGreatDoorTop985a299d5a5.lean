/- What is proved: FnSlimCodeCard: for every input the law returns true, and its arguments read as before. Conditions: none but the statement's own. -/
import Derived.Test.YtmicbfojofcigaaGreatDoorXe7ff9e884d
import Derived.ProofKit
import Derived.OpenShut
import Derived.Test.YtmicbfojofcigaaGreatDoorRows
import Derived.ChangeVars
import Derived.RowKitTokens
import Derived.LaidLaws
import Derived.WalkSmall
import Derived.Test.YtmicbfojofcigaaGreatDoorTie
import Derived.Test.YtmicbfojofcigaaGreatDoorCards
set_option linter.unusedSectionVars false
set_option linter.unusedSimpArgs false
set_option linter.unusedVariables false
namespace Sg
open Go Go.ChangeShapes Go.WideShapes Go.ChangeAt Go.RowKit
set_option linter.unusedSectionVars false
variable [Glob]
def ghOf (W : World) : Gh := { io := fun _ => none, H := fun b => W.heap[b]? }
theorem top_calls {P : Program} {f : FuncId} {W : World} {vals : Array Value} {args : List PV} (hg : GlobOk P (ghOf W)) (hv : RL P (ghOf W) args vals) (hc : PureF P f args [.bool true]) :
    Calls P f vals W (fun e W' => e = .returned (.bool true) ∧ Below W.heap.size W W') := by
  rw [← callsIn_wide, ← Fe_none]
  have hi : Inv P (ghOf W) { f := fun _ => none, fr := fun _ => True } W :=
    ⟨fun _ _ h => h, fun i o h => (by cases h), fun i j o o' e e' h => (by cases h), fun i o e h => (by cases h), fun _ _ => rfl, hg⟩
  refine (hc _ [] ⟨0, fun _ _ => trivial⟩ (fun i o h => by simp [lk] at h) rfl List.nodup_nil (fun n hn => by simp at hn) (ghOf W) W vals hv hi).mono ?_
  rintro e w' ⟨g', out, k1, k2, k3, k4, rfl, k6⟩
  refine ⟨?_, ⟨k2.os, k2.tape, k2.output, k2.size, fun k hk => ?_⟩⟩
  · cases e with
    | returned v => cases k6; rfl
    | panicked ch => exact k6.elim
    | outgrown => exact k6.elim
  · have h1 : W.heap[k]? = some W.heap[k] := by rw [Array.getElem?_eq_getElem hk]
    rw [h1]
    exact k3.hH k _ (k1.H k _ h1)
def bytesA (l : List Nat) : List (List PV) := l.map fun (x : Nat) => [.int .u8 (x : Int)]
section
variable {H : Type} {enc : TypeId × Value → H} {P : Program}
omit [Glob] in
theorem open_bytesA {t e : TypeId} (ht : P.underlying t = some (.slice e)) (he : P.underlying e = some (.int .u8)) (hc : P.cellsOf e = 1) {W : World} {base : Nat} {v : Value} {d : DataW H} {ps : List MemPlace}
    (hval : Value.okWide P W .any base t v) (h : DataW.Trod enc P W 0 (fun _ => true) true t v d ps) :
    ∃ l : List Nat, (∀ x ∈ l, x < 256) ∧ l.length ≤ 9223372036854775807 ∧ R P (ghOf W) (.rows e (bytesA l)) v := by
  obtain ⟨a1, len, cap, rfl⟩ := okWide_slice ht hval
  obtain ⟨fuel, hf⟩ := h
  rcases open_ints ht he hc hf with ⟨hcs, hx⟩ | ⟨a, len', cap', zs, hcs, _, hl, hm, hz, hx, hcell, hwz⟩
  · simp [Value.cells] at hcs
    obtain ⟨rfl, rfl, rfl⟩ := hcs
    exact ⟨[], by simp, by simp, .rows0 e none 0⟩
  · simp [Value.cells] at hcs
    obtain ⟨rfl, rfl, rfl⟩ := hcs
    simp only [if_true] at hz
    have hml : cap ≤ 9223372036854775807 := hm
    refine ⟨(zs.take len).map Int.toNat, ?_, by simp; omega, ?_⟩
    · intro x hx
      simp only [List.mem_map] at hx
      obtain ⟨n, hn, rfl⟩ := hx
      have := hwz n (List.mem_of_mem_take hn)
      have : 0 ≤ n ∧ n ≤ 255 := by simpa [Lit.wf, IntKind.min, IntKind.max, IntKind.signed, IntKind.bits] using this
      omega
    · by_cases h0 : len = 0
      · subst h0; exact .rows0 e (some a) cap
      obtain ⟨ab, ao, spot⟩ := a
      have hspot : spot = none := by simpa [Addr.add] using World.cell?_spot (hcell 0 (by omega))
      subst hspot
      have hc0 := hcell 0 (by omega)
      rw [Addr.add_lit] at hc0
      obtain ⟨arr, T, fr, hW⟩ : ∃ arr T fr, W.heap[ab]? = some (.cells arr T fr) := by
        unfold World.cell? at hc0
        simp only at hc0
        split at hc0
        · exact ⟨_, _, _, by assumption⟩
        · cases hc0
      have hcell' : ∀ i, i < zs.length → arr[ao + i]? = some (.int .u8 (zs.getD i 0)) := by
        intro i hi
        have := hcell i hi
        rw [Addr.add_lit] at this
        unfold World.cell? at this
        simp only [hW] at this
        simpa using this
      have hlen : (bytesA ((zs.take len).map Int.toNat)).length = len := by simp [bytesA]; omega
      have hsz : ao + len ≤ arr.size := by
        have := hcell' (len - 1) (by omega)
        have := (Array.getElem?_eq_some_iff.1 this).1
        omega
      have key := R.rows (P := P) (g := ghOf W) e (bytesA ((zs.take len).map Int.toNat)) ab ao cap arr T fr hW (by omega) (by omega) (by rw [hlen, hc]; omega)
        (fun c hc' => by simp only [bytesA, List.mem_map] at hc'; obtain ⟨x, _, rfl⟩ := hc'; rw [hc]; rfl)
        (fun c hc' => by simp only [bytesA, List.mem_map] at hc'; obtain ⟨x, _, rfl⟩ := hc'; rfl)
        (fun c hc' x hx => by simp only [bytesA, List.mem_map] at hc'; obtain ⟨y, _, rfl⟩ := hc'; simp at hx; subst hx; rfl)
        (fun i j hi hj => by
          have hi' : i < len := by omega
          have e1 : (bytesA ((zs.take len).map Int.toNat))[i] = [.int .u8 (((zs.getD i 0).toNat : Nat) : Int)] := by
            simp [bytesA, List.getD, List.getElem?_eq_getElem (show i < zs.length by omega)]
          have hj0 : j = 0 := by
            have : (bytesA ((zs.take len).map Int.toNat))[i].length = 1 := by rw [e1]; rfl
            omega
          subst hj0
          have hz0 : 0 ≤ zs.getD i 0 := by
            have hmem : zs.getD i 0 ∈ zs := by rw [List.getD_eq_getElem?_getD, List.getElem?_eq_getElem (by omega)]; exact List.getElem_mem _
            have := hwz _ hmem
            have : 0 ≤ zs.getD i 0 ∧ zs.getD i 0 ≤ 255 := by simpa [Lit.wf, IntKind.min, IntKind.max, IntKind.signed, IntKind.bits] using this
            exact this.1
          have e2 : arr.getD (ao + i * P.cellsOf e + 0) undef = .int .u8 (zs.getD i 0) := by
            rw [hc, Nat.mul_one, Nat.add_zero, Array.getD_eq_getD_getElem?, hcell' i (by omega)]; rfl
          rw [e2]
          have e3 : (bytesA ((zs.take len).map Int.toNat))[i][0] = .int .u8 (zs.getD i 0) := by
            simp only [e1, List.getElem_cons_zero]
            rw [Int.toNat_of_nonneg hz0]
          rw [e3]
          exact .int _ _)
      rwa [hlen] at key
end
end Sg
namespace Go.Proofs.YtmicbfojofcigaaGreatDoor
open Go Sg Go.ChangeShapes Go.WideShapes Go.ChangeAt Go.RowKit
set_option linter.unusedVariables false
set_option maxRecDepth 100000
theorem Tryz.own : ownKnob Tryz.prog.godebug = none := by kernel_rfl
theorem Tryz.laidOut : laidOutB Tryz.prog = true := by kernel_rfl
def errNm : String := "loop.example/stopgate/impl.errLong"
def laidE : List (String × DataW Unit) := [(errNm, .iface "*errors.errorString" (.ptr (.agg [.lit (.string [116, 97, 107, 101, 115, 32, 116, 111, 111, 32, 108, 111, 110, 103])])))]
theorem Tryz.gErr : Tryz.prog.globalNamed errNm = some 0 := by kernel_rfl
theorem Tryz.gErrT : (Tryz.prog.globals[0]?).map (·.type) = some 70 := by kernel_rfl
theorem errStar : "*" ++ "errors.errorString" = "*errors.errorString" := by decide
theorem Tryz.rowErr (u : TypeId) (h : Tryz.prog.typeName? 3 u = some "*errors.errorString") : u = 212 :=
  typeName_ptr_named (nm := "errors.errorString") (by rw [errStar]; kernel_rfl) (by kernel_rfl) (by decide) u (by rw [errStar]; exact h)
theorem Tryz.cellsEs : Tryz.prog.cellsOf 239 = 1 := by kernel_rfl
theorem Tryz.cellsStr : Tryz.prog.cellsOf 9 = 1 := by kernel_rfl
theorem err_of_laid {W : World} (h : laidMet Tryz.prog laidE W) : ∃ a : Addr, a.spot = none ∧ W.var? Tryz.prog errNm = some #[.iface 212 (.pointer (some a))] := by
  obtain ⟨ps, ⟨g0, t0, cs0, f0, p0, q0, hg0, ht0, hv0, hd0, hq0, e0⟩, hnd, hrows⟩ := h
  obtain rfl := Option.some.inj (Tryz.gErr.symm.trans hg0)
  obtain rfl := Option.some.inj (Tryz.gErrT.symm.trans ht0)
  have hq0' : q0 = [] := hq0
  subst hq0'
  subst e0
  obtain ⟨l0⟩ := cs0
  have ok0 : ∀ u v, l0 = [.iface u v] → Value.okWide Tryz.prog W .any 0 u v := fun u v e => by
    subst e
    exact (hrows 0 0 (by simp [MemPlace.row])).2 u v (by simpa using World.var?_cell hg0 hv0 0)
  obtain ⟨a0, s0, rfl, hc0, hs0, hz0, rfl⟩ := errorString_of_trod Tryz.underlying70 Tryz.rowErr Tryz.underlying212 Tryz.underlying239 rfl rfl Tryz.underlying9 Tryz.cellsEs Tryz.cellsStr hd0 ok0
  exact ⟨a0, World.cell?_spot hc0, hv0⟩
noncomputable def lowE : Nat := (World.holding Tryz.prog default ⟨#[], #[], []⟩).heap.size
noncomputable def laidWorldE (os : Os) : World :=
  let w0 := World.holding Tryz.prog os ⟨#[.cells #[.string { data := #[116, 97, 107, 101, 115, 32, 116, 111, 111, 32, 108, 111, 110, 103] }] 239], #[], []⟩
  { w0 with heap := w0.heap.modify 0 fun
      | .cells _ t frozen => .cells #[.iface 212 (.pointer (some ⟨lowE, 0, none⟩))] t frozen
      | o => o }
theorem laidWorldE_met (os : Os) (args : Array Value) : laidMet Tryz.prog laidE ((laidWorldE os).forCall (fun _ _ => 0) ⟨#[], args, []⟩).memory :=
  laidMet_of_run (ps := [.cell 0 0, .cell lowE 0]) 8 (by kernel_rfl) (by kernel_rfl) (by kernel_rfl)
theorem varsE {H : Type} (enc : TypeId × Value → H) {W : World} {x : Value} (h0 : W.var? Tryz.prog errNm = some #[x]) (i0 : IsIface x) (sp : Nat → Bool) :
    DataW.TrodVars enc Tryz.prog W sp [errNm] [tok enc x] [.cell 0 0] :=
  ⟨0, 70, #[x], 1, [], [], Tryz.gErr, Tryz.gErrT, h0, trod_held Tryz.underlying70 i0 0, rfl, rfl⟩
abbrev errI (b o : Nat) : ErrL := { tab := fun i => if i = 0 then some [.iface 212 (.kptr b o)] else none, eb := b, eo := o, tab0 := by simp }
theorem errI_ok {W : World} {b o : Nat} (h : W.var? Tryz.prog errNm = some #[.iface 212 (.pointer (some ⟨b, o, none⟩))]) : @GlobOk (errI b o).toGlob Tryz.prog (ghOf W) := by
  intro i cs hi
  have hi' : (if i = 0 then some [PV.iface 212 (.kptr b o)] else none) = some cs := hi
  split at hi'
  · rename_i hi0
    subst hi0
    injection hi' with hi'
    subst hi'
    unfold World.var? at h
    rw [Tryz.gErr] at h
    simp only [Option.bind_some] at h
    split at h
    · rename_i c t fr hb
      injection h with h
      subst h
      refine .vptr _ _ _ _ t fr hb (by simp) rfl fun j hj => ?_
      obtain rfl : j = 0 := by simpa using hj
      exact .iface _ _ _ (.kptr b o)
    · cases h
  · cases hi'
end Go.Proofs.YtmicbfojofcigaaGreatDoor
namespace Go.Proofs.YtmicbfojofcigaaGreatDoor
open Go Sg Go.ChangeShapes Go.WideShapes Go.ChangeAt Go.RowKit
set_option linter.unusedVariables false
set_option maxRecDepth 100000 in
theorem fnSlimCode_lifted (os : Os) (started : os.Started) (H : Type) (enc : TypeId × Value → H) :
    ReturnsInHanded {} Tryz.checked os 8 .any (fun w args => (Rows.fnSlimCodeSpec.pre enc Tryz.prog Tryz.f8 Rows.fnSlimCodeRow.domain false w args ∧ laidMet Tryz.prog laidE w) ∧ sizedMet enc Tryz.prog Tryz.f8 (OpenSpec.ofChange Rows.fnSlimCodeSpec) false w args) (Rows.fnSlimCodeSpec.post enc Tryz.prog Tryz.f8 false true false false) := by
  refine returnsInHanded_of_change_and (C := Tryz.checked) (X := fun w _ => laidMet Tryz.prog laidE w) (fun _ _ _ hh h => h.of_heap hh) Tryz.own started (by kernel_rfl) Tryz.func8
    (ChangeSpec.witness_at (enc := enc) (C := Tryz.checked) (os := os) (X := fun w _ => laidMet Tryz.prog laidE w) false (laidWorldE os) #[.slice none 0 0, .slice none 0 0] 8 rfl (by kernel_rfl) (by kernel_rfl) (by kernel_rfl) (by kernel_rfl) (by kernel_rfl) (laidWorldE_met os _)) ?_
  intro W base args ds gs before hval0 hW hcnd _ hL _
  have hval : ∀ (j : Nat) t v, Tryz.f8.params[j]? = some t → args[j]? = some v → Value.okWide Tryz.prog W .any base t v := hval0
  have hW' := hW
  obtain ⟨p, q, hA0, hV0, rfl, hfz, hnd⟩ := hW
  have hA : DataW.TrodAll enc Tryz.prog W 0 (fun _ => true) true Tryz.f8.params.toList args.toList ds p := hA0
  have hV : DataW.TrodVars enc Tryz.prog W (fun _ => true) [errNm] gs q := hV0
  rw [Tryz.params8] at hA hval
  obtain ⟨v0, vs0, d0, ds0, p0, q0, hargs, rfl, rfl, h0, r0⟩ := trodAll_cons hA
  obtain ⟨v1, vs1, d1, ds1, p1, q1, hargs1, rfl, rfl, h1, r1⟩ := trodAll_cons r0
  obtain ⟨rfl, rfl, rfl⟩ := trodAll_nil r1
  obtain rfl : args = #[v0, v1] := by cases args; simp_all
  obtain ⟨⟨ab, ao, asp⟩, hsp, hv0⟩ := err_of_laid hL
  obtain rfl : asp = none := hsp
  obtain ⟨rfl, rfl⟩ := hV.unique (varsE enc hv0 trivial _)
  clear hA0 hV0 hval0
  have hlt : ∀ x ∈ (p0 ++ (p1 ++ [])), x.block < W.heap.size := fun x hx => by simpa using hW'.lt x (by simp at hx ⊢; rcases hx with h | h <;> simp [h])
  have hg0 : 0 < W.heap.size := hW'.lt (.cell 0 0) (by simp)
  obtain ⟨l0, hb0, hl0, hr0⟩ := open_bytesA Tryz.underlying22 Tryz.underlying5 (cellsOf5) (hval 0 22 v0 rfl rfl) h0
  obtain ⟨l1, hb1, hl1, hr1⟩ := open_bytesA Tryz.underlying22 Tryz.underlying5 (cellsOf5) (hval 1 22 v1 rfl rfl) h1
  letI : ErrL := errI ab ao
  refine (top_calls (W := W) (args := [.rows 5 (u8s l0), .rows 5 (u8s l1)]) (errI_ok hv0) ⟨rfl, fun j hj => ?_⟩ (lawSCode_ok l0 l1 hb0 hb1)).mono fun e W' ⟨he, hb⟩ => ?_
  · match j, hj with
    | 0, _ => exact hr0
    | 1, _ => exact hr1
  subst he
  exact ⟨_, rfl, _, _, _, [], (p0 ++ (p1 ++ [])), [.cell 0 0], hW', trodAll_cons_mk (shut_bool Tryz.underlying4 _) trodAll_mk0, (trodAll_cons_mk (WideElems.Trod_stays Tryz.laidOut (by kernel_rfl) (of_decide_eq_true (by kernel_rfl)) h0 (fun x hx => hb.same (hlt x (by simp [hx]))) (fun x hx => by simpa using hlt x (by simp [hx]))) (trodAll_cons_mk (WideElems.Trod_stays Tryz.laidOut (by kernel_rfl) (of_decide_eq_true (by kernel_rfl)) h1 (fun x hx => hb.same (hlt x (by simp [hx]))) (fun x hx => by simpa using hlt x (by simp [hx]))) trodAll_mk0)), varsE enc (var?_below hb Tryz.gErr hg0 hv0) trivial _, hb.frame _, fun h => by cases h⟩
theorem fnSlimCode_holds : Rows.FnSlimCodeSaid :=
  OpenClaim.holds_of_wide 8 Tryz.f8 rfl rfl rfl rfl rfl rfl rfl ⟨rfl, rfl, rfl, rfl, rfl⟩ rfl rfl rfl rfl rfl (by kernel_rfl) Tryz.func8 (by kernel_rfl)
    (of_decide_eq_true (by kernel_rfl)) (by unfold Func.isWrapper; first | (rw [if_pos (by decide +kernel)]; kernel_rfl) | (rw [if_neg (by decide +kernel)]; exact ⟨rfl, rfl⟩))
    (fun os started H enc _ => fnSlimCode_lifted os started H enc)
set_option maxRecDepth 100000 in
theorem fnSlimCode_card_holds : Rows.FnSlimCodeCardSaid :=
  Claim7.holds_tied_plain_at .later [] [.sentinel] true (true, "163ba3968a21385348175ea5ae3357d98486feee1fac6d5f12d17bc8097e6927") true
    fnSlimCode_holds (fun _ h => by cases h) (by kernel_rfl) (fun _ h => by cases h) fnSlimCode_row_tie rfl ⟨rfl, rfl⟩ (by kernel_rfl) rfl
    (fun f fn hf hfn => by
      obtain rfl : f = 8 := Option.some.inj ((show Tryz.prog.funcNamed "loop.example/stopgate/laws.FnSlimCode" = some 8 by kernel_rfl).symm.trans hf) |>.symm
      obtain rfl : fn = Tryz.f8 := (Option.some.inj (Tryz.func8.symm.trans hfn)).symm
      exact ⟨by kernel_rfl, fun j t ht => by
        rw [Tryz.params8] at ht
        have h3 : t = 22 := by
          rcases j with _ | _ | j
          · simpa using ht.symm
          · simpa using ht.symm
          · simp at ht
        subst h3
        exact (show Tryz.prog.wantsStandIn 22 = false by kernel_rfl)⟩)
    (by kernel_rfl)
end Go.Proofs.YtmicbfojofcigaaGreatDoor
