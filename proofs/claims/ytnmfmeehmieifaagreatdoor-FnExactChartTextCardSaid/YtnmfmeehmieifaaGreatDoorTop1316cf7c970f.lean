/- What is proved: FnExactChartTextCard: for every input the law returns true, and its arguments read as before. Conditions: none but the statement's own. -/
import Derived.Test.YtnmfmeehmieifaaGreatDoorX6b3c498244
import Derived.ProofKit
import Derived.OpenShut
import Derived.ChangeArms
import Derived.Test.YtnmfmeehmieifaaGreatDoorRows
import Derived.ChangeVars
import Derived.RowKitTokens
import Derived.LaidLaws
import Derived.WalkSmall
import Derived.Deep.DeepLaidRun
import Derived.Lib.LaidTab
import Derived.WideShapes
import Derived.Test.YtnmfmeehmieifaaGreatDoorTie
import Derived.Test.YtnmfmeehmieifaaGreatDoorCards
set_option linter.unusedSectionVars false
set_option linter.unusedSimpArgs false
set_option linter.unusedVariables false
namespace Sg
open Go Go.ChangeShapes Go.WideShapes Go.ChangeAt Go.RowKit
set_option linter.unusedSectionVars false
variable [Glob]
def ghOf (W : World) : Gh := { io := fun _ => none, H := fun b => W.heap[b]? }
theorem top_calls {P : Program} {f : FuncId} {W : World} {vals : Array Value} {args : List PV} (hg : GlobOk P (ghOf W)) (hv : RL P (ghOf W) args vals) (hc : PureF P f args [.bool true]) :
    Calls P f vals W (fun e W' => e = .returned (.bool true) ∧ Below W.heap.size W W') := by
  rw [← callsIn_wide, ← Fe_none]
  have hi : Inv P (ghOf W) { f := fun _ => none, fr := fun _ => True } W :=
    ⟨fun _ _ h => h, fun i o h => (by cases h), fun i j o o' e e' h => (by cases h), fun i o e h => (by cases h), fun _ _ => rfl, hg⟩
  refine (hc _ [] ⟨0, fun _ _ => trivial⟩ (fun i o h => by simp [lk] at h) rfl List.nodup_nil (fun n hn => by simp at hn) (ghOf W) W vals hv hi).mono ?_
  rintro e w' ⟨g', out, k1, k2, k3, k4, rfl, k6⟩
  refine ⟨?_, ⟨k2.os, k2.tape, k2.output, k2.size, fun k hk => ?_⟩⟩
  · cases e with
    | returned v => cases k6; rfl
    | panicked ch => exact k6.elim
    | outgrown => exact k6.elim
  · have h1 : W.heap[k]? = some W.heap[k] := by rw [Array.getElem?_eq_getElem hk]
    rw [h1]
    exact k3.hH k _ (k1.H k _ h1)
section
variable {H : Type} {enc : TypeId × Value → H} {P : Program}
end
end Sg
namespace Sg
open Go Go.ChangeShapes Go.WideShapes Go.ChangeAt Go.RowKit
set_option linter.unusedSectionVars false
section
variable {H : Type} {enc : TypeId × Value → H} {P : Program}
theorem list_of {X : Type} [Inhabited X] {p : Nat → X → Prop} : ∀ n, (∀ i, i < n → ∃ y, p i y) → ∃ l : List X, l.length = n ∧ ∀ i, i < n → p i (l.getD i default)
  | 0, _ => ⟨[], rfl, fun i h => by omega⟩
  | n + 1, h => by
    obtain ⟨l, hl, hp⟩ := list_of n fun i hi => h i (by omega)
    obtain ⟨y, hy⟩ := h n (by omega)
    refine ⟨l ++ [y], by simp [hl], fun i hi => ?_⟩
    by_cases hin : i < n
    · have := hp i hin
      simpa [List.getD, List.getElem?_append_left (show i < l.length by omega)] using this
    · have : i = n := by omega
      subst this
      simpa [List.getD, ← hl] using hy
theorem cells_of {W : World} {ab ao n base : Nat} {spot : Option Nat} {cs : List Value} (h : W.cells? base ⟨ab, ao, spot⟩ n = some cs) (hn : 0 < n) : spot = none ∧ ∃ arr T fr, W.heap[ab]? = some (.cells arr T fr) ∧ cs.length = n ∧ ∀ j, j < n → arr[ao + j]? = cs[j]? := by
  unfold World.cells? at h
  split at h
  · have hl : cs.length = n := by simpa using mapM_some_length h
    have hg : ∀ j, j < n → W.cell? ((⟨ab, ao, spot⟩ : Addr).add j) = cs[j]? := fun j hj => mapM_some_get h j j (by simp [hj])
    have h0 := hg 0 hn
    rw [List.getElem?_eq_getElem (by omega)] at h0
    have hs : spot = none := by simpa [Addr.add] using World.cell?_spot h0
    subst hs
    refine ⟨rfl, ?_⟩
    rw [Addr.add_lit] at h0
    obtain ⟨arr, T, fr, hW⟩ : ∃ arr T fr, W.heap[ab]? = some (.cells arr T fr) := by
      unfold World.cell? at h0
      simp only at h0
      split at h0
      · exact ⟨_, _, _, by assumption⟩
      · cases h0
    refine ⟨arr, T, fr, hW, hl, fun j hj => ?_⟩
    have := hg j hj
    rw [Addr.add_lit] at this
    unfold World.cell? at this
    simpa [hW] using this
  · cases h
variable [Glob]
def Lies (P : Program) (W : World) (ps : List PV) (cs : List Value) : Prop := ps.length = cs.length ∧ ∀ j (hj : j < ps.length), R P (ghOf W) ps[j] (cs.getD j undef)
theorem open_slice {W : World} {base : Nat} {spare : Nat → Bool} {held : Bool} {t e : TypeId} (ht : P.underlying t = some (.slice e)) (hes : 0 < P.cellsOf e) {X : Type} [Inhabited X] (csX : X → List PV) (G : X → Prop) {fuel : Nat}
    (hl : ∀ x, (csX x).length = P.cellsOf e) (hp : ∀ x, PV.pureL (csX x) = true) (hc : ∀ x, ∀ y ∈ csX x, y.cell = true)
    (hX : ∀ n cs x, n < fuel → DataW.trod enc P W base spare held n e cs = some x → ∃ y, G y ∧ Lies P W (csX y) cs)
    {cs : List Value} {x : DataW H × List MemPlace} (h : DataW.trod enc P W base spare held fuel t cs = some x) : ∃ l : List X, (∀ i, i < l.length → G (l.getD i default)) ∧ l.length ≤ maxLen ∧ Lies P W [.rows e (l.map csX)] cs := by
  rcases DataW.trod_slice ht h with ⟨rfl, _⟩ | ⟨a, len, cap, elems, rest, n, hf, rfl, _, hb, hlc, hcm, hel, hE, _, _⟩
  · exact ⟨[], fun i h => by simp at h, by simp, rfl, fun j hj => by
      have : j = 0 := by simpa using hj
      subst this; exact .rows0 e none 0⟩
  · obtain ⟨ab, ao, spot⟩ := a
    by_cases h0 : len = 0
    · subst h0
      exact ⟨[], fun i h => by simp at h, by simp, rfl, fun j hj => by
        have : j = 0 := by simpa using hj
        subst this; exact .rows0 e _ cap⟩
    have key : ∀ i, i < len → ∃ y cs', W.cells? base ((⟨ab, ao, spot⟩ : Addr).add (i * P.cellsOf e)) (P.cellsOf e) = some cs' ∧ G y ∧ Lies P W (csX y) cs' := by
      intro i hi
      have := hE i hi
      rw [List.getElem?_eq_getElem (by omega), Option.bind_eq_some_iff] at this
      obtain ⟨cs', h1, h2⟩ := this
      obtain ⟨y, hg, hr⟩ := hX n cs' _ (by omega) h2
      exact ⟨y, cs', h1, hg, hr⟩
    obtain ⟨l, hll, hlp⟩ := list_of (p := fun i y => ∃ cs', W.cells? base ((⟨ab, ao, spot⟩ : Addr).add (i * P.cellsOf e)) (P.cellsOf e) = some cs' ∧ G y ∧ Lies P W (csX y) cs') len key
    obtain ⟨cs0, hc0, _, _⟩ := hlp 0 (by omega)
    have hs : spot = none := by
      have : (⟨ab, ao, spot⟩ : Addr).add (0 * P.cellsOf e) = ⟨ab, ao, spot⟩ := by simp [Addr.add]
      rw [this] at hc0
      exact (cells_of hc0 hes).1
    subst hs
    have hcell : ∀ i, i < len → ∃ arr T fr cs', W.heap[ab]? = some (.cells arr T fr) ∧ (∀ j, j < P.cellsOf e → arr[ao + i * P.cellsOf e + j]? = cs'[j]?) ∧ cs'.length = P.cellsOf e ∧ Lies P W (csX (l.getD i default)) cs' := by
      intro i hi
      obtain ⟨cs', h1, _, h2⟩ := hlp i hi
      have : (⟨ab, ao, none⟩ : Addr).add (i * P.cellsOf e) = ⟨ab, ao + i * P.cellsOf e, none⟩ := by rw [Addr.add_lit]
      rw [this] at h1
      obtain ⟨_, arr, T, fr, g1, g2, g3⟩ := cells_of h1 hes
      exact ⟨arr, T, fr, cs', g1, g3, g2, h2⟩
    obtain ⟨arr, T, fr, _, hW, _, _, _⟩ := hcell 0 (by omega)
    have hcell' : ∀ i, i < len → ∃ cs' : List Value, (∀ j, j < P.cellsOf e → arr[ao + i * P.cellsOf e + j]? = cs'[j]?) ∧ cs'.length = P.cellsOf e ∧ Lies P W (csX (l.getD i default)) cs' := by
      intro i hi
      obtain ⟨arr', T', fr', cs', g1, g2, g3, g4⟩ := hcell i hi
      rw [hW] at g1
      injection g1 with g1
      injection g1 with g1 _ _
      subst g1
      exact ⟨cs', g2, g3, g4⟩
    have hsz : ao + len * P.cellsOf e ≤ arr.size := by
      obtain ⟨cs', g1, g2, _⟩ := hcell' (len - 1) (by omega)
      have := g1 (P.cellsOf e - 1) (by omega)
      rw [List.getElem?_eq_getElem (by omega)] at this
      have := (Array.getElem?_eq_some_iff.1 this).1
      have e1 : (len - 1) * P.cellsOf e + P.cellsOf e = len * P.cellsOf e := by
        rw [← Nat.succ_mul]; congr 1; omega
      omega
    refine ⟨l, fun i hi => (hlp i (by omega)).choose_spec.2.1, by omega, rfl, fun j hj => ?_⟩
    have : j = 0 := by simpa using hj
    subst this
    have key := R.rows (P := P) (g := ghOf W) e (l.map csX) ab ao cap arr T fr hW hes (by rw [List.length_map]; omega) (by rw [List.length_map, hll]; exact hsz)
      (fun c hc' => by obtain ⟨y, _, rfl⟩ := List.mem_map.1 hc'; exact hl y)
      (fun c hc' => by obtain ⟨y, _, rfl⟩ := List.mem_map.1 hc'; exact hp y)
      (fun c hc' => by obtain ⟨y, _, rfl⟩ := List.mem_map.1 hc'; exact hc y)
      (fun i j hi hj => by
        have hi' : i < len := by rw [List.length_map] at hi; omega
        obtain ⟨cs', g1, g2, g3⟩ := hcell' i hi'
        have e0 : (l.map csX)[i] = csX (l.getD i default) := by simp [List.getD, show i < l.length by omega]
        have hj' : j < (csX (l.getD i default)).length := by rw [← e0]; exact hj
        have := g3.2 j hj'
        have e1 : (l.map csX)[i][j] = (csX (l.getD i default))[j] := by simp only [e0]
        rw [e1]
        have e2 : arr.getD (ao + i * P.cellsOf e + j) undef = cs'.getD j undef := by
          rw [Array.getD_eq_getD_getElem?, g1 j (by rw [← hl (l.getD i default)]; exact hj'), List.getD_eq_getElem?_getD]
        rw [e2]; exact this)
    rw [List.length_map, hll] at key
    exact key
theorem open_int {W : World} {base : Nat} {spare : Nat → Bool} {held : Bool} {t : TypeId} {k : IntKind} (ht : P.underlying t = some (.int k)) {fuel : Nat} {cs : List Value} {x : DataW H × List MemPlace} (h : DataW.trod enc P W base spare held fuel t cs = some x) :
    ∃ n, cs = [.int k n] ∧ (Lit.int k n).wf = true := by
  obtain ⟨n, h1, _, h2⟩ := DataW.trod_int ht h
  exact ⟨n, h1, h2⟩
end
end Sg
namespace Go.Proofs.YtnmfmeehmieifaaGreatDoor
open Go Sg
set_option maxRecDepth 100000
set_option linter.unusedSimpArgs false
set_option linter.unusedVariables false
set_option linter.unusedSectionVars false
set_option maxHeartbeats 4000000
variable [Glob]
mutual
def Ex.lcs : Ex → List PV
  | .mk k n a l => [.int .i64 k, .int .i64 n, .int .i64 a.kind, .int .i64 a.at', .rows 58 (Ex.lcsL l)]
def Ex.lcsL : List Ex → List (List PV)
  | [] => []
  | e :: l => e.lcs :: Ex.lcsL l
end
@[go_sem] theorem Ex.lcs_eq (e : Ex) : e.lcs = [.int .i64 e.kind, .int .i64 e.n, .int .i64 e.a.kind, .int .i64 e.a.at', .rows 58 (Ex.lcsL e.kids)] := by cases e; simp only [Ex.lcs, Ex.kind, Ex.n, Ex.a, Ex.kids]
theorem Ex.lcsL_map (l : List Ex) : Ex.lcsL l = l.map Ex.lcs := by
  induction l with
  | nil => rfl
  | cons e l ih => simp [Ex.lcsL, ih]
@[go_sem] theorem Ex.lcsL_len (l : List Ex) : (Ex.lcsL l).length = l.length := by simp [Ex.lcsL_map]
@[go_sem] theorem Ex.lcsL_get (l : List Ex) (k : Nat) (h : k < l.length) : (Ex.lcsL l).getD k [] = (l.getD k default).lcs := by simp [Ex.lcsL_map, List.getD, h]
def Trn.lcs (t : Trn) : List PV := [.rows 3 (rowsI t.fr), .rows 3 (rowsI t.to'), .int .i64 t.w.kind, .int .i64 t.w.n, .int .i64 t.w.a.kind, .int .i64 t.w.a.at', .rows 58 (Ex.lcsL t.w.kids)]
@[go_sem] theorem Trn.lcs_eq (t : Trn) : t.lcs = [.rows 3 (rowsI t.fr), .rows 3 (rowsI t.to'), .int .i64 t.w.kind, .int .i64 t.w.n, .int .i64 t.w.a.kind, .int .i64 t.w.a.at', .rows 58 (Ex.lcsL t.w.kids)] := rfl
def rowsLT (l : List Trn) : List (List PV) := l.map Trn.lcs
@[go_sem] theorem rowsLT_len (l : List Trn) : (rowsLT l).length = l.length := by simp [rowsLT]
@[go_sem] theorem rowsLT_getD (l : List Trn) (k : Nat) (h : k < l.length) : (rowsLT l).getD k [] = (l.getD k default).lcs := by simp [rowsLT, List.getD, h]
def Cht.lcs (c : Cht) : List PV := [.int .i64 c.steps, .rows 131 (rowsLT c.ts), .rows 139 (rowsA c.as')]
@[go_sem] theorem Cht.lcs_eq (c : Cht) : c.lcs = [.int .i64 c.steps, .rows 131 (rowsLT c.ts), .rows 139 (rowsA c.as')] := rfl
mutual
def Ex.Len : Ex → Prop | .mk _ _ _ l => l.length ≤ maxLen ∧ Ex.LenL l
def Ex.LenL : List Ex → Prop
  | [] => True
  | e :: l => e.Len ∧ Ex.LenL l
end
theorem Ex.LenL_iff (l : List Ex) : Ex.LenL l ↔ ∀ e ∈ l, e.Len := by
  induction l with
  | nil => simp [Ex.LenL]
  | cons e l ih => simp [Ex.LenL, ih]
section
variable {H : Type} {enc : TypeId × Value → H} {W : World} {base : Nat} {spare : Nat → Bool} {held : Bool}
theorem open_ad {fuel : Nat} {cs : List Value} {x : DataW H × List MemPlace} (h : DataW.trod enc Tryz.prog W base spare held fuel 55 cs = some x) : ∃ a : AD, cs = [.int .i64 a.kind, .int .i64 a.at'] := by
  obtain ⟨xs, n, hf, hx, hl, hxs, hfs⟩ := DataW.trod_struct Tryz.underlying55 h
  rw [cellsOf55] at hl
  match cs, hl with
  | [c0, c1], _ =>
    have h0 := hfs 0 _ rfl
    have h1 := hfs 1 _ rfl
    have l0 : (0 : Nat) < xs.length := by rw [hxs]; decide
    have l1 : (1 : Nat) < xs.length := by rw [hxs]; decide
    rw [List.getElem?_eq_getElem l0] at h0
    rw [List.getElem?_eq_getElem l1] at h1
    obtain ⟨a, ha, _⟩ := open_int Tryz.underlying3 h0
    obtain ⟨b, hb, _⟩ := open_int Tryz.underlying3 h1
    simp [cellsOf3] at ha hb
    exact ⟨⟨a, b⟩, by rw [ha, hb]⟩
theorem lcs_pure (e : Ex) : PV.pureL e.lcs = true := by rw [Ex.lcs_eq]; rfl
theorem lcs_cell (e : Ex) : ∀ y ∈ e.lcs, y.cell = true := by
  rw [Ex.lcs_eq]
  intro y hy
  simp only [List.mem_cons, List.not_mem_nil, or_false] at hy
  rcases hy with rfl | rfl | rfl | rfl | rfl <;> rfl
theorem open_ex : ∀ (fuel : Nat) (cs : List Value) (x : DataW H × List MemPlace), DataW.trod enc Tryz.prog W base spare held fuel 58 cs = some x → ∃ e : Ex, e.Len ∧ Lies Tryz.prog W e.lcs cs := by
  intro fuel
  induction fuel using Nat.strongRecOn with
  | _ fuel ih =>
    intro cs x h
    obtain ⟨xs, n, hf, hx, hl, hxs, hfs⟩ := DataW.trod_struct Tryz.underlying58 h
    rw [cellsOf58] at hl
    match cs, hl with
    | [c0, c1, c2, c3, c4], _ =>
      have h0 := hfs 0 _ rfl
      have h1 := hfs 1 _ rfl
      have h2 := hfs 2 _ rfl
      have h3 := hfs 3 _ rfl
      have l0 : (0 : Nat) < xs.length := by rw [hxs]; decide
      have l1 : (1 : Nat) < xs.length := by rw [hxs]; decide
      have l2 : (2 : Nat) < xs.length := by rw [hxs]; decide
      have l3 : (3 : Nat) < xs.length := by rw [hxs]; decide
      rw [List.getElem?_eq_getElem l0] at h0
      rw [List.getElem?_eq_getElem l1] at h1
      rw [List.getElem?_eq_getElem l2] at h2
      rw [List.getElem?_eq_getElem l3] at h3
      obtain ⟨k, hk, _⟩ := open_int Tryz.underlying3 h0
      obtain ⟨m, hm, _⟩ := open_int Tryz.underlying3 h1
      obtain ⟨a, ha⟩ := open_ad h2
      obtain ⟨l, hl1, hl2, hl3⟩ := open_slice Tryz.underlying56 (by rw [cellsOf58]; decide) Ex.lcs Ex.Len (fun e => by rw [cellsOf58, Ex.lcs_eq]; rfl) lcs_pure lcs_cell (fun j cs' x' hj h' => ih j (by omega) cs' x' h') h3
      simp [cellsOf3] at hk hm
      simp [cellsOf55] at ha
      simp [cellsOf56] at hl3
      obtain ⟨hl4, hl5⟩ := hl3
      refine ⟨.mk k m a l, ⟨hl2, (Ex.LenL_iff l).2 fun e he => ?_⟩, rfl, fun j hj => ?_⟩
      · obtain ⟨i, hi, rfl⟩ := List.getElem_of_mem he
        have := hl1 i hi
        simpa [List.getD, hi] using this
      · have hr := hl5 0 (by simp)
        match j, hj with
        | 0, _ => simp only [Ex.lcs, List.getElem_cons_zero]; rw [hk]; exact .int _ _
        | 1, _ => simp only [Ex.lcs]; rw [hm]; exact .int _ _
        | 2, _ => simp only [Ex.lcs]; rw [ha.1]; exact .int _ _
        | 3, _ => simp only [Ex.lcs]; rw [ha.2]; exact .int _ _
        | 4, _ => simp only [Ex.lcs, Ex.lcsL_map]; exact hr
end
end Go.Proofs.YtnmfmeehmieifaaGreatDoor
namespace Go.Proofs.YtnmfmeehmieifaaGreatDoor
open Go Sg
set_option maxRecDepth 100000
set_option linter.unusedSimpArgs false
set_option linter.unusedVariables false
set_option linter.unusedSectionVars false
set_option maxHeartbeats 4000000
variable [Glob]
section
variable {X : Type} [Inhabited X] (csX : X → List PV) (z : List PV)
def fillC (l : List X) (i : Nat) : List PV := ((l.take i).map csX).flatten ++ rep (l.length - i) z
theorem flat_len {w : Nat} (hw : ∀ x, (csX x).length = w) (l : List X) : ((l.map csX).flatten).length = l.length * w := by
  induction l with
  | nil => simp
  | cons x l ih => simp only [List.map_cons, List.flatten_cons, List.length_append, ih, hw, List.length_cons, Nat.succ_mul]; omega
theorem fillC_len {w : Nat} (hw : ∀ x, (csX x).length = w) (hz : z.length = w) (l : List X) (i : Nat) (h : i ≤ l.length) : (fillC csX z l i).length = l.length * w := by
  rw [fillC, List.length_append, flat_len csX hw, rep_length, hz, List.length_take, ← Nat.add_mul]
  congr 1; omega
theorem fillC_zero (l : List X) : fillC csX z l 0 = rep l.length z := by simp [fillC]
theorem fillC_all (l : List X) : fillC csX z l l.length = (l.map csX).flatten := by
  rw [fillC, List.take_of_length_le (Nat.le_refl _), Nat.sub_self, rep, List.replicate_zero, List.flatten_nil, List.append_nil]
theorem fillC_set {w : Nat} (hw : ∀ x, (csX x).length = w) (hz : z.length = w) (l : List X) (i : Nat) (h : i < l.length) : splice (fillC csX z l i) (i * w) (csX (l.getD i default)) = fillC csX z l (i + 1) := by
  have h1 : (((l.take i).map csX).flatten).length = i * w := by rw [flat_len csX hw, List.length_take, Nat.min_eq_left (by omega)]
  have h2 : rep (l.length - i) z = z ++ rep (l.length - (i + 1)) z := by
    rw [show l.length - i = l.length - (i + 1) + 1 from by omega, rep, List.replicate_succ, List.flatten_cons]; rfl
  rw [fillC, fillC, splice, h2, hw, List.take_succ_eq_append_getElem h, List.map_append, List.flatten_append]
  rw [List.take_append_of_le_length (by omega), List.take_of_length_le (by omega), List.drop_append, List.drop_of_length_le (by omega), h1, Nat.add_sub_cancel_left, ← hz, List.drop_left, List.nil_append]
  simp [List.getD, h]
theorem rowsOf_map {e : TypeId} (he : 0 < Tryz.prog.cellsOf e) (hw : ∀ x, (csX x).length = Tryz.prog.cellsOf e) (hp : ∀ x, PV.pureL (csX x) = true) {f : Nat → Option AObj} {id : Nat} {T : TypeId} {l : List X} (h : f id = some (.cells T ((l.map csX).flatten))) : RowsOf Tryz.prog f e id 0 l.length (l.map csX) := by
  refine ⟨he, by simp, ?_, T, _, h, ?_, ?_⟩
  · intro c hc
    obtain ⟨x, _, rfl⟩ := List.mem_map.1 hc
    exact ⟨hw x, hp x⟩
  · rw [flat_len csX hw]; omega
  · rw [List.drop_zero, List.take_of_length_le (by rw [flat_len csX hw]; omega)]
end
theorem frzF {r : Option Nat} {N : Nat} {c : Code} {s : MS} {Q : ExitA → MS → Prop} {X : Type} [Inhabited X] (csX : X → List PV) (e : TypeId) (he : 0 < Tryz.prog.cellsOf e) (hw : ∀ x, (csX x).length = Tryz.prog.cellsOf e) (hp : ∀ x, PV.pureL (csX x) = true) (x : Nat) (l : List X) (hx : s.B ≤ x) (T : TypeId) (h1 : s.f x = some (.cells T ((l.map csX).flatten)))
    (h : wpM Tryz.prog r N c (s.frz [x] [(e, x, 0, l.length, l.map csX)]) Q) : wpM Tryz.prog r N c s Q := by
  refine wpM_frz [x] _ (by intro q hq; simp at hq; subst hq; assumption) (by
      intro q hq
      simp only [List.mem_cons, List.not_mem_nil, or_false] at hq
      subst hq
      exact ⟨by simp, rowsOf_map csX he hw hp h1⟩) h
end Go.Proofs.YtnmfmeehmieifaaGreatDoor
namespace Go.Proofs.YtnmfmeehmieifaaGreatDoor
open Go Sg
set_option maxRecDepth 100000
set_option linter.unusedSimpArgs false
set_option linter.unusedVariables false
set_option linter.unusedSectionVars false
set_option maxHeartbeats 4000000
variable [Glob]
abbrev iC (n : Int) : List PV := [.int .i64 n]
theorem iC_zero (l : List Int) : ints (List.replicate l.length 0) = fillC iC [.int .i64 0] l 0 := by rw [fillC_zero, rep_ints]
theorem iC_set (l : List Int) (i : Nat) (h : i < l.length) : splice (fillC iC [.int .i64 0] l i) i [.int .i64 (l.getD i 0)] = fillC iC [.int .i64 0] l (i + 1) := by
  have := fillC_set iC [.int .i64 0] (w := 1) (fun _ => rfl) rfl l i h
  rw [Nat.mul_one] at this
  exact this
theorem toInt_ok (l : List Int) (hl : l.length ≤ 1048576) : PureF Tryz.prog 27 [.rows 3 (rowsI l)] [.rows 3 (rowsI l)] := by
  refine pureF_of Tryz.func27 rfl Tryz.ntmps27 (by simp) T_ ?_
  intro f0 B Q hQ
  refine g_ [0] ?_
  refine g_ [0,3] ?_
  rw [iC_zero]
  refine g_ [0,3,4] ?_
  refine n_ ?_
  refine wpM_loopS (fun s n s' => ∃ (i0 M0 : Nat) , i0 + n = l.length ∧ s.M ≤ M0 ∧ (Tr i0) ∧ s' = { s with env := setE 4 (.int .i64 (i0 : Nat)) s.env, l := [(B, .cells 3 (fillC iC [.int .i64 0] l i0))], M := M0 }) (l.length) ?_ ?_
  ·
    refine .of' _ _ ⟨0, _, by omega, Nat.le_refl _, trivial, rfl⟩ ?_ ?_ ?_ <;> exact L_
  rintro n0 s' ⟨i0, M0, hi0, hM0, hv0, rfl⟩
  try dsimp only at hM0
  try refine S_ ?_
  refine g_ [0,3,4,11] ?_
  refine c_ (fun hc0 => ?_) fun hc0 => ?_
  ·
    have hl0 : i0 < l.length := by omega
    have hfl := fillC_len iC [.int .i64 0] (w := 1) (fun _ => rfl) rfl l i0 (by omega)
    have hfs := iC_set l i0 hl0
    refine n_ ?_
    refine wpM_regionK [0,3,4] rfl fun Q1 hQ1 => ?_
    simp -implicitDefEqProofs (disch := omega) only [go_sem, hfl, hfs]
    refine hQ1 _ _ (S_ ?_);clear hQ1 Q1
    refine g_ [0,3,4] ?_
    refine .of' _ _ ⟨n0 - 1, by omega, i0 + 1, _, by omega, M_, ?_, rfl⟩ L_ L_ L_
    first | trivial | omega
  refine n_ ?_
  have hie : i0 = l.length := by omega
  rw [hie, fillC_all]
  refine frzF iC 3 (by rw [cellsOf3]; decide) (fun _ => by rw [cellsOf3]; rfl) (fun _ => rfl) B l T_ 3 T_ ?_
  refine S_ ?_
  refine g_ [2] ?_
  refine e_ Tryz.results27 ?_
  first
  | exact True.intro
  | rfl
theorem toAddr_ok (a : AD) : PureF Tryz.prog 65 [.agg [.int .i64 a.kind, .int .i64 a.at']] [.agg [.int .i64 a.kind, .int .i64 a.at']] := by
  refine pureF_of Tryz.func65 rfl Tryz.ntmps65 (by simp) T_ ?_
  intro f0 B Q hQ
  refine g_ [1,2] ?_
  refine g_ [1,2,3] ?_
  refine g_ [1,2,3] ?_
  refine g_ [2,3] ?_
  refine g_ [2] ?_
  exact e_ Tryz.results65 True.intro
theorem toAct_ok (a : GAct) : PureF Tryz.prog 82 [.agg a.cs] [.agg a.cs] := by
  refine pureF_of Tryz.func82 rfl Tryz.ntmps82 (by simp) T_ ?_
  intro f0 B Q hQ
  refine g_ [1,2] ?_
  refine g_ [1,2,3] ?_
  refine g_ [1,2,3] ?_
  refine g_ [1,2,3] ?_
  refine n_ ?_
  refine wpM_regionK [2,3] rfl fun Q1 hQ1 => ?_
  refine S_ ?_
  refine cp_ (toAddr_ok a.to') Tryz.call65 ?_
  refine hQ1 _ _ (S_ ?_);clear hQ1 Q1
  refine g_ [2] ?_
  exact e_ Tryz.results82 True.intro
abbrev aZ : List PV := [.int .i64 0, .int .i64 0, .int .i64 0, .int .i64 0]
theorem toActS_ok (l : List GAct) (hl : l.length ≤ 1048576) : PureF Tryz.prog 47 [.rows 139 (rowsA l)] [.rows 94 (rowsA l)] := by
  refine pureF_of Tryz.func47 rfl Tryz.ntmps47 (by simp) T_ ?_
  intro f0 B Q hQ
  refine g_ [0] ?_
  refine g_ [0,3] ?_
  rw [← fillC_zero GAct.cs aZ l]
  refine g_ [0,3,4] ?_
  refine n_ ?_
  refine wpM_loopS (fun s n s' => ∃ (i0 M0 : Nat) , i0 + n = l.length ∧ s.M ≤ M0 ∧ (Tr i0) ∧ s' = { s with env := setE 4 (.int .i64 (i0 : Nat)) s.env, l := [(B, .cells 94 (fillC GAct.cs aZ l i0))], M := M0 }) (l.length) ?_ ?_
  ·
    refine .of' _ _ ⟨0, _, by omega, Nat.le_refl _, trivial, rfl⟩ ?_ ?_ ?_ <;> exact L_
  rintro n0 s' ⟨i0, M0, hi0, hM0, hv0, rfl⟩
  try dsimp only at hM0
  try refine S_ ?_
  refine g_ [0,3,4,11] ?_
  refine c_ (fun hc0 => ?_) fun hc0 => ?_
  ·
    have hl0 : i0 < l.length := by omega
    have hfl := fillC_len GAct.cs aZ (w := 4) (fun _ => rfl) rfl l i0 (by omega)
    have hfs := fillC_set GAct.cs aZ (w := 4) (fun _ => rfl) rfl l i0 hl0
    rw [GAct.cs_eq] at hfs
    refine n_ ?_
    refine wpM_regionK [0,3,4] rfl fun Q1 hQ1 => ?_
    simp -implicitDefEqProofs (disch := omega) only [go_sem, hfl, hfs]
    refine call_p (toAct_ok (l.getD i0 default)) Tryz.call82 rfl rfl rfl (by first | rfl | (simp -implicitDefEqProofs (disch := omega) only [go_sem] <;> rfl)) ?_
    simp -implicitDefEqProofs (disch := omega) only [go_sem, hfl, hfs]
    refine hQ1 _ _ (S_ ?_);clear hQ1 Q1
    refine g_ [0,3,4] ?_
    refine .of' _ _ ⟨n0 - 1, by omega, i0 + 1, _, by omega, M_, ?_, rfl⟩ L_ L_ L_
    first | trivial | omega
  refine n_ ?_
  have hie : i0 = l.length := by omega
  rw [hie, fillC_all]
  refine frzF GAct.cs 94 (by rw [cellsOf94]; decide) (fun _ => by rw [cellsOf94]; rfl) (fun _ => rfl) B l T_ 94 T_ ?_
  refine S_ ?_
  refine g_ [2] ?_
  refine e_ Tryz.results47 ?_
  first
  | exact True.intro
  | rfl
def ToX (l : List Ex) : Prop := PureF Tryz.prog 101 [.rows 58 (Ex.lcsL l)] [.rows 68 (Ex.csL l)]
theorem toExpr_ok' (e : Ex) (ih : ToX e.kids) : PureF Tryz.prog 66 [.agg e.lcs] [.agg e.cs] := by
  refine pureF_of Tryz.func66 rfl Tryz.ntmps66 (by simp) T_ ?_
  intro f0 B Q hQ
  refine g_ [1,2] ?_
  refine g_ [1,2,3] ?_
  refine g_ [1,2,3] ?_
  refine g_ [1,2,3] ?_
  refine n_ ?_
  refine wpM_regionK [1,2,3] rfl fun Q1 hQ1 => ?_
  refine S_ ?_
  refine cp_ (toAddr_ok e.a) Tryz.call65 ?_
  refine hQ1 _ _ (S_ ?_);clear hQ1 Q1
  refine n_ ?_
  refine wpM_regionK [2,3] rfl fun Q1 hQ1 => ?_
  refine S_ ?_
  refine cp_ (ih) Tryz.call101 ?_
  refine hQ1 _ _ (S_ ?_);clear hQ1 Q1
  refine g_ [2] ?_
  exact e_ Tryz.results66 True.intro
abbrev xZ : List PV := [.int .i64 0, .int .i64 0, .int .i64 0, .int .i64 0, .emp]
theorem cs_len (e : Ex) : e.cs.length = 5 := by rw [Ex.cs_eq]; rfl
theorem cs_pureL (e : Ex) : PV.pureL e.cs = true := by rw [Ex.cs_eq]; rfl
theorem toExprS_ok : ∀ (N : Nat) (l : List Ex), Ex.szL l ≤ N → Ex.szL l ≤ 1048576 → ToX l := by
  intro N
  induction N using Nat.strongRecOn with
  | _ N ih =>
    intro l hN hs
    have hll := Ex.len_szL l
    refine pureF_of Tryz.func101 rfl Tryz.ntmps101 (by simp) T_ ?_
    intro f0 B Q hQ
    refine g_ [0] ?_
    refine g_ [0,3] ?_
    rw [← fillC_zero Ex.cs xZ l]
    refine g_ [0,3,4] ?_
    refine n_ ?_
    refine wpM_loopS (fun s n s' => ∃ (i0 M0 : Nat) , i0 + n = l.length ∧ s.M ≤ M0 ∧ (Tr i0) ∧ s' = { s with env := setE 4 (.int .i64 (i0 : Nat)) s.env, l := [(B, .cells 68 (fillC Ex.cs xZ l i0))], M := M0 }) (l.length) ?_ ?_
    ·
      refine .of' _ _ ⟨0, _, by omega, Nat.le_refl _, trivial, rfl⟩ ?_ ?_ ?_ <;> exact L_
    rintro n0 s' ⟨i0, M0, hi0, hM0, hv0, rfl⟩
    try dsimp only at hM0
    try refine S_ ?_
    refine g_ [0,3,4,11] ?_
    refine c_ (fun hc0 => ?_) fun hc0 => ?_
    ·
      have hl0 : i0 < l.length := by omega
      have hfl := fillC_len Ex.cs xZ (w := 5) cs_len rfl l i0 (by omega)
      have hfs := fillC_set Ex.cs xZ (w := 5) cs_len rfl l i0 hl0
      rw [Ex.cs_eq] at hfs
      have hg := Ex.get_szL l i0 hl0
      rw [Ex.sz_eq] at hg
      refine n_ ?_
      refine wpM_regionK [0,3,4] rfl fun Q1 hQ1 => ?_
      simp -implicitDefEqProofs (disch := omega) only [go_sem, hfl, hfs]
      refine call_p (toExpr_ok' (l.getD i0 default) (ih (Ex.szL (l.getD i0 default).kids) (by omega) _ (Nat.le_refl _) (by omega))) Tryz.call66 rfl rfl rfl (by first | rfl | (simp -implicitDefEqProofs (disch := omega) only [go_sem] <;> rfl)) ?_
      simp -implicitDefEqProofs (disch := omega) only [go_sem, hfl, hfs]
      refine hQ1 _ _ (S_ ?_);clear hQ1 Q1
      refine g_ [0,3,4] ?_
      refine .of' _ _ ⟨n0 - 1, by omega, i0 + 1, _, by omega, M_, ?_, rfl⟩ L_ L_ L_
      first | trivial | omega
    refine n_ ?_
    have hie : i0 = l.length := by omega
    rw [hie, fillC_all]
    refine frzF Ex.cs 68 (by rw [cellsOf68]; decide) (fun e => by rw [cellsOf68]; exact cs_len e) cs_pureL B l T_ 68 T_ ?_
    rw [← Ex.csL_map]
    refine S_ ?_
    refine g_ [2] ?_
    refine e_ Tryz.results101 ?_
    first
    | exact True.intro
    | rfl
theorem toExpr_ok (e : Ex) (h : Ex.szL e.kids ≤ 1048576) : PureF Tryz.prog 66 [.agg e.lcs] [.agg e.cs] := toExpr_ok' e (toExprS_ok _ _ (Nat.le_refl _) h)
end Go.Proofs.YtnmfmeehmieifaaGreatDoor
namespace Go.Proofs.YtnmfmeehmieifaaGreatDoor
open Go Sg
set_option maxRecDepth 100000
set_option linter.unusedSimpArgs false
set_option linter.unusedVariables false
set_option linter.unusedSectionVars false
set_option maxHeartbeats 4000000
variable [Glob]
theorem eqIntS_ok (a b : List Int) (ha : a.length ≤ 1099511627776) : PureF Tryz.prog 33 [.rows 3 (rowsI a), .rows 3 (rowsI b)] [.bool (same a b)] := by
  rw [← eqI_same]
  refine pureF_of Tryz.func33 rfl Tryz.ntmps33 (by simp) T_ ?_
  intro f0 B Q hQ
  refine g_ [0,1] ?_
  refine g_ [0,1,10] ?_
  refine c_ (fun hc0 => ?_) fun hc0 => ?_
  ·
    refine g_ [4] ?_
    refine e_ Tryz.results33 ?_
    first
    | exact True.intro
    | unfold eqI
      first
      | rw [if_pos hc0]
      | (rw [if_neg (by rw [hc0]; simp), range_no hl0 (by simp only [hc2]; rfl)])
      | (have : i0 = a.length := by omega
         rw [if_neg (by rw [hc0]; simp), ← this, hv0])
  refine g_ [0,1,5] ?_
  refine n_ ?_
  refine wpM_loopS (fun s n s' => ∃ (i0 M0 : Nat) , i0 + n = a.length ∧ s.M ≤ M0 ∧ ((List.range i0).all (fun i => !(a.getD i 0 != b.getD i 0)) = true) ∧ s' = { s with env := setE 5 (.int .i64 (i0 : Nat)) s.env, M := M0 }) (a.length) ?_ ?_
  ·
    refine .of' _ _ ⟨0, _, by omega, Nat.le_refl _, by simp, rfl⟩ ?_ ?_ ?_ <;> exact L_
  rintro n0 s' ⟨i0, M0, hi0, hM0, hv0, rfl⟩
  try dsimp only at hM0
  try refine S_ ?_
  refine g_ [0,1,5,14] ?_
  refine c_ (fun hc1 => ?_) fun hc1 => ?_
  ·
    have hl0 : i0 < a.length := by omega
    have hlb : i0 < b.length := by simp at hc0; omega
    refine n_ ?_
    refine dr_ mixed [0,1,5,25] 0 0 [] [⟨[0],[],[],[],false⟩,⟨[5],[],[],[],false⟩,⟨[17,18],[],[],[],false⟩,⟨[19],[],[],[],false⟩,⟨[1],[],[],[],false⟩,⟨[5],[],[],[],false⟩,⟨[21,22],[],[],[],false⟩,⟨[23],[],[],[],false⟩,⟨[20,24],[],[],[],false⟩] [0,1,2,3,4,5,6,7,8] [[],[],[0,1],[0,1,2],[],[],[4,5],[4,5,6],[0,1,2,3,4,5,6,7]] 0 ?_
    intro O A K hO hA hK;simp only [atL_cons,atL_nil,Nat.reduceAdd,Nat.zero_add] at hO hA
    refine SO_ ?_
    refine hK _ (S_ ?_);clear hK K hO hA O A
    refine c_ (fun hc2 => ?_) fun hc2 => ?_
    ·
      refine g_ [4] ?_
      refine e_ Tryz.results33 ?_
      first
      | exact True.intro
      | unfold eqI
        first
        | rw [if_pos hc0]
        | (rw [if_neg (by rw [hc0]; simp), range_no hl0 (by simp only [hc2]; rfl)])
        | (have : i0 = a.length := by omega
           rw [if_neg (by rw [hc0]; simp), ← this, hv0])
    refine g_ [0,1,5] ?_
    refine .of' _ _ ⟨n0 - 1, by omega, i0 + 1, _, by omega, M_, ?_, rfl⟩ L_ L_ L_
    rw [range_all, hv0]
    simp only [hc2]; rfl
  refine g_ [4] ?_
  refine e_ Tryz.results33 ?_
  first
  | exact True.intro
  | unfold eqI
    first
    | rw [if_pos hc0]
    | (rw [if_neg (by rw [hc0]; simp), range_no hl0 (by simp only [hc2]; rfl)])
    | (have : i0 = a.length := by omega
       rw [if_neg (by rw [hc0]; simp), ← this, hv0])
theorem eqAddr_ok (a b : AD) : PureF Tryz.prog 74 [.agg [.int .i64 a.kind, .int .i64 a.at'], .agg [.int .i64 b.kind, .int .i64 b.at']] [.bool (a.kind == b.kind && a.at' == b.at')] := by
  refine pureF_of Tryz.func74 rfl Tryz.ntmps74 (by simp) T_ ?_
  intro f0 B Q hQ
  refine g_ [2,3] ?_
  refine g_ [2,3,9] ?_
  refine c_ (fun hc0 => ?_) fun hc0 => ?_
  ·
    refine g_ [4] ?_
    refine e_ Tryz.results74 ?_
    first
    | exact True.intro
    | simp_all
  refine g_ [14] ?_
  refine c_ (fun hc1 => ?_) fun hc1 => ?_
  ·
    refine g_ [4] ?_
    refine e_ Tryz.results74 ?_
    first
    | exact True.intro
    | simp_all
  refine g_ [4] ?_
  refine e_ Tryz.results74 ?_
  first
  | exact True.intro
  | simp_all
def EqX (a b : List Ex) : Prop := PureF Tryz.prog 106 [.rows 68 (Ex.csL a), .rows 68 (Ex.csL b)] [.bool (same a b)]
theorem same_ex' (a b : Ex) : (a.kind == b.kind && a.n == b.n && (a.a.kind == b.a.kind && a.a.at' == b.a.at') && same a.kids b.kids) = same a b := by
  rw [← same_ex]
  congr 1
  exact (len_same _ _).symm
theorem eqExpr_ok' (a b : Ex) (ih : EqX a.kids b.kids) : PureF Tryz.prog 75 [.agg a.cs, .agg b.cs] [.bool (same a b)] := by
  refine pureF_of Tryz.func75 rfl Tryz.ntmps75 (by simp) T_ ?_
  intro f0 B Q hQ
  refine g_ [2,3] ?_
  refine g_ [2,3,9] ?_
  refine c_ (fun hc0 => ?_) fun hc0 => ?_
  ·
    refine g_ [4] ?_
    refine e_ Tryz.results75 ?_
    first
    | exact True.intro
    | rw [← same_ex']
      first | (simp_all; done) | (simp_all; intro h1 h2; rcases hc2 with h | h <;> contradiction)
  refine g_ [2,3,14] ?_
  refine c_ (fun hc1 => ?_) fun hc1 => ?_
  ·
    refine g_ [4] ?_
    refine e_ Tryz.results75 ?_
    first
    | exact True.intro
    | rw [← same_ex']
      first | (simp_all; done) | (simp_all; intro h1 h2; rcases hc2 with h | h <;> contradiction)
  refine n_ ?_
  refine wpM_regionK [2,3,20] rfl fun Q1 hQ1 => ?_
  refine S_ ?_
  refine cp_ (eqAddr_ok a.a b.a) Tryz.call74 ?_
  refine hQ1 _ _ (S_ ?_);clear hQ1 Q1
  refine c_ (fun hc2 => ?_) fun hc2 => ?_
  ·
    refine g_ [4] ?_
    refine e_ Tryz.results75 ?_
    first
    | exact True.intro
    | rw [← same_ex']
      first | (simp_all; done) | (simp_all; intro h1 h2; rcases hc2 with h | h <;> contradiction)
  refine n_ ?_
  refine wpM_regionK [26] rfl fun Q1 hQ1 => ?_
  refine S_ ?_
  refine cp_ (ih) Tryz.call106 ?_
  refine hQ1 _ _ (S_ ?_);clear hQ1 Q1
  refine c_ (fun hc3 => ?_) fun hc3 => ?_
  ·
    refine g_ [4] ?_
    refine e_ Tryz.results75 ?_
    first
    | exact True.intro
    | rw [← same_ex']
      first | (simp_all; done) | (simp_all; intro h1 h2; rcases hc2 with h | h <;> contradiction)
  refine g_ [4] ?_
  refine e_ Tryz.results75 ?_
  first
  | exact True.intro
  | rw [← same_ex']
    first | (simp_all; done) | (simp_all; intro h1 h2; rcases hc2 with h | h <;> contradiction)
theorem eqExprS_ok : ∀ (N : Nat) (a b : List Ex), Ex.szL a ≤ N → Ex.szL a ≤ 1099511627776 → EqX a b := by
  intro N
  induction N using Nat.strongRecOn with
  | _ N ih =>
    intro a b hN hs
    have hll := Ex.len_szL a
    refine pureF_of Tryz.func106 rfl Tryz.ntmps106 (by simp) T_ ?_
    intro f0 B Q hQ
    refine g_ [0,1] ?_
    refine g_ [0,1,10] ?_
    refine c_ (fun hc0 => ?_) fun hc0 => ?_
    ·
      refine g_ [4] ?_
      refine e_ Tryz.results106 ?_
      first
      | exact True.intro
      | simp at hc0
        exact (same_no (fun h => by rw [h] at hc0; exact hc0 rfl)).symm
    have hab : a.length = b.length := by simp at hc0; omega
    refine g_ [0,1,5] ?_
    refine n_ ?_
    refine wpM_loopS (fun s n s' => ∃ (i0 M0 : Nat) , i0 + n = a.length ∧ s.M ≤ M0 ∧ ((List.range i0).all (fun i => same (a.getD i default) (b.getD i default)) = true) ∧ s' = { s with env := setE 5 (.int .i64 (i0 : Nat)) s.env, M := M0 }) (a.length) ?_ ?_
    ·
      refine .of' _ _ ⟨0, _, by omega, Nat.le_refl _, by simp, rfl⟩ ?_ ?_ ?_ <;> exact L_
    rintro n0 s' ⟨i0, M0, hi0, hM0, hv0, rfl⟩
    try dsimp only at hM0
    try refine S_ ?_
    refine g_ [0,1,5,14] ?_
    refine c_ (fun hc1 => ?_) fun hc1 => ?_
    ·
      have hl0 : i0 < a.length := by omega
      have hg := Ex.get_szL a i0 hl0
      rw [Ex.sz_eq] at hg
      refine n_ ?_
      refine dr_ mixed [0,1,5,26] 0 0 [] [⟨[0],[],[],[],false⟩,⟨[5],[],[],[],false⟩,⟨[17,18],[],[],[],false⟩,⟨[19],[],[],[],false⟩,⟨[1],[],[],[],false⟩,⟨[5],[],[],[],false⟩,⟨[21,22],[],[],[],false⟩,⟨[23],[],[],[],false⟩,⟨[20,24],[],[],[],true⟩,⟨[25],[],[],[],false⟩] [0,1,2,3,4,5,6,7,8,9] [[],[],[0,1],[0,1,2],[],[],[4,5],[4,5,6],[0,1,2,3,4,5,6,7],[0,1,2,3,4,5,6,7,8]] 0 ?_
      intro O A K hO hA hK;simp only [atL_cons,atL_nil,Nat.reduceAdd,Nat.zero_add] at hO hA
      refine SO_ ?_
      refine lp_ (eqExpr_ok' (a.getD i0 default) (b.getD i0 default) (ih (Ex.szL (a.getD i0 default).kids) (by omega) _ _ (Nat.le_refl _) (by omega))) Tryz.call75 ?_
      refine hK _ (S_ ?_);clear hK K hO hA O A
      refine c_ (fun hc2 => ?_) fun hc2 => ?_
      ·
        refine g_ [4] ?_
        refine e_ Tryz.results106 ?_
        first
        | exact True.intro
        | have h2 : (!same (a.getD i0 default) (b.getD i0 default)) = true := hc2
          rw [← range_ext hab same (fun i _ => rfl), range_no hl0 (by simpa using h2)]
      refine g_ [0,1,5] ?_
      refine .of' _ _ ⟨n0 - 1, by omega, i0 + 1, _, by omega, M_, ?_, rfl⟩ L_ L_ L_
      have h2 : (!same (a.getD i0 default) (b.getD i0 default)) = false := hc2
      rw [range_all, hv0]; simpa using h2
    refine g_ [4] ?_
    refine e_ Tryz.results106 ?_
    first
    | exact True.intro
    | have : i0 = a.length := by omega
      rw [← range_ext hab same (fun i _ => rfl), ← this, hv0]
theorem eqExpr_ok (a b : Ex) (h : a.sz ≤ 1099511627776) : PureF Tryz.prog 75 [.agg a.cs, .agg b.cs] [.bool (same a b)] := eqExpr_ok' a b (eqExprS_ok _ _ _ (Nat.le_refl _) (by rw [Ex.sz_eq] at h; omega))
end Go.Proofs.YtnmfmeehmieifaaGreatDoor
namespace Go.Proofs.YtnmfmeehmieifaaGreatDoor
open Go Sg
set_option maxRecDepth 100000
set_option linter.unusedSimpArgs false
set_option linter.unusedVariables false
set_option linter.unusedSectionVars false
set_option maxHeartbeats 4000000
variable [Glob]
theorem eqTrans_ok (a b : Trn) (ha : a.Sm) : PureF Tryz.prog 94 [.agg a.cs, .agg b.cs] [.bool (same a b)] := by
  refine pureF_of Tryz.func94 rfl Tryz.ntmps94 (by simp) T_ ?_
  intro f0 B Q hQ
  refine g_ [2,3] ?_
  refine n_ ?_
  refine wpM_regionK [2,3,10] rfl fun Q1 hQ1 => ?_
  refine S_ ?_
  refine cp_ (eqIntS_ok a.fr b.fr ha.fr) Tryz.call33 ?_
  refine hQ1 _ _ (S_ ?_);clear hQ1 Q1
  refine c_ (fun hc0 => ?_) fun hc0 => ?_
  ·
    refine g_ [4] ?_
    refine e_ Tryz.results94 ?_
    first
    | exact True.intro
    | rw [← same_tr]
      simp_all
  refine n_ ?_
  refine wpM_regionK [2,3,16] rfl fun Q1 hQ1 => ?_
  refine S_ ?_
  refine cp_ (eqIntS_ok a.to' b.to' ha.to') Tryz.call33 ?_
  refine hQ1 _ _ (S_ ?_);clear hQ1 Q1
  refine c_ (fun hc1 => ?_) fun hc1 => ?_
  ·
    refine g_ [4] ?_
    refine e_ Tryz.results94 ?_
    first
    | exact True.intro
    | rw [← same_tr]
      simp_all
  refine n_ ?_
  refine wpM_regionK [22] rfl fun Q1 hQ1 => ?_
  refine S_ ?_
  refine cp_ (eqExpr_ok a.w b.w ha.w) Tryz.call75 ?_
  refine hQ1 _ _ (S_ ?_);clear hQ1 Q1
  refine c_ (fun hc2 => ?_) fun hc2 => ?_
  ·
    refine g_ [4] ?_
    refine e_ Tryz.results94 ?_
    first
    | exact True.intro
    | rw [← same_tr]
      simp_all
  refine g_ [4] ?_
  refine e_ Tryz.results94 ?_
  first
  | exact True.intro
  | rw [← same_tr]
    simp_all
theorem eqTransS_ok (a b : List Trn) (hl : a.length ≤ 1099511627776) (ha : ∀ i, i < a.length → (a.getD i default).Sm) : PureF Tryz.prog 55 [.rows 90 (rowsT a), .rows 90 (rowsT b)] [.bool (same a b)] := by
  refine pureF_of Tryz.func55 rfl Tryz.ntmps55 (by simp) T_ ?_
  intro f0 B Q hQ
  refine g_ [0,1] ?_
  refine g_ [0,1,10] ?_
  refine c_ (fun hc0 => ?_) fun hc0 => ?_
  ·
    refine g_ [4] ?_
    refine e_ Tryz.results55 ?_
    first
    | exact True.intro
    | simp at hc0
      exact (same_no (fun h => by rw [h] at hc0; exact hc0 rfl)).symm
  have hab : a.length = b.length := by simp at hc0; omega
  refine g_ [0,1,5] ?_
  refine n_ ?_
  refine wpM_loopS (fun s n s' => ∃ (i0 M0 : Nat) , i0 + n = a.length ∧ s.M ≤ M0 ∧ ((List.range i0).all (fun i => same (a.getD i default) (b.getD i default)) = true) ∧ s' = { s with env := setE 5 (.int .i64 (i0 : Nat)) s.env, M := M0 }) (a.length) ?_ ?_
  ·
    refine .of' _ _ ⟨0, _, by omega, Nat.le_refl _, by simp, rfl⟩ ?_ ?_ ?_ <;> exact L_
  rintro n0 s' ⟨i0, M0, hi0, hM0, hv0, rfl⟩
  try dsimp only at hM0
  try refine S_ ?_
  refine g_ [0,1,5,14] ?_
  refine c_ (fun hc1 => ?_) fun hc1 => ?_
  ·
    have hl0 : i0 < a.length := by omega
    refine n_ ?_
    refine dr_ mixed [0,1,5,26] 0 0 [] [⟨[0],[],[],[],false⟩,⟨[5],[],[],[],false⟩,⟨[17,18],[],[],[],false⟩,⟨[19],[],[],[],false⟩,⟨[1],[],[],[],false⟩,⟨[5],[],[],[],false⟩,⟨[21,22],[],[],[],false⟩,⟨[23],[],[],[],false⟩,⟨[20,24],[],[],[],true⟩,⟨[25],[],[],[],false⟩] [0,1,2,3,4,5,6,7,8,9] [[],[],[0,1],[0,1,2],[],[],[4,5],[4,5,6],[0,1,2,3,4,5,6,7],[0,1,2,3,4,5,6,7,8]] 0 ?_
    intro O A K hO hA hK;simp only [atL_cons,atL_nil,Nat.reduceAdd,Nat.zero_add] at hO hA
    refine SO_ ?_
    refine lp_ (eqTrans_ok (a.getD i0 default) (b.getD i0 default) (ha i0 hl0)) Tryz.call94 ?_
    refine hK _ (S_ ?_);clear hK K hO hA O A
    refine c_ (fun hc2 => ?_) fun hc2 => ?_
    ·
      refine g_ [4] ?_
      refine e_ Tryz.results55 ?_
      first
      | exact True.intro
      | have h2 : (!same (a.getD i0 default) (b.getD i0 default)) = true := hc2
        rw [← range_ext hab same (fun i _ => rfl), range_no hl0 (by simpa using h2)]
    refine g_ [0,1,5] ?_
    refine .of' _ _ ⟨n0 - 1, by omega, i0 + 1, _, by omega, M_, ?_, rfl⟩ L_ L_ L_
    have h2 : (!same (a.getD i0 default) (b.getD i0 default)) = false := hc2
    rw [range_all, hv0]; simpa using h2
  refine g_ [4] ?_
  refine e_ Tryz.results55 ?_
  first
  | exact True.intro
  | have : i0 = a.length := by omega
    rw [← range_ext hab same (fun i _ => rfl), ← this, hv0]
theorem eqAct_ok (a b : GAct) : PureF Tryz.prog 95 [.agg a.cs, .agg b.cs] [.bool (same a b)] := by
  rw [← eqAcB_same]
  refine pureF_of Tryz.func95 rfl Tryz.ntmps95 (by simp) T_ ?_
  intro f0 B Q hQ
  refine g_ [2,3] ?_
  refine g_ [2,3,9] ?_
  refine c_ (fun hc0 => ?_) fun hc0 => ?_
  ·
    refine g_ [4] ?_
    refine e_ Tryz.results95 ?_
    first
    | exact True.intro
    | unfold eqAcB
      first | (simp_all; done) | (simp_all; intro h1 h2; rcases hc2 with h | h <;> contradiction)
  refine g_ [2,3,14] ?_
  refine c_ (fun hc1 => ?_) fun hc1 => ?_
  ·
    refine g_ [4] ?_
    refine e_ Tryz.results95 ?_
    first
    | exact True.intro
    | unfold eqAcB
      first | (simp_all; done) | (simp_all; intro h1 h2; rcases hc2 with h | h <;> contradiction)
  refine n_ ?_
  refine wpM_regionK [20] rfl fun Q1 hQ1 => ?_
  refine S_ ?_
  refine cp_ (eqAddr_ok a.to' b.to') Tryz.call74 ?_
  refine hQ1 _ _ (S_ ?_);clear hQ1 Q1
  refine c_ (fun hc2 => ?_) fun hc2 => ?_
  ·
    refine g_ [4] ?_
    refine e_ Tryz.results95 ?_
    first
    | exact True.intro
    | unfold eqAcB
      first | (simp_all; done) | (simp_all; intro h1 h2; rcases hc2 with h | h <;> contradiction)
  refine g_ [4] ?_
  refine e_ Tryz.results95 ?_
  first
  | exact True.intro
  | unfold eqAcB
    first | (simp_all; done) | (simp_all; intro h1 h2; rcases hc2 with h | h <;> contradiction)
theorem eqActS_ok (a b : List GAct) (hl : a.length ≤ 1099511627776) : PureF Tryz.prog 56 [.rows 94 (rowsA a), .rows 94 (rowsA b)] [.bool (same a b)] := by
  refine pureF_of Tryz.func56 rfl Tryz.ntmps56 (by simp) T_ ?_
  intro f0 B Q hQ
  refine g_ [0,1] ?_
  refine g_ [0,1,10] ?_
  refine c_ (fun hc0 => ?_) fun hc0 => ?_
  ·
    refine g_ [4] ?_
    refine e_ Tryz.results56 ?_
    first
    | exact True.intro
    | simp at hc0
      exact (same_no (fun h => by rw [h] at hc0; exact hc0 rfl)).symm
  have hab : a.length = b.length := by simp at hc0; omega
  refine g_ [0,1,5] ?_
  refine n_ ?_
  refine wpM_loopS (fun s n s' => ∃ (i0 M0 : Nat) , i0 + n = a.length ∧ s.M ≤ M0 ∧ ((List.range i0).all (fun i => same (a.getD i default) (b.getD i default)) = true) ∧ s' = { s with env := setE 5 (.int .i64 (i0 : Nat)) s.env, M := M0 }) (a.length) ?_ ?_
  ·
    refine .of' _ _ ⟨0, _, by omega, Nat.le_refl _, by simp, rfl⟩ ?_ ?_ ?_ <;> exact L_
  rintro n0 s' ⟨i0, M0, hi0, hM0, hv0, rfl⟩
  try dsimp only at hM0
  try refine S_ ?_
  refine g_ [0,1,5,14] ?_
  refine c_ (fun hc1 => ?_) fun hc1 => ?_
  ·
    have hl0 : i0 < a.length := by omega
    refine n_ ?_
    refine dr_ mixed [0,1,5,26] 0 0 [] [⟨[0],[],[],[],false⟩,⟨[5],[],[],[],false⟩,⟨[17,18],[],[],[],false⟩,⟨[19],[],[],[],false⟩,⟨[1],[],[],[],false⟩,⟨[5],[],[],[],false⟩,⟨[21,22],[],[],[],false⟩,⟨[23],[],[],[],false⟩,⟨[20,24],[],[],[],true⟩,⟨[25],[],[],[],false⟩] [0,1,2,3,4,5,6,7,8,9] [[],[],[0,1],[0,1,2],[],[],[4,5],[4,5,6],[0,1,2,3,4,5,6,7],[0,1,2,3,4,5,6,7,8]] 0 ?_
    intro O A K hO hA hK;simp only [atL_cons,atL_nil,Nat.reduceAdd,Nat.zero_add] at hO hA
    refine SO_ ?_
    refine lp_ (eqAct_ok (a.getD i0 default) (b.getD i0 default)) Tryz.call95 ?_
    refine hK _ (S_ ?_);clear hK K hO hA O A
    refine c_ (fun hc2 => ?_) fun hc2 => ?_
    ·
      refine g_ [4] ?_
      refine e_ Tryz.results56 ?_
      first
      | exact True.intro
      | have h2 : (!same (a.getD i0 default) (b.getD i0 default)) = true := hc2
        rw [← range_ext hab same (fun i _ => rfl), range_no hl0 (by simpa using h2)]
    refine g_ [0,1,5] ?_
    refine .of' _ _ ⟨n0 - 1, by omega, i0 + 1, _, by omega, M_, ?_, rfl⟩ L_ L_ L_
    have h2 : (!same (a.getD i0 default) (b.getD i0 default)) = false := hc2
    rw [range_all, hv0]; simpa using h2
  refine g_ [4] ?_
  refine e_ Tryz.results56 ?_
  first
  | exact True.intro
  | have : i0 = a.length := by omega
    rw [← range_ext hab same (fun i _ => rfl), ← this, hv0]
theorem eqChart_ok (a b : Cht) (ha : a.Sm) : PureF Tryz.prog 20 [.agg a.cs, .agg b.cs] [.bool (same a b)] := by
  refine pureF_of Tryz.func20 rfl Tryz.ntmps20 (by simp) T_ ?_
  intro f0 B Q hQ
  refine g_ [2,3] ?_
  refine g_ [2,3,9] ?_
  refine c_ (fun hc0 => ?_) fun hc0 => ?_
  ·
    refine g_ [4] ?_
    refine e_ Tryz.results20 ?_
    first
    | exact True.intro
    | rw [← same_ch]
      simp_all
  refine n_ ?_
  refine wpM_regionK [2,3,15] rfl fun Q1 hQ1 => ?_
  refine S_ ?_
  refine cp_ (eqTransS_ok a.ts b.ts ha.ts ha.t) Tryz.call55 ?_
  refine hQ1 _ _ (S_ ?_);clear hQ1 Q1
  refine c_ (fun hc1 => ?_) fun hc1 => ?_
  ·
    refine g_ [4] ?_
    refine e_ Tryz.results20 ?_
    first
    | exact True.intro
    | rw [← same_ch]
      simp_all
  refine n_ ?_
  refine wpM_regionK [21] rfl fun Q1 hQ1 => ?_
  refine S_ ?_
  refine cp_ (eqActS_ok a.as' b.as' ha.as') Tryz.call56 ?_
  refine hQ1 _ _ (S_ ?_);clear hQ1 Q1
  refine c_ (fun hc2 => ?_) fun hc2 => ?_
  ·
    refine g_ [4] ?_
    refine e_ Tryz.results20 ?_
    first
    | exact True.intro
    | rw [← same_ch]
      simp_all
  refine g_ [4] ?_
  refine e_ Tryz.results20 ?_
  first
  | exact True.intro
  | rw [← same_ch]
    simp_all
end Go.Proofs.YtnmfmeehmieifaaGreatDoor
namespace Go.Proofs.YtnmfmeehmieifaaGreatDoor
open Go Sg
set_option maxRecDepth 100000
set_option linter.unusedSimpArgs false
set_option linter.unusedVariables false
set_option linter.unusedSectionVars false
set_option maxHeartbeats 4000000
variable [Glob]
structure Trn.Len (t : Trn) : Prop where
  fr : t.fr.length ≤ maxLen
  to' : t.to'.length ≤ maxLen
  w : t.w.Len
structure Cht.Len (c : Cht) : Prop where
  ts : c.ts.length ≤ maxLen
  as' : c.as'.length ≤ maxLen
  t : ∀ i, i < c.ts.length → (c.ts.getD i default).Len
theorem tlcs_pure (t : Trn) : PV.pureL t.lcs = true := rfl
theorem tlcs_cell (t : Trn) : ∀ y ∈ t.lcs, y.cell = true := by
  rw [Trn.lcs_eq]
  intro y hy
  simp only [List.mem_cons, List.not_mem_nil, or_false] at hy
  rcases hy with rfl | rfl | rfl | rfl | rfl | rfl | rfl <;> rfl
theorem acs_pure (t : GAct) : PV.pureL t.cs = true := rfl
theorem acs_cell (t : GAct) : ∀ y ∈ t.cs, y.cell = true := by
  rw [GAct.cs_eq]
  intro y hy
  simp only [List.mem_cons, List.not_mem_nil, or_false] at hy
  rcases hy with rfl | rfl | rfl | rfl <;> rfl
section
variable {H : Type} {enc : TypeId × Value → H} {W : World} {base : Nat} {spare : Nat → Bool} {held : Bool}
theorem open_ints {fuel : Nat} {cs : List Value} {x : DataW H × List MemPlace} (h : DataW.trod enc Tryz.prog W base spare held fuel 22 cs = some x) : ∃ l : List Int, l.length ≤ maxLen ∧ Lies Tryz.prog W [.rows 3 (rowsI l)] cs := by
  obtain ⟨l, _, h1, h2⟩ := open_slice Tryz.underlying22 (by rw [cellsOf3]; decide) (fun n : Int => [PV.int .i64 n]) (fun _ => True) (fun _ => by rw [cellsOf3]; rfl) (fun _ => rfl) (fun _ y hy => by rw [List.mem_singleton.1 hy]; rfl)
    (fun j cs' x' hj h' => by
      obtain ⟨n, rfl, _⟩ := open_int Tryz.underlying3 h'
      exact ⟨n, trivial, rfl, fun j hj => by
        have : j = 0 := by simpa using hj
        subst this; exact .int _ _⟩) h
  exact ⟨l, h1, h2⟩
theorem lies_one {p : PV} {c : Value} (h : Lies Tryz.prog W [p] [c]) : R Tryz.prog (ghOf W) p c := h.2 0 (by simp)
theorem open_act {fuel : Nat} {cs : List Value} {x : DataW H × List MemPlace} (h : DataW.trod enc Tryz.prog W base spare held fuel 139 cs = some x) : ∃ a : GAct, Lies Tryz.prog W a.cs cs := by
  obtain ⟨xs, n, hf, hx, hl, hxs, hfs⟩ := DataW.trod_struct Tryz.underlying139 h
  rw [cellsOf139] at hl
  match cs, hl with
  | [c0, c1, c2, c3], _ =>
    have h0 := hfs 0 _ rfl
    have h1 := hfs 1 _ rfl
    have h2 := hfs 2 _ rfl
    have l0 : (0 : Nat) < xs.length := by rw [hxs]; decide
    have l1 : (1 : Nat) < xs.length := by rw [hxs]; decide
    have l2 : (2 : Nat) < xs.length := by rw [hxs]; decide
    rw [List.getElem?_eq_getElem l0] at h0
    rw [List.getElem?_eq_getElem l1] at h1
    rw [List.getElem?_eq_getElem l2] at h2
    obtain ⟨k, hk, _⟩ := open_int Tryz.underlying3 h0
    obtain ⟨m, hm, _⟩ := open_int Tryz.underlying3 h1
    obtain ⟨a, ha⟩ := open_ad h2
    simp [cellsOf3] at hk hm
    simp [cellsOf55] at ha
    refine ⟨⟨k, m, a⟩, rfl, fun j hj => ?_⟩
    match j, hj with
    | 0, _ => simp only [GAct.cs, List.getElem_cons_zero]; rw [hk]; exact .int _ _
    | 1, _ => simp only [GAct.cs]; rw [hm]; exact .int _ _
    | 2, _ => simp only [GAct.cs]; rw [ha.1]; exact .int _ _
    | 3, _ => simp only [GAct.cs]; rw [ha.2]; exact .int _ _
theorem open_trn {fuel : Nat} {cs : List Value} {x : DataW H × List MemPlace} (h : DataW.trod enc Tryz.prog W base spare held fuel 131 cs = some x) : ∃ t : Trn, t.Len ∧ Lies Tryz.prog W t.lcs cs := by
  obtain ⟨xs, n, hf, hx, hl, hxs, hfs⟩ := DataW.trod_struct Tryz.underlying131 h
  rw [cellsOf131] at hl
  match cs, hl with
  | [c0, c1, c2, c3, c4, c5, c6], _ =>
    have h0 := hfs 0 _ rfl
    have h1 := hfs 1 _ rfl
    have h2 := hfs 2 _ rfl
    have l0 : (0 : Nat) < xs.length := by rw [hxs]; decide
    have l1 : (1 : Nat) < xs.length := by rw [hxs]; decide
    have l2 : (2 : Nat) < xs.length := by rw [hxs]; decide
    rw [List.getElem?_eq_getElem l0] at h0
    rw [List.getElem?_eq_getElem l1] at h1
    rw [List.getElem?_eq_getElem l2] at h2
    obtain ⟨f, hf1, hf2⟩ := open_ints h0
    obtain ⟨g, hg1, hg2⟩ := open_ints h1
    obtain ⟨w, hw1, hw2⟩ := open_ex _ _ _ h2
    simp [cellsOf22] at hf2 hg2
    simp [cellsOf58] at hw2
    refine ⟨⟨f, g, w⟩, ⟨hf1, hg1, hw1⟩, rfl, fun j hj => ?_⟩
    rw [Ex.lcs_eq] at hw2
    match j, hj with
    | 0, _ => exact lies_one hf2
    | 1, _ => exact lies_one hg2
    | 2, _ => exact hw2.2 0 (by simp)
    | 3, _ => exact hw2.2 1 (by simp)
    | 4, _ => exact hw2.2 2 (by simp)
    | 5, _ => exact hw2.2 3 (by simp)
    | 6, _ => exact hw2.2 4 (by simp)
theorem open_cht {fuel : Nat} {cs : List Value} {x : DataW H × List MemPlace} (h : DataW.trod enc Tryz.prog W base spare held fuel 42 cs = some x) : ∃ c : Cht, c.Len ∧ Lies Tryz.prog W c.lcs cs := by
  obtain ⟨xs, n, hf, hx, hl, hxs, hfs⟩ := DataW.trod_struct Tryz.underlying42 h
  rw [cellsOf42] at hl
  match cs, hl with
  | [c0, c1, c2], _ =>
    have h0 := hfs 0 _ rfl
    have h1 := hfs 1 _ rfl
    have h2 := hfs 2 _ rfl
    have l0 : (0 : Nat) < xs.length := by rw [hxs]; decide
    have l1 : (1 : Nat) < xs.length := by rw [hxs]; decide
    have l2 : (2 : Nat) < xs.length := by rw [hxs]; decide
    rw [List.getElem?_eq_getElem l0] at h0
    rw [List.getElem?_eq_getElem l1] at h1
    rw [List.getElem?_eq_getElem l2] at h2
    obtain ⟨k, hk, _⟩ := open_int Tryz.underlying3 h0
    obtain ⟨l, ht1, ht2, ht3⟩ := open_slice Tryz.underlying39 (by rw [cellsOf131]; decide) Trn.lcs Trn.Len (fun e => by rw [cellsOf131, Trn.lcs_eq]; rfl) tlcs_pure tlcs_cell (fun j cs' x' hj h' => open_trn h') h1
    obtain ⟨as', _, ha2, ha3⟩ := open_slice Tryz.underlying40 (by rw [cellsOf139]; decide) GAct.cs (fun _ => True) (fun e => by rw [cellsOf139, GAct.cs_eq]; rfl) acs_pure acs_cell (fun j cs' x' hj h' => by
      obtain ⟨a, ha⟩ := open_act h'
      exact ⟨a, trivial, ha⟩) h2
    simp [cellsOf3] at hk
    simp [cellsOf39] at ht3
    simp [cellsOf40] at ha3
    refine ⟨⟨k, l, as'⟩, ⟨ht2, ha2, ht1⟩, rfl, fun j hj => ?_⟩
    match j, hj with
    | 0, _ => simp only [Cht.lcs, List.getElem_cons_zero]; rw [hk]; exact .int _ _
    | 1, _ => exact lies_one ht3
    | 2, _ => exact lies_one ha3
end
end Go.Proofs.YtnmfmeehmieifaaGreatDoor
namespace Go.Proofs.YtnmfmeehmieifaaGreatDoor
open Go Sg
set_option maxRecDepth 100000
set_option linter.unusedSimpArgs false
set_option linter.unusedVariables false
set_option linter.unusedSectionVars false
set_option maxHeartbeats 4000000
variable [Glob]
def szR (left : Int) (m : Nat) : Int := if (m : Int) ≤ left then left - m else -1
theorem szR_pos {L : Int} {m : Nat} (h : ¬ szR L m < 0) : (m : Int) ≤ L ∧ szR L m = L - m := by
  unfold szR at *
  split at h
  · rename_i h1; rw [if_pos h1]; exact ⟨h1, rfl⟩
  · omega
theorem szR_neg {L : Int} {m : Nat} (h : szR L m < 0) : L < m := by
  unfold szR at h
  split at h <;> omega
theorem szR_two {L : Int} {m n : Nat} (h : (m : Int) ≤ L) : szR (L - m) n = szR L (m + n) := by
  unfold szR
  by_cases h1 : (n : Int) ≤ L - m
  · rw [if_pos h1, if_pos (by omega)]; omega
  · rw [if_neg h1, if_neg (by omega)]
theorem szR_no {L : Int} {m : Nat} (h : L < m) : szR L m = -1 := if_neg (by omega)
theorem szR_yes {L : Int} {m : Nat} (h : (m : Int) ≤ L) : szR L m = L - m := if_pos h
theorem sum_take {α : Type} [Inhabited α] (f : α → Nat) (l : List α) (i : Nat) (h : i < l.length) : ((l.take (i + 1)).map f).sum = ((l.take i).map f).sum + f (l.getD i default) := by
  rw [List.take_succ_eq_append_getElem h, List.map_append, List.sum_append]
  simp [List.getD, h]
theorem sum_le {α : Type} (f : α → Nat) (l : List α) (i : Nat) : ((l.take i).map f).sum ≤ (l.map f).sum := by
  have h : (l.map f).sum = ((l.take i ++ l.drop i).map f).sum := by rw [List.take_append_drop]
  rw [h, List.map_append, List.sum_append]; omega
def kz (e : Ex) : Nat := Ex.szL e.kids
theorem szL_kz (l : List Ex) : Ex.szL l = l.length + (l.map kz).sum := by
  induction l with
  | nil => rfl
  | cons e l ih => simp only [Ex.szL, Ex.sz_eq, ih, List.length_cons, List.map_cons, List.sum_cons, kz]; omega
theorem max_eq : maxLen = 9223372036854775807 := rfl
theorem szInt_ok (l : List Int) (left : Int) (h0 : 0 ≤ left) (h1 : left ≤ 1048576) (hl : l.length ≤ maxLen) : PureF Tryz.prog 21 [.rows 3 (rowsI l), .int .i64 left] [.int .i64 (szR left l.length)] := by
  rw [max_eq] at hl
  refine pureF_of Tryz.func21 rfl Tryz.ntmps21 (by simp) T_ ?_
  intro f0 B Q hQ
  refine g_ [0,1] ?_
  refine g_ [1] ?_
  refine g_ [1,10] ?_
  refine c_ (fun hc0 => ?_) fun hc0 => ?_
  ·
    have hz := szR_no (L := left) (m := l.length) (by omega)
    refine g_ [4] ?_
    refine e_ Tryz.results21 ?_
    first
    | exact True.intro
    | rw [hz]
  have hz := szR_yes (L := left) (m := l.length) (by omega)
  refine g_ [4] ?_
  refine e_ Tryz.results21 ?_
  first
  | exact True.intro
  | rw [hz]
theorem szActS_ok (l : List GAct) (left : Int) (h0 : 0 ≤ left) (h1 : left ≤ 1048576) (hl : l.length ≤ maxLen) : PureF Tryz.prog 39 [.rows 139 (rowsA l), .int .i64 left] [.int .i64 (szR left l.length)] := by
  rw [max_eq] at hl
  refine pureF_of Tryz.func39 rfl Tryz.ntmps39 (by simp) T_ ?_
  intro f0 B Q hQ
  refine g_ [0,1] ?_
  refine g_ [1] ?_
  refine g_ [1,10] ?_
  refine c_ (fun hc0 => ?_) fun hc0 => ?_
  ·
    have hz := szR_no (L := left) (m := l.length) (by omega)
    refine g_ [4] ?_
    refine e_ Tryz.results39 ?_
    first
    | exact True.intro
    | rw [hz]
  have hz := szR_yes (L := left) (m := l.length) (by omega)
  refine g_ [4] ?_
  refine e_ Tryz.results39 ?_
  first
  | exact True.intro
  | rw [hz]
def SzE (l : List Ex) : Prop := ∀ left : Int, 0 ≤ left → left ≤ 1048576 → PureF Tryz.prog 96 [.rows 58 (Ex.lcsL l), .int .i64 left] [.int .i64 (szR left (Ex.szL l))]
theorem szExpr_ok' (e : Ex) (ih : SzE e.kids) (left : Int) (h0 : 0 ≤ left) (h1 : left ≤ 1048576) : PureF Tryz.prog 57 [.agg e.lcs, .int .i64 left] [.int .i64 (szR left (kz e))] := by
  refine pureF_of Tryz.func57 rfl Tryz.ntmps57 (by simp) T_ ?_
  intro f0 B Q hQ
  refine g_ [1,2] ?_
  refine n_ ?_
  refine wpM_regionK [1] rfl fun Q1 hQ1 => ?_
  refine S_ ?_
  refine cp_ (ih left h0 h1) Tryz.call96 ?_
  refine hQ1 _ _ (S_ ?_);clear hQ1 Q1
  refine g_ [1,10] ?_
  refine c_ (fun hc0 => ?_) fun hc0 => ?_
  ·
    have hz := szR_no (szR_neg (L := left) (m := Ex.szL e.kids) hc0)
    refine g_ [4] ?_
    refine e_ Tryz.results57 ?_
    first
    | exact True.intro
    | first | exact hz.symm | rfl
  refine g_ [4] ?_
  refine e_ Tryz.results57 ?_
  first
  | exact True.intro
  | first | exact hz.symm | rfl
theorem szExprS_ok : ∀ (N : Nat) (l : List Ex), Ex.szL l ≤ N → l.length ≤ maxLen → Ex.LenL l → SzE l := by
  intro N
  induction N using Nat.strongRecOn with
  | _ N ih =>
    intro l hN hl hL left h0 h1
    rw [max_eq] at hl
    refine pureF_of Tryz.func96 rfl Tryz.ntmps96 (by simp) T_ ?_
    intro f0 B Q hQ
    refine g_ [0,1] ?_
    refine g_ [0,1] ?_
    refine g_ [0,1,11] ?_
    refine c_ (fun hc0 => ?_) fun hc0 => ?_
    ·
      have hz := szR_no (L := left) (m := Ex.szL l) (by rw [szL_kz]; omega)
      refine g_ [4] ?_
      refine e_ Tryz.results96 ?_
      first
      | exact True.intro
      | rw [hz]
    have hle : (l.length : Int) ≤ left := by omega
    refine g_ [0,1,5] ?_
    refine n_ ?_
    refine wpM_loopS (fun s n s' => ∃ (i0 M0 : Nat) (L : Int), i0 + n = l.length ∧ s.M ≤ M0 ∧ (0 ≤ L ∧ L + l.length + (((l.take i0).map kz).sum : Nat) = left) ∧ s' = { s with env := setE 5 (.int .i64 (i0 : Nat)) (setE 1 (.int .i64 L) s.env) , M := M0 }) (l.length) ?_ ?_
    ·
      refine .of' _ _ ⟨0, _, left - l.length, by omega, Nat.le_refl _, ⟨by omega, by simp⟩, rfl⟩ ?_ ?_ ?_ <;> exact L_
    rintro n0 s' ⟨i0, M0, L, hi0, hM0, hv0, rfl⟩
    try dsimp only at hM0
    try refine S_ ?_
    refine g_ [0,1,5,15] ?_
    refine c_ (fun hc1 => ?_) fun hc1 => ?_
    ·
      have hl0 : i0 < l.length := by omega
      have hmem : l.getD i0 default ∈ l := by rw [List.getD_eq_getElem?_getD, List.getElem?_eq_getElem hl0]; exact List.getElem_mem hl0
      have hLe := (Ex.LenL_iff l).1 hL _ hmem
      have hst := sum_take kz l i0 hl0
      have hsl := sum_le kz l (i0 + 1)
      have hkl : kz (l.getD i0 default) < N := by
        have := szL_kz l
        omega
      refine n_ ?_
      refine wpM_regionK [0,1,5] rfl fun Q1 hQ1 => ?_
      refine S_ ?_
      refine cp_ (szExpr_ok' (l.getD i0 default) (ih _ hkl _ (Nat.le_refl _) (by cases h : l.getD i0 default; rw [h] at hLe; exact hLe.1) (by cases h : l.getD i0 default; rw [h] at hLe; exact hLe.2)) L hv0.1 (by omega)) Tryz.call57 ?_
      refine hQ1 _ _ (S_ ?_);clear hQ1 Q1
      refine g_ [0,1,5,25] ?_
      refine c_ (fun hc2 => ?_) fun hc2 => ?_
      ·
        have hn := szR_neg (L := L) (m := kz (l.getD i0 default)) hc2
        have hz := szR_no (L := left) (m := Ex.szL l) (by rw [szL_kz]; omega)
        refine g_ [4] ?_
        refine e_ Tryz.results96 ?_
        first
        | exact True.intro
        | rw [hz]
      have hp := szR_pos (L := L) (m := kz (l.getD i0 default)) hc2
      refine g_ [0,1,5] ?_
      refine .of' _ _ ⟨n0 - 1, by omega, i0 + 1, _, szR L (kz (l.getD i0 default)), by omega, M_, ?_, rfl⟩ L_ L_ L_
      rw [hst, hp.2]
      omega
    refine n_ ?_
    have hi : i0 = l.length := by omega
    have hz : szR left (Ex.szL l) = L := by
      rw [hi, List.take_of_length_le (Nat.le_refl _)] at hv0
      rw [szL_kz, szR_yes (by omega)]; omega
    refine g_ [4] ?_
    refine e_ Tryz.results96 ?_
    first
    | exact True.intro
    | rw [hz]
end Go.Proofs.YtnmfmeehmieifaaGreatDoor
namespace Go.Proofs.YtnmfmeehmieifaaGreatDoor
open Go Sg
set_option maxRecDepth 100000
set_option linter.unusedSimpArgs false
set_option linter.unusedVariables false
set_option linter.unusedSectionVars false
set_option maxHeartbeats 4000000
variable [Glob]
theorem Ex.kids_Len {e : Ex} (h : e.Len) : e.kids.length ≤ maxLen ∧ Ex.LenL e.kids := by cases e; exact h
def tz (t : Trn) : Nat := t.fr.length + t.to'.length + kz t.w
def cz (c : Cht) : Nat := c.ts.length + (c.ts.map tz).sum + c.as'.length
theorem szTrans_ok (t : Trn) (ht : t.Len) (left : Int) (h0 : 0 ≤ left) (h1 : left ≤ 1048576) : PureF Tryz.prog 76 [.agg t.lcs, .int .i64 left] [.int .i64 (szR left (tz t))] := by
  have hk := Ex.kids_Len ht.w
  have e2 : t.fr.length ≤ left → szR (left - t.fr.length) t.to'.length = szR left (t.fr.length + t.to'.length) := fun h => szR_two h
  refine pureF_of Tryz.func76 rfl Tryz.ntmps76 (by simp) T_ ?_
  intro f0 B Q hQ
  refine g_ [1,2] ?_
  refine n_ ?_
  refine wpM_regionK [1,2] rfl fun Q1 hQ1 => ?_
  refine S_ ?_
  refine cp_ (szInt_ok t.fr left h0 h1 ht.fr) Tryz.call21 ?_
  refine hQ1 _ _ (S_ ?_);clear hQ1 Q1
  refine g_ [1,2,10] ?_
  refine c_ (fun hc0 => ?_) fun hc0 => ?_
  ·
    have hz := szR_no (L := left) (m := tz t) (by have := szR_neg hc0; unfold tz; omega)
    refine g_ [4] ?_
    refine e_ Tryz.results76 ?_
    first
    | exact True.intro
    | first
      | exact hz.symm
      | (rw [hz, p3.2, p2.2, p1.2]; unfold tz; omega)
  have p1 := szR_pos hc0
  refine n_ ?_
  refine wpM_regionK [1,2] rfl fun Q1 hQ1 => ?_
  refine S_ ?_
  refine cp_ (szInt_ok t.to' (szR left t.fr.length) (by omega) (by omega) ht.to') Tryz.call21 ?_
  refine hQ1 _ _ (S_ ?_);clear hQ1 Q1
  refine g_ [1,2,16] ?_
  refine c_ (fun hc1 => ?_) fun hc1 => ?_
  ·
    have hz := szR_no (L := left) (m := tz t) (by have := szR_neg hc1; unfold tz; omega)
    refine g_ [4] ?_
    refine e_ Tryz.results76 ?_
    first
    | exact True.intro
    | first
      | exact hz.symm
      | (rw [hz, p3.2, p2.2, p1.2]; unfold tz; omega)
  have p2 := szR_pos hc1
  refine n_ ?_
  refine wpM_regionK [1] rfl fun Q1 hQ1 => ?_
  refine S_ ?_
  refine cp_ (szExpr_ok' t.w (szExprS_ok _ _ (Nat.le_refl _) hk.1 hk.2) (szR (szR left t.fr.length) t.to'.length) (by omega) (by omega)) Tryz.call57 ?_
  refine hQ1 _ _ (S_ ?_);clear hQ1 Q1
  refine g_ [1,22] ?_
  refine c_ (fun hc2 => ?_) fun hc2 => ?_
  ·
    have hz := szR_no (L := left) (m := tz t) (by have := szR_neg hc2; unfold tz; omega)
    refine g_ [4] ?_
    refine e_ Tryz.results76 ?_
    first
    | exact True.intro
    | first
      | exact hz.symm
      | (rw [hz, p3.2, p2.2, p1.2]; unfold tz; omega)
  have p3 := szR_pos hc2
  have hz := szR_yes (L := left) (m := tz t) (by unfold tz; omega)
  refine g_ [4] ?_
  refine e_ Tryz.results76 ?_
  first
  | exact True.intro
  | first
    | exact hz.symm
    | (rw [hz, p3.2, p2.2, p1.2]; unfold tz; omega)
theorem szTransS_ok (l : List Trn) (hl : l.length ≤ maxLen) (hL : ∀ i, i < l.length → (l.getD i default).Len) (left : Int) (h0 : 0 ≤ left) (h1 : left ≤ 1048576) : PureF Tryz.prog 38 [.rows 131 (rowsLT l), .int .i64 left] [.int .i64 (szR left (l.length + (l.map tz).sum))] := by
  rw [max_eq] at hl
  refine pureF_of Tryz.func38 rfl Tryz.ntmps38 (by simp) T_ ?_
  intro f0 B Q hQ
  refine g_ [0,1] ?_
  refine g_ [0,1] ?_
  refine g_ [0,1,11] ?_
  refine c_ (fun hc0 => ?_) fun hc0 => ?_
  ·
    have hz := szR_no (L := left) (m := l.length + (l.map tz).sum) (by omega)
    refine g_ [4] ?_
    refine e_ Tryz.results38 ?_
    first
    | exact True.intro
    | rw [hz]
  have hle : (l.length : Int) ≤ left := by omega
  refine g_ [0,1,5] ?_
  refine n_ ?_
  refine wpM_loopS (fun s n s' => ∃ (i0 M0 : Nat) (L : Int), i0 + n = l.length ∧ s.M ≤ M0 ∧ (0 ≤ L ∧ L + l.length + (((l.take i0).map tz).sum : Nat) = left) ∧ s' = { s with env := setE 5 (.int .i64 (i0 : Nat)) (setE 1 (.int .i64 L) s.env) , M := M0 }) (l.length) ?_ ?_
  ·
    refine .of' _ _ ⟨0, _, left - l.length, by omega, Nat.le_refl _, ⟨by omega, by simp⟩, rfl⟩ ?_ ?_ ?_ <;> exact L_
  rintro n0 s' ⟨i0, M0, L, hi0, hM0, hv0, rfl⟩
  try dsimp only at hM0
  try refine S_ ?_
  refine g_ [0,1,5,15] ?_
  refine c_ (fun hc1 => ?_) fun hc1 => ?_
  ·
    have hl0 : i0 < l.length := by omega
    have hst := sum_take tz l i0 hl0
    have hsl := sum_le tz l (i0 + 1)
    refine n_ ?_
    refine wpM_regionK [0,1,5] rfl fun Q1 hQ1 => ?_
    refine S_ ?_
    refine cp_ (szTrans_ok (l.getD i0 default) (hL i0 hl0) L hv0.1 (by omega)) Tryz.call76 ?_
    refine hQ1 _ _ (S_ ?_);clear hQ1 Q1
    refine g_ [0,1,5,25] ?_
    refine c_ (fun hc2 => ?_) fun hc2 => ?_
    ·
      have hn := szR_neg (L := L) (m := tz (l.getD i0 default)) hc2
      have hz := szR_no (L := left) (m := l.length + (l.map tz).sum) (by omega)
      refine g_ [4] ?_
      refine e_ Tryz.results38 ?_
      first
      | exact True.intro
      | rw [hz]
    have hp := szR_pos (L := L) (m := tz (l.getD i0 default)) hc2
    refine g_ [0,1,5] ?_
    refine .of' _ _ ⟨n0 - 1, by omega, i0 + 1, _, szR L (tz (l.getD i0 default)), by omega, M_, ?_, rfl⟩ L_ L_ L_
    rw [hst, hp.2]
    omega
  refine n_ ?_
  have hi : i0 = l.length := by omega
  have hz : szR left (l.length + (l.map tz).sum) = L := by
    rw [hi, List.take_of_length_le (Nat.le_refl _)] at hv0
    rw [szR_yes (by omega)]; omega
  refine g_ [4] ?_
  refine e_ Tryz.results38 ?_
  first
  | exact True.intro
  | rw [hz]
theorem szChart_ok (c : Cht) (hc : c.Len) (left : Int) (h0 : 0 ≤ left) (h1 : left ≤ 1048576) : PureF Tryz.prog 16 [.agg c.lcs, .int .i64 left] [.int .i64 (szR left (cz c))] := by
  refine pureF_of Tryz.func16 rfl Tryz.ntmps16 (by simp) T_ ?_
  intro f0 B Q hQ
  refine g_ [1,2] ?_
  refine n_ ?_
  refine wpM_regionK [1,2] rfl fun Q1 hQ1 => ?_
  refine S_ ?_
  refine cp_ (szTransS_ok c.ts hc.ts hc.t left h0 h1) Tryz.call38 ?_
  refine hQ1 _ _ (S_ ?_);clear hQ1 Q1
  refine g_ [1,2,10] ?_
  refine c_ (fun hc0 => ?_) fun hc0 => ?_
  ·
    have hz := szR_no (L := left) (m := cz c) (by have := szR_neg hc0; unfold cz; omega)
    refine g_ [4] ?_
    refine e_ Tryz.results16 ?_
    first
    | exact True.intro
    | first
      | exact hz.symm
      | (rw [hz, p2.2, p1.2]; unfold cz; omega)
  have p1 := szR_pos hc0
  refine n_ ?_
  refine wpM_regionK [1] rfl fun Q1 hQ1 => ?_
  refine S_ ?_
  refine cp_ (szActS_ok c.as' (szR left (c.ts.length + (c.ts.map tz).sum)) (by omega) (by omega) hc.as') Tryz.call39 ?_
  refine hQ1 _ _ (S_ ?_);clear hQ1 Q1
  refine g_ [1,16] ?_
  refine c_ (fun hc1 => ?_) fun hc1 => ?_
  ·
    have hz := szR_no (L := left) (m := cz c) (by have := szR_neg hc1; unfold cz; omega)
    refine g_ [4] ?_
    refine e_ Tryz.results16 ?_
    first
    | exact True.intro
    | first
      | exact hz.symm
      | (rw [hz, p2.2, p1.2]; unfold cz; omega)
  have p2 := szR_pos hc1
  have hz := szR_yes (L := left) (m := cz c) (by unfold cz; omega)
  refine g_ [4] ?_
  refine e_ Tryz.results16 ?_
  first
  | exact True.intro
  | first
    | exact hz.symm
    | (rw [hz, p2.2, p1.2]; unfold cz; omega)
theorem sum_get {α : Type} [Inhabited α] (f : α → Nat) (l : List α) (i : Nat) (h : i < l.length) : f (l.getD i default) ≤ (l.map f).sum := by
  have h1 := sum_take f l i h
  have h2 := sum_le f l (i + 1)
  omega
theorem cz_Sm {c : Cht} (h : cz c ≤ 1048576) : c.Sm := by
  unfold cz at h
  refine ⟨by omega, by omega, fun i hi => ?_⟩
  have := sum_get tz c.ts i hi
  have e1 : tz (c.ts.getD i default) = (c.ts.getD i default).fr.length + (c.ts.getD i default).to'.length + Ex.szL (c.ts.getD i default).w.kids := rfl
  refine ⟨by omega, by omega, ?_⟩
  rw [Ex.sz_eq]
  omega
end Go.Proofs.YtnmfmeehmieifaaGreatDoor
namespace Go.Proofs.YtnmfmeehmieifaaGreatDoor
open Go Sg
set_option maxRecDepth 100000
set_option linter.unusedSimpArgs false
set_option linter.unusedVariables false
set_option linter.unusedSectionVars false
set_option maxHeartbeats 4000000
variable [Glob]
theorem toTrans_ok (t : Trn) (ht : tz t ≤ 1048576) : PureF Tryz.prog 81 [.agg t.lcs] [.agg t.cs] := by
  have e1 : tz t = t.fr.length + t.to'.length + Ex.szL t.w.kids := rfl
  refine pureF_of Tryz.func81 rfl Tryz.ntmps81 (by simp) T_ ?_
  intro f0 B Q hQ
  refine g_ [1,2] ?_
  refine g_ [1,2,3] ?_
  refine n_ ?_
  refine wpM_regionK [1,2,3] rfl fun Q1 hQ1 => ?_
  refine S_ ?_
  refine cp_ (toInt_ok t.fr (by omega)) Tryz.call27 ?_
  refine hQ1 _ _ (S_ ?_);clear hQ1 Q1
  refine n_ ?_
  refine wpM_regionK [1,2,3] rfl fun Q1 hQ1 => ?_
  refine S_ ?_
  refine cp_ (toInt_ok t.to' (by omega)) Tryz.call27 ?_
  refine hQ1 _ _ (S_ ?_);clear hQ1 Q1
  refine n_ ?_
  refine wpM_regionK [2,3] rfl fun Q1 hQ1 => ?_
  refine S_ ?_
  refine cp_ (toExpr_ok t.w (by omega)) Tryz.call66 ?_
  refine hQ1 _ _ (S_ ?_);clear hQ1 Q1
  refine g_ [2] ?_
  exact e_ Tryz.results81 True.intro
abbrev tZ : List PV := [.emp, .emp, .int .i64 0, .int .i64 0, .int .i64 0, .int .i64 0, .emp]
theorem toTransS_ok (l : List Trn) (hl : l.length + (l.map tz).sum ≤ 1048576) : PureF Tryz.prog 46 [.rows 131 (rowsLT l)] [.rows 90 (rowsT l)] := by
  refine pureF_of Tryz.func46 rfl Tryz.ntmps46 (by simp) T_ ?_
  intro f0 B Q hQ
  refine g_ [0] ?_
  refine g_ [0,3] ?_
  rw [← fillC_zero Trn.cs tZ l]
  refine g_ [0,3,4] ?_
  refine n_ ?_
  refine wpM_loopS (fun s n s' => ∃ (i0 M0 : Nat) , i0 + n = l.length ∧ s.M ≤ M0 ∧ (Tr i0) ∧ s' = { s with env := setE 4 (.int .i64 (i0 : Nat)) s.env, l := [(B, .cells 90 (fillC Trn.cs tZ l i0))], M := M0 }) (l.length) ?_ ?_
  ·
    refine .of' _ _ ⟨0, _, by omega, Nat.le_refl _, trivial, rfl⟩ ?_ ?_ ?_ <;> exact L_
  rintro n0 s' ⟨i0, M0, hi0, hM0, hv0, rfl⟩
  try dsimp only at hM0
  try refine S_ ?_
  refine g_ [0,3,4,11] ?_
  refine c_ (fun hc0 => ?_) fun hc0 => ?_
  ·
    have hl0 : i0 < l.length := by omega
    have hfl := fillC_len Trn.cs tZ (w := 7) (fun _ => rfl) rfl l i0 (by omega)
    have hfs := fillC_set Trn.cs tZ (w := 7) (fun _ => rfl) rfl l i0 hl0
    rw [Trn.cs_eq] at hfs
    have hg := sum_get tz l i0 hl0
    refine n_ ?_
    refine wpM_regionK [0,3,4] rfl fun Q1 hQ1 => ?_
    simp -implicitDefEqProofs (disch := omega) only [go_sem, hfl, hfs]
    refine call_p (toTrans_ok (l.getD i0 default) (by omega)) Tryz.call81 rfl rfl rfl (by first | rfl | (simp -implicitDefEqProofs (disch := omega) only [go_sem] <;> rfl)) ?_
    simp -implicitDefEqProofs (disch := omega) only [go_sem, hfl, hfs]
    refine hQ1 _ _ (S_ ?_);clear hQ1 Q1
    refine g_ [0,3,4] ?_
    refine .of' _ _ ⟨n0 - 1, by omega, i0 + 1, _, by omega, M_, ?_, rfl⟩ L_ L_ L_
    first | trivial | omega
  refine n_ ?_
  have hie : i0 = l.length := by omega
  rw [hie, fillC_all]
  refine frzF Trn.cs 90 (by rw [cellsOf90]; decide) (fun _ => by rw [cellsOf90]; rfl) (fun _ => rfl) B l T_ 90 T_ ?_
  refine S_ ?_
  refine g_ [2] ?_
  refine e_ Tryz.results46 ?_
  first
  | exact True.intro
  | rfl
theorem toChart_ok (c : Cht) (hc : cz c ≤ 1048576) : PureF Tryz.prog 18 [.agg c.lcs] [.agg c.cs] := by
  have e1 : cz c = c.ts.length + (c.ts.map tz).sum + c.as'.length := rfl
  refine pureF_of Tryz.func18 rfl Tryz.ntmps18 (by simp) T_ ?_
  intro f0 B Q hQ
  refine g_ [1,2] ?_
  refine g_ [1,2,3] ?_
  refine g_ [1,2,3] ?_
  refine n_ ?_
  refine wpM_regionK [1,2,3] rfl fun Q1 hQ1 => ?_
  refine S_ ?_
  refine cp_ (toTransS_ok c.ts (by omega)) Tryz.call46 ?_
  refine hQ1 _ _ (S_ ?_);clear hQ1 Q1
  refine n_ ?_
  refine wpM_regionK [2,3] rfl fun Q1 hQ1 => ?_
  refine S_ ?_
  refine cp_ (toActS_ok c.as' (by omega)) Tryz.call47 ?_
  refine hQ1 _ _ (S_ ?_);clear hQ1 Q1
  refine g_ [2] ?_
  exact e_ Tryz.results18 True.intro
end Go.Proofs.YtnmfmeehmieifaaGreatDoor
namespace Go.Proofs.YtnmfmeehmieifaaGreatDoor
open Go Sg
set_option maxRecDepth 100000
set_option linter.unusedSimpArgs false
set_option linter.unusedVariables false
set_option linter.unusedSectionVars false
set_option maxHeartbeats 4000000
variable [TabK]
def chW (c : Cht) : ByteArray := if c.ok = true then chS c else ⟨#[]⟩
theorem ichW_ok (c : Cht) (hc : c.Sm) : PureF Tryz.prog 19 [.agg c.cs] [.str (chW c)] := by
  unfold chW
  by_cases h : c.ok = true
  · rw [if_pos h]; exact chartText_ok c hc h
  · rw [if_neg h]; exact ichartNo_ok c hc (by simpa using h)
theorem schW_ok (c : Cht) (hc : c.Sm) : PureF Tryz.prog 17 [.agg c.cs] [.str (chW c)] := by
  unfold chW
  by_cases h : c.ok = true
  · rw [if_pos h]; exact schartText_ok c hc h
  · rw [if_neg h]; exact schartNo_ok c hc (by simpa using h)
@[go_sem] theorem neqSt (t : TypeId) (x y : Operand) (a b : ByteArray) : binOpA Tryz.prog .neq t x y (.str a) (.str b) = some (.bool (!(a.toList == b.toList))) := rfl
theorem lawText_ok (c : Cht) (hc : c.Len) : PureF Tryz.prog 4 [.agg c.lcs] [.bool true] := by
  refine pureF_of Tryz.func4 rfl Tryz.ntmps4 (by simp) T_ ?_
  intro f0 B Q hQ
  refine g_ [1] ?_
  refine g_ [1,3] ?_
  refine n_ ?_
  refine wpM_regionK [1,3] rfl fun Q1 hQ1 => ?_
  refine S_ ?_
  refine cp_ (szChart_ok c hc 1048576 (by omega) (by omega)) Tryz.call16 ?_
  refine hQ1 _ _ (S_ ?_);clear hQ1 Q1
  refine g_ [1,11] ?_
  refine c_ (fun hc0 => ?_) fun hc0 => ?_
  ·
    refine g_ [2] ?_
    exact e_ Tryz.results4 True.intro
  have hp := (szR_pos hc0).1
  have hz : cz c ≤ 1048576 := by omega
  have hS := cz_Sm hz
  refine n_ ?_
  refine wpM_regionK [1,4] rfl fun Q1 hQ1 => ?_
  refine S_ ?_
  refine cp_ (toChart_ok c hz) Tryz.call18 ?_
  refine cp_ (schW_ok c hS) Tryz.call17 ?_
  refine hQ1 _ _ (S_ ?_);clear hQ1 Q1
  refine n_ ?_
  refine wpM_regionK [1,4,5] rfl fun Q1 hQ1 => ?_
  refine S_ ?_
  refine cp_ (toChart_ok c hz) Tryz.call18 ?_
  refine hQ1 _ _ (S_ ?_);clear hQ1 Q1
  refine n_ ?_
  refine wpM_regionK [1,4,5,6] rfl fun Q1 hQ1 => ?_
  refine S_ ?_
  refine cp_ (ichW_ok c hS) Tryz.call19 ?_
  refine hQ1 _ _ (S_ ?_);clear hQ1 Q1
  refine g_ [1,5,21] ?_
  refine c_ (fun hc1 => ?_) fun hc1 => ?_
  · exfalso; simp at hc1
  refine n_ ?_
  refine dr_ mixed [26] 0 2 [B, B + 1] [⟨[5],[1],[],[],false⟩,⟨[1],[0],[],[],false⟩,⟨[23],[],[],[],true⟩,⟨[22,24],[],[],[],true⟩,⟨[25],[],[],[],false⟩] [0,1,2,3,4] [[],[],[1],[0,1,2],[0,1,2,3]] 2 ?_
  intro O A K hO hA hK;simp only [atL_cons,atL_nil,Nat.reduceAdd,Nat.zero_add] at hO hA
  refine SO_ ?_
  refine lp_ (toChart_ok c hz) Tryz.call18 ?_
  refine lp_ (eqChart_ok c c hS) Tryz.call20 ?_
  refine hK _ (S_ ?_);clear hK K hO hA O A
  refine c_ (fun hc2 => ?_) fun hc2 => ?_
  · exfalso; rw [same_self] at hc2; simp at hc2
  refine g_ [2] ?_
  exact e_ Tryz.results4 True.intro
end Go.Proofs.YtnmfmeehmieifaaGreatDoor
namespace Go.Proofs.YtnmfmeehmieifaaGreatDoor
open Go Sg Go.ChangeShapes Go.WideShapes Go.ChangeAt Go.RowKit
set_option linter.unusedVariables false
set_option maxRecDepth 100000
theorem Tryz.own : ownKnob Tryz.prog.godebug = none := by kernel_rfl
theorem Tryz.laidOut : laidOutB Tryz.prog = true := by kernel_rfl
def laidC : List (String × DataW Unit) := [("math/bits.deBruijn32tab", Rows.laid_math_bits_deBruijn32tab), ("math/bits.deBruijn64tab", Rows.laid_math_bits_deBruijn64tab), ("internal/strconv.uint64pow10", Rows.laid_internal_strconv_uint64pow10)]
theorem Tryz.gPow : Tryz.prog.globalNamed "internal/strconv.uint64pow10" = some 1 := by kernel_rfl
theorem Tryz.gPowT : (Tryz.prog.globals[1]?).map (·.type) = some 211 := by kernel_rfl
theorem Tryz.cellsU64 : Tryz.prog.cellsOf 203 = 1 := by kernel_rfl
theorem Tryz.cells20 : Tryz.prog.cellsOf 211 = 20 := by kernel_rfl
theorem powData : (Rows.laid_internal_strconv_uint64pow10 : DataW Unit) = Lib.tabData .u64 Lib.pow10Tab := by
  unfold Rows.laid_internal_strconv_uint64pow10 Lib.tabData Lib.pow10Tab
  rfl
theorem pow_of_laid {W : World} (h : laidMet Tryz.prog laidC W) : Lib.TabIs Tryz.prog W "internal/strconv.uint64pow10" .u64 Lib.pow10Tab := by
  obtain ⟨ps, ⟨g0, t0, cs0, f0, p0, q0, _, _, _, _, ⟨g1, t1, cs1, f1, p1, q1, _, _, _, _, ⟨g', t', cs, fuel, p, q, hg', ht', hvar, hd, _, _⟩, _⟩, _⟩, _⟩ := h
  obtain rfl := Option.some.inj (Tryz.gPow.symm.trans hg')
  obtain rfl := Option.some.inj (Tryz.gPowT.symm.trans ht')
  unfold Lib.TabIs
  rw [powData] at hd
  rw [hvar, ← Lib.cells_of_tab Tryz.underlying211 Tryz.underlying203 Tryz.cellsU64 Tryz.cells20 hd]
def rowOf : DataW Unit → Array Value
  | .agg l => (l.map fun d => match d with
    | .lit (.int k n) => Value.int k n
    | _ => .int .i64 0).toArray
  | _ => #[]
noncomputable def laidWorldC (os : Os) : World :=
  let w0 := World.holding Tryz.prog os ⟨#[], #[], []⟩
  let put (r : Array Value) : Obj → Obj := fun
      | .cells _ t frozen => .cells r t frozen
      | o => o
  { w0 with heap := ((w0.heap.modify 3 (put (rowOf Rows.laid_math_bits_deBruijn32tab))).modify 4 (put (rowOf Rows.laid_math_bits_deBruijn64tab))).modify 1 (put (rowOf Rows.laid_internal_strconv_uint64pow10)) }
theorem laidWorldC_met (os : Os) (args : Array Value) : laidMet Tryz.prog laidC ((laidWorldC os).forCall (fun _ _ => 0) ⟨#[], args, []⟩).memory :=
  laidMet_of_run3 8 (by kernel_rfl) (by kernel_rfl) (by kernel_rfl)
abbrev tabC : TabK := { tab := fun i => if i = 1 then some (Lib.pow10Tab.map (.int .u64)) else none, pw := Lib.pow10Tab, hlen := Lib.pow10Tab_length, tab0 := by simp, pow := rfl }
theorem tabC_ok {W : World} (h : Lib.TabIs Tryz.prog W "internal/strconv.uint64pow10" .u64 Lib.pow10Tab) : @GlobOk tabC.toTab.toGlob Tryz.prog (ghOf W) := by
  intro i cs hi
  have hi' : (if i = 1 then some (Lib.pow10Tab.map (PV.int .u64)) else none) = some cs := hi
  split at hi'
  · rename_i hi0
    subst hi0
    injection hi' with hi'
    subst hi'
    unfold Lib.TabIs World.var? at h
    rw [Tryz.gPow] at h
    simp only [Option.bind_some] at h
    split at h
    · rename_i c t fr hb
      injection h with h
      subst h
      refine ⟨?_, _, _, _, hb, by simp⟩
      have hp : PV.pureL (Lib.pow10Tab.map (PV.int .u64)) = true := (pureL_iff _).2 fun x hx => by
        obtain ⟨n, _, rfl⟩ := List.mem_map.1 hx
        rfl
      refine .vptr _ _ _ _ t fr hb (by simp) hp fun j hj => ?_
      have hj' : j < Lib.pow10Tab.length := by simpa using hj
      have e : ((Lib.pow10Tab.map fun z => Value.int .u64 z).toArray).getD (0 + j) undef = .int .u64 Lib.pow10Tab[j] := by
        rw [Nat.zero_add, Array.getD_eq_getD_getElem?]
        simp [hj']
      rw [e, List.getElem_map]
      exact .int _ _
    · cases h
  · cases hi'
end Go.Proofs.YtnmfmeehmieifaaGreatDoor
namespace Go.Proofs.YtnmfmeehmieifaaGreatDoor
open Go Sg Go.WideShapes
set_option linter.unusedVariables false
set_option linter.unusedSectionVars false
variable [Glob]
theorem lies_agg {W : World} {ps : List PV} {cs : Array Value} (h : Lies Tryz.prog W ps cs.toList) : R Tryz.prog (ghOf W) (.agg ps) (.agg cs) := by
  refine .agg _ _ (by simpa using h.1.symm) fun j hj => ?_
  have := h.2 j hj
  rwa [List.getD_eq_getElem?_getD, Array.getElem?_toList, ← Array.getD_eq_getD_getElem?] at this
set_option maxRecDepth 100000 in
theorem open_chtA {H : Type} {enc : TypeId × Value → H} {W : World} {base : Nat} {v : Value} {d : DataW H} {ps : List MemPlace} (hval : Value.okWide Tryz.prog W .any base 42 v) (h : DataW.Trod enc Tryz.prog W 0 (fun _ => true) true 42 v d ps) : ∃ c : Cht, c.Len ∧ R Tryz.prog (ghOf W) (.agg c.lcs) v := by
  obtain ⟨cs, rfl, _⟩ := okWide_struct Tryz.underlying42 hval
  obtain ⟨fuel, hf⟩ := h
  obtain ⟨c, hc, hl⟩ := open_cht hf
  exact ⟨c, hc, lies_agg hl⟩
end Go.Proofs.YtnmfmeehmieifaaGreatDoor
namespace Go.Proofs.YtnmfmeehmieifaaGreatDoor
open Go Sg Go.ChangeShapes Go.WideShapes Go.ChangeAt Go.RowKit
set_option linter.unusedVariables false
set_option maxRecDepth 100000 in
theorem fnExactChartText_lifted (os : Os) (started : os.Started) (H : Type) (enc : TypeId × Value → H) :
    ReturnsInHanded {} Tryz.checked os 4 .any (fun w args => (Rows.fnExactChartTextSpec.pre enc Tryz.prog Tryz.f4 Rows.fnExactChartTextRow.domain false w args ∧ laidMet Tryz.prog laidC w) ∧ sizedMet enc Tryz.prog Tryz.f4 (OpenSpec.ofChange Rows.fnExactChartTextSpec) false w args) (Rows.fnExactChartTextSpec.post enc Tryz.prog Tryz.f4 false true false false) := by
  refine returnsInHanded_of_change_and (C := Tryz.checked) (X := fun w _ => laidMet Tryz.prog laidC w) (fun _ _ _ hh h => h.of_heap hh) Tryz.own started (by kernel_rfl) Tryz.func4
    (ChangeSpec.witness_at (enc := enc) (C := Tryz.checked) (os := os) (X := fun w _ => laidMet Tryz.prog laidC w) false (laidWorldC os) #[.agg #[.int .i64 0, .slice none 0 0, .slice none 0 0]] 8 rfl (by kernel_rfl) (by kernel_rfl) (by kernel_rfl) (by kernel_rfl) (by kernel_rfl) (laidWorldC_met os _)) ?_
  intro W base args ds gs before hval0 hW hcnd _ hL _
  have hval : ∀ (j : Nat) t v, Tryz.f4.params[j]? = some t → args[j]? = some v → Value.okWide Tryz.prog W .any base t v := hval0
  have hW' := hW
  obtain ⟨p, q, hA0, hV0, rfl, hfz, hnd⟩ := hW
  have hA : DataW.TrodAll enc Tryz.prog W 0 (fun _ => true) true Tryz.f4.params.toList args.toList ds p := hA0
  rw [Tryz.params4] at hA hval
  obtain ⟨v0, vs0, d0, ds0, p0, q0, hargs, rfl, rfl, h0, r0⟩ := trodAll_cons hA
  obtain ⟨rfl, rfl, rfl⟩ := trodAll_nil r0
  obtain rfl : args = #[v0] := by cases args; simp_all
  have htab := pow_of_laid hL
  obtain ⟨rfl, rfl⟩ := trodVars_none hV0
  clear hA0 hV0 hval0
  have hlt : ∀ x ∈ (p0 ++ []), x.block < W.heap.size := fun x hx => by simpa using hW'.lt x (by simpa using hx)
  letI : TabK := tabC
  obtain ⟨c, hc, hr⟩ := open_chtA (hval 0 42 v0 rfl rfl) h0
  refine (top_calls (W := W) (args := [.agg c.lcs]) (tabC_ok htab) ⟨rfl, fun j hj => ?_⟩ (lawText_ok c hc)).mono fun e W' ⟨he, hb⟩ => ?_
  · match j, hj with
    | 0, _ => exact hr
  subst he
  exact ⟨_, rfl, _, _, _, [], (p0 ++ []), [], hW', trodAll_cons_mk (shut_bool Tryz.underlying4 _) trodAll_mk0, (trodAll_cons_mk (WideElems.Trod_stays Tryz.laidOut (by kernel_rfl) (of_decide_eq_true (by kernel_rfl)) h0 (fun x hx => hb.same (hlt x (by simp [hx]))) (fun x hx => by simpa using hlt x (by simp [hx]))) trodAll_mk0), rfl, hb.frame _, fun h => by cases h⟩
theorem fnExactChartText_holds : Rows.FnExactChartTextSaid :=
  OpenClaim.holds_of_wide 4 Tryz.f4 rfl rfl rfl rfl rfl rfl rfl ⟨rfl, rfl, rfl, rfl, rfl⟩ rfl rfl rfl rfl rfl (by kernel_rfl) Tryz.func4 (by kernel_rfl)
    (of_decide_eq_true (by kernel_rfl)) (by unfold Func.isWrapper; first | (rw [if_pos (by decide +kernel)]; kernel_rfl) | (rw [if_neg (by decide +kernel)]; exact ⟨rfl, rfl⟩))
    (fun os started H enc _ => fnExactChartText_lifted os started H enc)
set_option maxRecDepth 100000 in
theorem fnExactChartText_card_holds : Rows.FnExactChartTextCardSaid :=
  Claim7.holds_tied_plain_at .later [] [.data, .data, .data] true (true, "2c88a20b7af8686071592e7f9324e4341b924566ea0c08009cd127e915ce4aad") true
    fnExactChartText_holds (fun _ h => by cases h) (by kernel_rfl) (fun _ h => by cases h) fnExactChartText_row_tie rfl ⟨rfl, rfl⟩ (by kernel_rfl) rfl
    (fun f fn hf hfn => by
      obtain rfl : f = 4 := Option.some.inj ((show Tryz.prog.funcNamed "loop.example/stopgate/laws.FnExactChartText" = some 4 by kernel_rfl).symm.trans hf) |>.symm
      obtain rfl : fn = Tryz.f4 := (Option.some.inj (Tryz.func4.symm.trans hfn)).symm
      exact ⟨by kernel_rfl, fun j t ht => by
        rw [Tryz.params4] at ht
        have h3 : t = 42 := by
          rcases j with _ | j
          · simpa using ht.symm
          · simp at ht
        subst h3
        exact (show Tryz.prog.wantsStandIn 42 = false by kernel_rfl)⟩)
    (by kernel_rfl)
end Go.Proofs.YtnmfmeehmieifaaGreatDoor
