/- What is proved: FnExactStmtsRunCard: for every input the law returns true, and its arguments read as before. Conditions: none but the statement's own. -/
import Derived.Test.YtnmfmeehmieifaaGreatDoorX18641bcb8b
import Derived.ProofKit
import Derived.OpenShut
import Derived.ChangeArms
import Derived.WideShapes
import Derived.Test.YtnmfmeehmieifaaGreatDoorRows
import Derived.ChangeVars
import Derived.RowKitTokens
import Derived.LaidLaws
import Derived.WalkSmall
import Derived.Test.YtnmfmeehmieifaaGreatDoorTie
import Derived.Test.YtnmfmeehmieifaaGreatDoorCards
set_option linter.unusedSectionVars false
set_option linter.unusedSimpArgs false
set_option linter.unusedVariables false
namespace Sg
open Go Go.ChangeShapes Go.WideShapes Go.ChangeAt Go.RowKit
set_option linter.unusedSectionVars false
variable [Glob]
def ghOf (W : World) : Gh := { io := fun _ => none, H := fun b => W.heap[b]? }
theorem top_calls {P : Program} {f : FuncId} {W : World} {vals : Array Value} {args : List PV} (hg : GlobOk P (ghOf W)) (hv : RL P (ghOf W) args vals) (hc : PureF P f args [.bool true]) :
    Calls P f vals W (fun e W' => e = .returned (.bool true) ∧ Below W.heap.size W W') := by
  rw [← callsIn_wide, ← Fe_none]
  have hi : Inv P (ghOf W) { f := fun _ => none, fr := fun _ => True } W :=
    ⟨fun _ _ h => h, fun i o h => (by cases h), fun i j o o' e e' h => (by cases h), fun i o e h => (by cases h), fun _ _ => rfl, hg⟩
  refine (hc _ [] ⟨0, fun _ _ => trivial⟩ (fun i o h => by simp [lk] at h) rfl List.nodup_nil (fun n hn => by simp at hn) (ghOf W) W vals hv hi).mono ?_
  rintro e w' ⟨g', out, k1, k2, k3, k4, rfl, k6⟩
  refine ⟨?_, ⟨k2.os, k2.tape, k2.output, k2.size, fun k hk => ?_⟩⟩
  · cases e with
    | returned v => cases k6; rfl
    | panicked ch => exact k6.elim
    | outgrown => exact k6.elim
  · have h1 : W.heap[k]? = some W.heap[k] := by rw [Array.getElem?_eq_getElem hk]
    rw [h1]
    exact k3.hH k _ (k1.H k _ h1)
section
variable {H : Type} {enc : TypeId × Value → H} {P : Program}
end
end Sg
namespace Sg
open Go Go.ChangeShapes Go.WideShapes Go.ChangeAt Go.RowKit
set_option linter.unusedSectionVars false
section
variable {H : Type} {enc : TypeId × Value → H} {P : Program}
theorem list_of {X : Type} [Inhabited X] {p : Nat → X → Prop} : ∀ n, (∀ i, i < n → ∃ y, p i y) → ∃ l : List X, l.length = n ∧ ∀ i, i < n → p i (l.getD i default)
  | 0, _ => ⟨[], rfl, fun i h => by omega⟩
  | n + 1, h => by
    obtain ⟨l, hl, hp⟩ := list_of n fun i hi => h i (by omega)
    obtain ⟨y, hy⟩ := h n (by omega)
    refine ⟨l ++ [y], by simp [hl], fun i hi => ?_⟩
    by_cases hin : i < n
    · have := hp i hin
      simpa [List.getD, List.getElem?_append_left (show i < l.length by omega)] using this
    · have : i = n := by omega
      subst this
      simpa [List.getD, ← hl] using hy
theorem cells_of {W : World} {ab ao n base : Nat} {spot : Option Nat} {cs : List Value} (h : W.cells? base ⟨ab, ao, spot⟩ n = some cs) (hn : 0 < n) : spot = none ∧ ∃ arr T fr, W.heap[ab]? = some (.cells arr T fr) ∧ cs.length = n ∧ ∀ j, j < n → arr[ao + j]? = cs[j]? := by
  unfold World.cells? at h
  split at h
  · have hl : cs.length = n := by simpa using mapM_some_length h
    have hg : ∀ j, j < n → W.cell? ((⟨ab, ao, spot⟩ : Addr).add j) = cs[j]? := fun j hj => mapM_some_get h j j (by simp [hj])
    have h0 := hg 0 hn
    rw [List.getElem?_eq_getElem (by omega)] at h0
    have hs : spot = none := by simpa [Addr.add] using World.cell?_spot h0
    subst hs
    refine ⟨rfl, ?_⟩
    rw [Addr.add_lit] at h0
    obtain ⟨arr, T, fr, hW⟩ : ∃ arr T fr, W.heap[ab]? = some (.cells arr T fr) := by
      unfold World.cell? at h0
      simp only at h0
      split at h0
      · exact ⟨_, _, _, by assumption⟩
      · cases h0
    refine ⟨arr, T, fr, hW, hl, fun j hj => ?_⟩
    have := hg j hj
    rw [Addr.add_lit] at this
    unfold World.cell? at this
    simpa [hW] using this
  · cases h
variable [Glob]
def Lies (P : Program) (W : World) (ps : List PV) (cs : List Value) : Prop := ps.length = cs.length ∧ ∀ j (hj : j < ps.length), R P (ghOf W) ps[j] (cs.getD j undef)
theorem open_slice {W : World} {base : Nat} {spare : Nat → Bool} {held : Bool} {t e : TypeId} (ht : P.underlying t = some (.slice e)) (hes : 0 < P.cellsOf e) {X : Type} [Inhabited X] (csX : X → List PV) (G : X → Prop) {fuel : Nat}
    (hl : ∀ x, (csX x).length = P.cellsOf e) (hp : ∀ x, PV.pureL (csX x) = true) (hc : ∀ x, ∀ y ∈ csX x, y.cell = true)
    (hX : ∀ n cs x, n < fuel → DataW.trod enc P W base spare held n e cs = some x → ∃ y, G y ∧ Lies P W (csX y) cs)
    {cs : List Value} {x : DataW H × List MemPlace} (h : DataW.trod enc P W base spare held fuel t cs = some x) : ∃ l : List X, (∀ i, i < l.length → G (l.getD i default)) ∧ l.length ≤ maxLen ∧ Lies P W [.rows e (l.map csX)] cs := by
  rcases DataW.trod_slice ht h with ⟨rfl, _⟩ | ⟨a, len, cap, elems, rest, n, hf, rfl, _, hb, hlc, hcm, hel, hE, _, _⟩
  · exact ⟨[], fun i h => by simp at h, by simp, rfl, fun j hj => by
      have : j = 0 := by simpa using hj
      subst this; exact .rows0 e none 0⟩
  · obtain ⟨ab, ao, spot⟩ := a
    by_cases h0 : len = 0
    · subst h0
      exact ⟨[], fun i h => by simp at h, by simp, rfl, fun j hj => by
        have : j = 0 := by simpa using hj
        subst this; exact .rows0 e _ cap⟩
    have key : ∀ i, i < len → ∃ y cs', W.cells? base ((⟨ab, ao, spot⟩ : Addr).add (i * P.cellsOf e)) (P.cellsOf e) = some cs' ∧ G y ∧ Lies P W (csX y) cs' := by
      intro i hi
      have := hE i hi
      rw [List.getElem?_eq_getElem (by omega), Option.bind_eq_some_iff] at this
      obtain ⟨cs', h1, h2⟩ := this
      obtain ⟨y, hg, hr⟩ := hX n cs' _ (by omega) h2
      exact ⟨y, cs', h1, hg, hr⟩
    obtain ⟨l, hll, hlp⟩ := list_of (p := fun i y => ∃ cs', W.cells? base ((⟨ab, ao, spot⟩ : Addr).add (i * P.cellsOf e)) (P.cellsOf e) = some cs' ∧ G y ∧ Lies P W (csX y) cs') len key
    obtain ⟨cs0, hc0, _, _⟩ := hlp 0 (by omega)
    have hs : spot = none := by
      have : (⟨ab, ao, spot⟩ : Addr).add (0 * P.cellsOf e) = ⟨ab, ao, spot⟩ := by simp [Addr.add]
      rw [this] at hc0
      exact (cells_of hc0 hes).1
    subst hs
    have hcell : ∀ i, i < len → ∃ arr T fr cs', W.heap[ab]? = some (.cells arr T fr) ∧ (∀ j, j < P.cellsOf e → arr[ao + i * P.cellsOf e + j]? = cs'[j]?) ∧ cs'.length = P.cellsOf e ∧ Lies P W (csX (l.getD i default)) cs' := by
      intro i hi
      obtain ⟨cs', h1, _, h2⟩ := hlp i hi
      have : (⟨ab, ao, none⟩ : Addr).add (i * P.cellsOf e) = ⟨ab, ao + i * P.cellsOf e, none⟩ := by rw [Addr.add_lit]
      rw [this] at h1
      obtain ⟨_, arr, T, fr, g1, g2, g3⟩ := cells_of h1 hes
      exact ⟨arr, T, fr, cs', g1, g3, g2, h2⟩
    obtain ⟨arr, T, fr, _, hW, _, _, _⟩ := hcell 0 (by omega)
    have hcell' : ∀ i, i < len → ∃ cs' : List Value, (∀ j, j < P.cellsOf e → arr[ao + i * P.cellsOf e + j]? = cs'[j]?) ∧ cs'.length = P.cellsOf e ∧ Lies P W (csX (l.getD i default)) cs' := by
      intro i hi
      obtain ⟨arr', T', fr', cs', g1, g2, g3, g4⟩ := hcell i hi
      rw [hW] at g1
      injection g1 with g1
      injection g1 with g1 _ _
      subst g1
      exact ⟨cs', g2, g3, g4⟩
    have hsz : ao + len * P.cellsOf e ≤ arr.size := by
      obtain ⟨cs', g1, g2, _⟩ := hcell' (len - 1) (by omega)
      have := g1 (P.cellsOf e - 1) (by omega)
      rw [List.getElem?_eq_getElem (by omega)] at this
      have := (Array.getElem?_eq_some_iff.1 this).1
      have e1 : (len - 1) * P.cellsOf e + P.cellsOf e = len * P.cellsOf e := by
        rw [← Nat.succ_mul]; congr 1; omega
      omega
    refine ⟨l, fun i hi => (hlp i (by omega)).choose_spec.2.1, by omega, rfl, fun j hj => ?_⟩
    have : j = 0 := by simpa using hj
    subst this
    have key := R.rows (P := P) (g := ghOf W) e (l.map csX) ab ao cap arr T fr hW hes (by rw [List.length_map]; omega) (by rw [List.length_map, hll]; exact hsz)
      (fun c hc' => by obtain ⟨y, _, rfl⟩ := List.mem_map.1 hc'; exact hl y)
      (fun c hc' => by obtain ⟨y, _, rfl⟩ := List.mem_map.1 hc'; exact hp y)
      (fun c hc' => by obtain ⟨y, _, rfl⟩ := List.mem_map.1 hc'; exact hc y)
      (fun i j hi hj => by
        have hi' : i < len := by rw [List.length_map] at hi; omega
        obtain ⟨cs', g1, g2, g3⟩ := hcell' i hi'
        have e0 : (l.map csX)[i] = csX (l.getD i default) := by simp [List.getD, show i < l.length by omega]
        have hj' : j < (csX (l.getD i default)).length := by rw [← e0]; exact hj
        have := g3.2 j hj'
        have e1 : (l.map csX)[i][j] = (csX (l.getD i default))[j] := by simp only [e0]
        rw [e1]
        have e2 : arr.getD (ao + i * P.cellsOf e + j) undef = cs'.getD j undef := by
          rw [Array.getD_eq_getD_getElem?, g1 j (by rw [← hl (l.getD i default)]; exact hj'), List.getD_eq_getElem?_getD]
        rw [e2]; exact this)
    rw [List.length_map, hll] at key
    exact key
theorem open_int {W : World} {base : Nat} {spare : Nat → Bool} {held : Bool} {t : TypeId} {k : IntKind} (ht : P.underlying t = some (.int k)) {fuel : Nat} {cs : List Value} {x : DataW H × List MemPlace} (h : DataW.trod enc P W base spare held fuel t cs = some x) :
    ∃ n, cs = [.int k n] ∧ (Lit.int k n).wf = true := by
  obtain ⟨n, h1, _, h2⟩ := DataW.trod_int ht h
  exact ⟨n, h1, h2⟩
end
end Sg
namespace Go.Proofs.YtnmfmeehmieifaaGreatDoor
open Go Sg
set_option maxRecDepth 100000
set_option linter.unusedSimpArgs false
set_option linter.unusedVariables false
set_option linter.unusedSectionVars false
set_option maxHeartbeats 4000000
variable [Glob]
mutual
def Ex.lcs : Ex → List PV
  | .mk k n a l => [.int .i64 k, .int .i64 n, .int .i64 a.kind, .int .i64 a.at', .rows 58 (Ex.lcsL l)]
def Ex.lcsL : List Ex → List (List PV)
  | [] => []
  | e :: l => e.lcs :: Ex.lcsL l
end
@[go_sem] theorem Ex.lcs_eq (e : Ex) : e.lcs = [.int .i64 e.kind, .int .i64 e.n, .int .i64 e.a.kind, .int .i64 e.a.at', .rows 58 (Ex.lcsL e.kids)] := by cases e; simp only [Ex.lcs, Ex.kind, Ex.n, Ex.a, Ex.kids]
theorem Ex.lcsL_map (l : List Ex) : Ex.lcsL l = l.map Ex.lcs := by
  induction l with
  | nil => rfl
  | cons e l ih => simp [Ex.lcsL, ih]
@[go_sem] theorem Ex.lcsL_len (l : List Ex) : (Ex.lcsL l).length = l.length := by simp [Ex.lcsL_map]
@[go_sem] theorem Ex.lcsL_get (l : List Ex) (k : Nat) (h : k < l.length) : (Ex.lcsL l).getD k [] = (l.getD k default).lcs := by simp [Ex.lcsL_map, List.getD, h]
def Trn.lcs (t : Trn) : List PV := [.rows 3 (rowsI t.fr), .rows 3 (rowsI t.to'), .int .i64 t.w.kind, .int .i64 t.w.n, .int .i64 t.w.a.kind, .int .i64 t.w.a.at', .rows 58 (Ex.lcsL t.w.kids)]
@[go_sem] theorem Trn.lcs_eq (t : Trn) : t.lcs = [.rows 3 (rowsI t.fr), .rows 3 (rowsI t.to'), .int .i64 t.w.kind, .int .i64 t.w.n, .int .i64 t.w.a.kind, .int .i64 t.w.a.at', .rows 58 (Ex.lcsL t.w.kids)] := rfl
def rowsLT (l : List Trn) : List (List PV) := l.map Trn.lcs
def Cht.lcs (c : Cht) : List PV := [.int .i64 c.steps, .rows 131 (rowsLT c.ts), .rows 139 (rowsA c.as')]
@[go_sem] theorem Cht.lcs_eq (c : Cht) : c.lcs = [.int .i64 c.steps, .rows 131 (rowsLT c.ts), .rows 139 (rowsA c.as')] := rfl
mutual
def Ex.Len : Ex → Prop | .mk _ _ _ l => l.length ≤ maxLen ∧ Ex.LenL l
def Ex.LenL : List Ex → Prop
  | [] => True
  | e :: l => e.Len ∧ Ex.LenL l
end
theorem Ex.LenL_iff (l : List Ex) : Ex.LenL l ↔ ∀ e ∈ l, e.Len := by
  induction l with
  | nil => simp [Ex.LenL]
  | cons e l ih => simp [Ex.LenL, ih]
section
variable {H : Type} {enc : TypeId × Value → H} {W : World} {base : Nat} {spare : Nat → Bool} {held : Bool}
theorem open_ad {fuel : Nat} {cs : List Value} {x : DataW H × List MemPlace} (h : DataW.trod enc Tryz.prog W base spare held fuel 55 cs = some x) : ∃ a : AD, cs = [.int .i64 a.kind, .int .i64 a.at'] := by
  obtain ⟨xs, n, hf, hx, hl, hxs, hfs⟩ := DataW.trod_struct Tryz.underlying55 h
  rw [cellsOf55] at hl
  match cs, hl with
  | [c0, c1], _ =>
    have h0 := hfs 0 _ rfl
    have h1 := hfs 1 _ rfl
    have l0 : (0 : Nat) < xs.length := by rw [hxs]; decide
    have l1 : (1 : Nat) < xs.length := by rw [hxs]; decide
    rw [List.getElem?_eq_getElem l0] at h0
    rw [List.getElem?_eq_getElem l1] at h1
    obtain ⟨a, ha, _⟩ := open_int Tryz.underlying3 h0
    obtain ⟨b, hb, _⟩ := open_int Tryz.underlying3 h1
    simp [cellsOf3] at ha hb
    exact ⟨⟨a, b⟩, by rw [ha, hb]⟩
theorem lcs_pure (e : Ex) : PV.pureL e.lcs = true := by rw [Ex.lcs_eq]; rfl
theorem lcs_cell (e : Ex) : ∀ y ∈ e.lcs, y.cell = true := by
  rw [Ex.lcs_eq]
  intro y hy
  simp only [List.mem_cons, List.not_mem_nil, or_false] at hy
  rcases hy with rfl | rfl | rfl | rfl | rfl <;> rfl
theorem open_ex : ∀ (fuel : Nat) (cs : List Value) (x : DataW H × List MemPlace), DataW.trod enc Tryz.prog W base spare held fuel 58 cs = some x → ∃ e : Ex, e.Len ∧ Lies Tryz.prog W e.lcs cs := by
  intro fuel
  induction fuel using Nat.strongRecOn with
  | _ fuel ih =>
    intro cs x h
    obtain ⟨xs, n, hf, hx, hl, hxs, hfs⟩ := DataW.trod_struct Tryz.underlying58 h
    rw [cellsOf58] at hl
    match cs, hl with
    | [c0, c1, c2, c3, c4], _ =>
      have h0 := hfs 0 _ rfl
      have h1 := hfs 1 _ rfl
      have h2 := hfs 2 _ rfl
      have h3 := hfs 3 _ rfl
      have l0 : (0 : Nat) < xs.length := by rw [hxs]; decide
      have l1 : (1 : Nat) < xs.length := by rw [hxs]; decide
      have l2 : (2 : Nat) < xs.length := by rw [hxs]; decide
      have l3 : (3 : Nat) < xs.length := by rw [hxs]; decide
      rw [List.getElem?_eq_getElem l0] at h0
      rw [List.getElem?_eq_getElem l1] at h1
      rw [List.getElem?_eq_getElem l2] at h2
      rw [List.getElem?_eq_getElem l3] at h3
      obtain ⟨k, hk, _⟩ := open_int Tryz.underlying3 h0
      obtain ⟨m, hm, _⟩ := open_int Tryz.underlying3 h1
      obtain ⟨a, ha⟩ := open_ad h2
      obtain ⟨l, hl1, hl2, hl3⟩ := open_slice Tryz.underlying56 (by rw [cellsOf58]; decide) Ex.lcs Ex.Len (fun e => by rw [cellsOf58, Ex.lcs_eq]; rfl) lcs_pure lcs_cell (fun j cs' x' hj h' => ih j (by omega) cs' x' h') h3
      simp [cellsOf3] at hk hm
      simp [cellsOf55] at ha
      simp [cellsOf56] at hl3
      obtain ⟨hl4, hl5⟩ := hl3
      refine ⟨.mk k m a l, ⟨hl2, (Ex.LenL_iff l).2 fun e he => ?_⟩, rfl, fun j hj => ?_⟩
      · obtain ⟨i, hi, rfl⟩ := List.getElem_of_mem he
        have := hl1 i hi
        simpa [List.getD, hi] using this
      · have hr := hl5 0 (by simp)
        match j, hj with
        | 0, _ => simp only [Ex.lcs, List.getElem_cons_zero]; rw [hk]; exact .int _ _
        | 1, _ => simp only [Ex.lcs]; rw [hm]; exact .int _ _
        | 2, _ => simp only [Ex.lcs]; rw [ha.1]; exact .int _ _
        | 3, _ => simp only [Ex.lcs]; rw [ha.2]; exact .int _ _
        | 4, _ => simp only [Ex.lcs, Ex.lcsL_map]; exact hr
end
end Go.Proofs.YtnmfmeehmieifaaGreatDoor
namespace Go.Proofs.YtnmfmeehmieifaaGreatDoor
open Go Sg
set_option maxRecDepth 100000
set_option linter.unusedSimpArgs false
set_option linter.unusedVariables false
set_option linter.unusedSectionVars false
set_option maxHeartbeats 4000000
variable [Glob]
section
variable {X : Type} [Inhabited X] (csX : X → List PV) (z : List PV)
def fillC (l : List X) (i : Nat) : List PV := ((l.take i).map csX).flatten ++ rep (l.length - i) z
theorem flat_len {w : Nat} (hw : ∀ x, (csX x).length = w) (l : List X) : ((l.map csX).flatten).length = l.length * w := by
  induction l with
  | nil => simp
  | cons x l ih => simp only [List.map_cons, List.flatten_cons, List.length_append, ih, hw, List.length_cons, Nat.succ_mul]; omega
theorem fillC_len {w : Nat} (hw : ∀ x, (csX x).length = w) (hz : z.length = w) (l : List X) (i : Nat) (h : i ≤ l.length) : (fillC csX z l i).length = l.length * w := by
  rw [fillC, List.length_append, flat_len csX hw, rep_length, hz, List.length_take, ← Nat.add_mul]
  congr 1; omega
theorem fillC_zero (l : List X) : fillC csX z l 0 = rep l.length z := by simp [fillC]
theorem fillC_all (l : List X) : fillC csX z l l.length = (l.map csX).flatten := by
  rw [fillC, List.take_of_length_le (Nat.le_refl _), Nat.sub_self, rep, List.replicate_zero, List.flatten_nil, List.append_nil]
theorem fillC_set {w : Nat} (hw : ∀ x, (csX x).length = w) (hz : z.length = w) (l : List X) (i : Nat) (h : i < l.length) : splice (fillC csX z l i) (i * w) (csX (l.getD i default)) = fillC csX z l (i + 1) := by
  have h1 : (((l.take i).map csX).flatten).length = i * w := by rw [flat_len csX hw, List.length_take, Nat.min_eq_left (by omega)]
  have h2 : rep (l.length - i) z = z ++ rep (l.length - (i + 1)) z := by
    rw [show l.length - i = l.length - (i + 1) + 1 from by omega, rep, List.replicate_succ, List.flatten_cons]; rfl
  rw [fillC, fillC, splice, h2, hw, List.take_succ_eq_append_getElem h, List.map_append, List.flatten_append]
  rw [List.take_append_of_le_length (by omega), List.take_of_length_le (by omega), List.drop_append, List.drop_of_length_le (by omega), h1, Nat.add_sub_cancel_left, ← hz, List.drop_left, List.nil_append]
  simp [List.getD, h]
theorem rowsOf_map {e : TypeId} (he : 0 < Tryz.prog.cellsOf e) (hw : ∀ x, (csX x).length = Tryz.prog.cellsOf e) (hp : ∀ x, PV.pureL (csX x) = true) {f : Nat → Option AObj} {id : Nat} {T : TypeId} {l : List X} (h : f id = some (.cells T ((l.map csX).flatten))) : RowsOf Tryz.prog f e id 0 l.length (l.map csX) := by
  refine ⟨he, by simp, ?_, T, _, h, ?_, ?_⟩
  · intro c hc
    obtain ⟨x, _, rfl⟩ := List.mem_map.1 hc
    exact ⟨hw x, hp x⟩
  · rw [flat_len csX hw]; omega
  · rw [List.drop_zero, List.take_of_length_le (by rw [flat_len csX hw]; omega)]
end
theorem frzF {r : Option Nat} {N : Nat} {c : Code} {s : MS} {Q : ExitA → MS → Prop} {X : Type} [Inhabited X] (csX : X → List PV) (e : TypeId) (he : 0 < Tryz.prog.cellsOf e) (hw : ∀ x, (csX x).length = Tryz.prog.cellsOf e) (hp : ∀ x, PV.pureL (csX x) = true) (x : Nat) (l : List X) (hx : s.B ≤ x) (T : TypeId) (h1 : s.f x = some (.cells T ((l.map csX).flatten)))
    (h : wpM Tryz.prog r N c (s.frz [x] [(e, x, 0, l.length, l.map csX)]) Q) : wpM Tryz.prog r N c s Q := by
  refine wpM_frz [x] _ (by intro q hq; simp at hq; subst hq; assumption) (by
      intro q hq
      simp only [List.mem_cons, List.not_mem_nil, or_false] at hq
      subst hq
      exact ⟨by simp, rowsOf_map csX he hw hp h1⟩) h
end Go.Proofs.YtnmfmeehmieifaaGreatDoor
namespace Go.Proofs.YtnmfmeehmieifaaGreatDoor
open Go Sg
set_option maxRecDepth 100000
set_option linter.unusedSimpArgs false
set_option linter.unusedVariables false
set_option linter.unusedSectionVars false
set_option maxHeartbeats 4000000
variable [Glob]
abbrev iC (n : Int) : List PV := [.int .i64 n]
theorem iC_zero (l : List Int) : ints (List.replicate l.length 0) = fillC iC [.int .i64 0] l 0 := by rw [fillC_zero, rep_ints]
theorem iC_set (l : List Int) (i : Nat) (h : i < l.length) : splice (fillC iC [.int .i64 0] l i) i [.int .i64 (l.getD i 0)] = fillC iC [.int .i64 0] l (i + 1) := by
  have := fillC_set iC [.int .i64 0] (w := 1) (fun _ => rfl) rfl l i h
  rw [Nat.mul_one] at this
  exact this
theorem toInt_ok (l : List Int) (hl : l.length ≤ 1048576) : PureF Tryz.prog 27 [.rows 3 (rowsI l)] [.rows 3 (rowsI l)] := by
  refine pureF_of Tryz.func27 rfl Tryz.ntmps27 (by simp) T_ ?_
  intro f0 B Q hQ
  refine g_ [0] ?_
  refine g_ [0,3] ?_
  rw [iC_zero]
  refine g_ [0,3,4] ?_
  refine n_ ?_
  refine wpM_loopS (fun s n s' => ∃ (i0 M0 : Nat) , i0 + n = l.length ∧ s.M ≤ M0 ∧ (Tr i0) ∧ s' = { s with env := setE 4 (.int .i64 (i0 : Nat)) s.env, l := [(B, .cells 3 (fillC iC [.int .i64 0] l i0))], M := M0 }) (l.length) ?_ ?_
  ·
    refine .of' _ _ ⟨0, _, by omega, Nat.le_refl _, trivial, rfl⟩ ?_ ?_ ?_ <;> exact L_
  rintro n0 s' ⟨i0, M0, hi0, hM0, hv0, rfl⟩
  try dsimp only at hM0
  try refine S_ ?_
  refine g_ [0,3,4,11] ?_
  refine c_ (fun hc0 => ?_) fun hc0 => ?_
  ·
    have hl0 : i0 < l.length := by omega
    have hfl := fillC_len iC [.int .i64 0] (w := 1) (fun _ => rfl) rfl l i0 (by omega)
    have hfs := iC_set l i0 hl0
    refine n_ ?_
    refine wpM_regionK [0,3,4] rfl fun Q1 hQ1 => ?_
    simp -implicitDefEqProofs (disch := omega) only [go_sem, hfl, hfs]
    refine hQ1 _ _ (S_ ?_);clear hQ1 Q1
    refine g_ [0,3,4] ?_
    refine .of' _ _ ⟨n0 - 1, by omega, i0 + 1, _, by omega, M_, ?_, rfl⟩ L_ L_ L_
    first | trivial | omega
  refine n_ ?_
  have hie : i0 = l.length := by omega
  rw [hie, fillC_all]
  refine frzF iC 3 (by rw [cellsOf3]; decide) (fun _ => by rw [cellsOf3]; rfl) (fun _ => rfl) B l T_ 3 T_ ?_
  refine S_ ?_
  refine g_ [2] ?_
  refine e_ Tryz.results27 ?_
  first
  | exact True.intro
  | rfl
theorem toAddr_ok (a : AD) : PureF Tryz.prog 65 [.agg [.int .i64 a.kind, .int .i64 a.at']] [.agg [.int .i64 a.kind, .int .i64 a.at']] := by
  refine pureF_of Tryz.func65 rfl Tryz.ntmps65 (by simp) T_ ?_
  intro f0 B Q hQ
  refine g_ [1,2] ?_
  refine g_ [1,2,3] ?_
  refine g_ [1,2,3] ?_
  refine g_ [2,3] ?_
  refine g_ [2] ?_
  exact e_ Tryz.results65 True.intro
def ToX (l : List Ex) : Prop := PureF Tryz.prog 101 [.rows 58 (Ex.lcsL l)] [.rows 68 (Ex.csL l)]
theorem toExpr_ok' (e : Ex) (ih : ToX e.kids) : PureF Tryz.prog 66 [.agg e.lcs] [.agg e.cs] := by
  refine pureF_of Tryz.func66 rfl Tryz.ntmps66 (by simp) T_ ?_
  intro f0 B Q hQ
  refine g_ [1,2] ?_
  refine g_ [1,2,3] ?_
  refine g_ [1,2,3] ?_
  refine g_ [1,2,3] ?_
  refine n_ ?_
  refine wpM_regionK [1,2,3] rfl fun Q1 hQ1 => ?_
  refine S_ ?_
  refine cp_ (toAddr_ok e.a) Tryz.call65 ?_
  refine hQ1 _ _ (S_ ?_);clear hQ1 Q1
  refine n_ ?_
  refine wpM_regionK [2,3] rfl fun Q1 hQ1 => ?_
  refine S_ ?_
  refine cp_ (ih) Tryz.call101 ?_
  refine hQ1 _ _ (S_ ?_);clear hQ1 Q1
  refine g_ [2] ?_
  exact e_ Tryz.results66 True.intro
abbrev xZ : List PV := [.int .i64 0, .int .i64 0, .int .i64 0, .int .i64 0, .emp]
theorem cs_len (e : Ex) : e.cs.length = 5 := by rw [Ex.cs_eq]; rfl
theorem cs_pureL (e : Ex) : PV.pureL e.cs = true := by rw [Ex.cs_eq]; rfl
theorem toExprS_ok : ∀ (N : Nat) (l : List Ex), Ex.szL l ≤ N → Ex.szL l ≤ 1048576 → ToX l := by
  intro N
  induction N using Nat.strongRecOn with
  | _ N ih =>
    intro l hN hs
    have hll := Ex.len_szL l
    refine pureF_of Tryz.func101 rfl Tryz.ntmps101 (by simp) T_ ?_
    intro f0 B Q hQ
    refine g_ [0] ?_
    refine g_ [0,3] ?_
    rw [← fillC_zero Ex.cs xZ l]
    refine g_ [0,3,4] ?_
    refine n_ ?_
    refine wpM_loopS (fun s n s' => ∃ (i0 M0 : Nat) , i0 + n = l.length ∧ s.M ≤ M0 ∧ (Tr i0) ∧ s' = { s with env := setE 4 (.int .i64 (i0 : Nat)) s.env, l := [(B, .cells 68 (fillC Ex.cs xZ l i0))], M := M0 }) (l.length) ?_ ?_
    ·
      refine .of' _ _ ⟨0, _, by omega, Nat.le_refl _, trivial, rfl⟩ ?_ ?_ ?_ <;> exact L_
    rintro n0 s' ⟨i0, M0, hi0, hM0, hv0, rfl⟩
    try dsimp only at hM0
    try refine S_ ?_
    refine g_ [0,3,4,11] ?_
    refine c_ (fun hc0 => ?_) fun hc0 => ?_
    ·
      have hl0 : i0 < l.length := by omega
      have hfl := fillC_len Ex.cs xZ (w := 5) cs_len rfl l i0 (by omega)
      have hfs := fillC_set Ex.cs xZ (w := 5) cs_len rfl l i0 hl0
      rw [Ex.cs_eq] at hfs
      have hg := Ex.get_szL l i0 hl0
      rw [Ex.sz_eq] at hg
      refine n_ ?_
      refine wpM_regionK [0,3,4] rfl fun Q1 hQ1 => ?_
      simp -implicitDefEqProofs (disch := omega) only [go_sem, hfl, hfs]
      refine call_p (toExpr_ok' (l.getD i0 default) (ih (Ex.szL (l.getD i0 default).kids) (by omega) _ (Nat.le_refl _) (by omega))) Tryz.call66 rfl rfl rfl (by first | rfl | (simp -implicitDefEqProofs (disch := omega) only [go_sem] <;> rfl)) ?_
      simp -implicitDefEqProofs (disch := omega) only [go_sem, hfl, hfs]
      refine hQ1 _ _ (S_ ?_);clear hQ1 Q1
      refine g_ [0,3,4] ?_
      refine .of' _ _ ⟨n0 - 1, by omega, i0 + 1, _, by omega, M_, ?_, rfl⟩ L_ L_ L_
      first | trivial | omega
    refine n_ ?_
    have hie : i0 = l.length := by omega
    rw [hie, fillC_all]
    refine frzF Ex.cs 68 (by rw [cellsOf68]; decide) (fun e => by rw [cellsOf68]; exact cs_len e) cs_pureL B l T_ 68 T_ ?_
    rw [← Ex.csL_map]
    refine S_ ?_
    refine g_ [2] ?_
    refine e_ Tryz.results101 ?_
    first
    | exact True.intro
    | rfl
theorem toExpr_ok (e : Ex) (h : Ex.szL e.kids ≤ 1048576) : PureF Tryz.prog 66 [.agg e.lcs] [.agg e.cs] := toExpr_ok' e (toExprS_ok _ _ (Nat.le_refl _) h)
end Go.Proofs.YtnmfmeehmieifaaGreatDoor
namespace Go.Proofs.YtnmfmeehmieifaaGreatDoor
open Go Sg
set_option maxRecDepth 100000
set_option linter.unusedSimpArgs false
set_option linter.unusedVariables false
set_option linter.unusedSectionVars false
set_option maxHeartbeats 4000000
variable [Glob]
theorem ints_lit (l : List Int) : (ints l).all PV.lit = true := by simp [ints, PV.lit]
theorem own_ints (id : Nat) (l : List Int) : Owns Tryz.prog [.sl 3 id 0 l.length] [.rows 3 (rowsI l)] [(id, .cells 3 (ints l))] := by
  refine ownsSl id l.length (rowsI_len l) (by rw [cellsOf3]; decide) (fun x hx => ?_) ?_
  · simp only [rowsI, List.mem_map] at hx
    obtain ⟨n, _, rfl⟩ := hx
    rw [cellsOf3]; exact ⟨rfl, rfl⟩
  · rw [rowsI_flat]; exact ownsL _ (ints_lit l)
theorem toIntT_ok (l : List Int) (hl : l.length ≤ 1048576) : CallF Tryz.prog 27 [.rows 3 (rowsI l)] [] 1 (OwnR Tryz.prog id [.rows 3 (rowsI l)]) := by
  refine callF_of' Tryz.func27 rfl Tryz.ntmps27 (by simp) ?_
  intro f0 B ns Q hB hns hQ
  refine g_ [0] ?_
  refine g_ [0,3] ?_
  rw [iC_zero]
  refine g_ [0,3,4] ?_
  refine n_ ?_
  refine wpM_loopS (fun s n s' => ∃ (i0 M0 : Nat) , i0 + n = l.length ∧ s.M ≤ M0 ∧ (Tr i0) ∧ s' = { s with env := setE 4 (.int .i64 (i0 : Nat)) s.env, l := [(B, .cells 3 (fillC iC [.int .i64 0] l i0))], M := M0 }) (l.length) ?_ ?_
  ·
    refine .of' _ _ ⟨0, _, by omega, Nat.le_refl _, trivial, rfl⟩ ?_ ?_ ?_ <;> exact L_
  rintro n0 s' ⟨i0, M0, hi0, hM0, hv0, rfl⟩
  try dsimp only at hM0
  try refine S_ ?_
  refine g_ [0,3,4,11] ?_
  refine c_ (fun hc0 => ?_) fun hc0 => ?_
  ·
    have hl0 : i0 < l.length := by omega
    have hfl := fillC_len iC [.int .i64 0] (w := 1) (fun _ => rfl) rfl l i0 (by omega)
    have hfs := iC_set l i0 hl0
    refine n_ ?_
    refine wpM_regionK [0,3,4] rfl fun Q1 hQ1 => ?_
    simp -implicitDefEqProofs (disch := omega) only [go_sem, hfl, hfs]
    refine hQ1 _ _ (S_ ?_);clear hQ1 Q1
    refine g_ [0,3,4] ?_
    refine .of' _ _ ⟨n0 - 1, by omega, i0 + 1, _, by omega, M_, ?_, rfl⟩ L_ L_ L_
    first | trivial | omega
  refine n_ ?_
  have hie : i0 = l.length := by omega
  rw [hie, fillC_all, show (l.map iC).flatten = ints l from rowsI_flat l]
  refine g_ [2] ?_
  refine wpM_ret ?_
  try refine S_ ?_
  exact hQ _ _ (retOwnI (M := B + 1) (.inl rfl) [(B, .cells 3 (ints l))] (own_ints B l) rfl rfl rfl (by rw [Tryz.results27] <;> simp (maxSteps := 1000000) -implicitDefEqProofs (disch := omega) only [go_sem] <;> rfl) (by rw [hns]; rfl) (by simp [inR_cons, inR_nil]) (fun q hq => hq) (by simp [ksL]))
mutual
def Ex.nS : Ex → Nat | .mk _ _ _ l => 1 + Ex.nSL l
def Ex.nSL : List Ex → Nat | [] => 0 | e :: l => e.nS + Ex.nSL l
end
theorem Ex.nS_eq (e : Ex) : e.nS = 1 + Ex.nSL e.kids := by cases e; simp only [Ex.nS, Ex.kids]
theorem Ex.nSL_take (l : List Ex) (i : Nat) (h : i < l.length) : Ex.nSL (l.take (i + 1)) = Ex.nSL (l.take i) + (l.getD i default).nS := by
  have key : ∀ l : List Ex, Ex.nSL l = (l.map Ex.nS).sum := by
    intro l
    induction l with
    | nil => rfl
    | cons e l ih => simp [Ex.nSL, ih]
  rw [key, key, List.take_succ_eq_append_getElem h, List.map_append, List.sum_append]
  simp [List.getD, h]
def TxS (l : List Ex) : Prop := CallF Tryz.prog 101 [.rows 58 (Ex.lcsL l)] [] (1 + Ex.nSL l) (OwnR Tryz.prog id [.rows 68 (Ex.csL l)])
theorem own_ex {e : Ex} {cs : List PV} {T : List (Nat × AObj)} (h : Owns Tryz.prog cs e.cs T) : ∃ id, cs = [.int .i64 e.kind, .int .i64 e.n, .int .i64 e.a.kind, .int .i64 e.a.at', .sl 68 id 0 e.kids.length] := by
  rw [Ex.cs_eq] at h
  obtain ⟨c1, rfl, h1⟩ := h.lit rfl
  obtain ⟨c2, rfl, h2⟩ := h1.lit rfl
  obtain ⟨c3, rfl, h3⟩ := h2.lit rfl
  obtain ⟨c4, rfl, h4⟩ := h3.lit rfl
  obtain ⟨id, c0, T0, cs', T', rfl, rfl, h0, h5, _, _⟩ := h4.rows
  obtain ⟨rfl, rfl⟩ := h5.none
  exact ⟨id, by rw [Ex.csL_len]⟩
theorem own_exL {l : List Ex} {cs : List PV} {T : List (Nat × AObj)} (h : Owns Tryz.prog cs [.rows 68 (Ex.csL l)] T) : ∃ id c0 T0, cs = [.sl 68 id 0 l.length] ∧ T = (id, .cells 68 c0) :: T0 ∧ Owns Tryz.prog c0 (Ex.csL l).flatten T0 := by
  obtain ⟨id, c0, T0, cs', T', rfl, rfl, h0, h1, _, _⟩ := h.rows
  obtain ⟨rfl, rfl⟩ := h1.none
  exact ⟨id, c0, T0, by rw [Ex.csL_len], by rw [List.append_nil], h0⟩
theorem toExprT' (e : Ex) (ih : TxS e.kids) : CallF Tryz.prog 66 [.agg e.lcs] [] e.nS (OwnR Tryz.prog wA e.cs) := by
  rw [Ex.nS_eq]
  refine callF_of' Tryz.func66 rfl Tryz.ntmps66 (by simp) ?_
  intro f0 B ns Q hB hns hQ
  refine g_ [1,2] ?_
  refine g_ [1,2,3] ?_
  refine g_ [1,2,3] ?_
  refine g_ [1,2,3] ?_
  refine n_ ?_
  refine wpM_regionK [1,2,3] rfl fun Q1 hQ1 => ?_
  refine S_ ?_
  refine cp_ (toAddr_ok e.a) Tryz.call65 ?_
  refine hQ1 _ _ (S_ ?_);clear hQ1 Q1
  refine n_ ?_
  refine wpM_regionK [2,3] rfl fun Q1 hQ1 => ?_
  refine S_ ?_
  refine call_own (ps := [.rows 58 (Ex.lcsL e.kids)]) ih Tryz.call101 rfl rfl rfl F_ (by simp [inR_cons, inR_nil] <;> omega) (by show B ≤ B + 3; omega) ?_
  intro cs T hO hI hk
  obtain ⟨id, c0, T0, rfl, rfl, h0⟩ := own_exL hO
  dsimp only at hI hk
  refine S_ ?_
  refine hQ1 _ _ (S_ ?_);clear hQ1 Q1
  refine g_ [2] ?_
  refine wpM_ret ?_
  try refine S_ ?_
  refine hQ _ _ (retOwnI (M := B + 3 + (1 + Ex.nSL e.kids)) (.inr rfl) ((id, .cells 68 c0) :: T0) (cs := [.int .i64 e.kind, .int .i64 e.n, .int .i64 e.a.kind, .int .i64 e.a.at', .sl 68 id 0 e.kids.length]) ?_ rfl rfl rfl (by rw [Tryz.results66] <;> simp (maxSteps := 1000000) -implicitDefEqProofs (disch := omega) only [go_sem] <;> rfl) ?_ ?_ ?_ ?_)
  · rw [Ex.cs_eq]
    exact .sc _ _ _ _ rfl (.sc _ _ _ _ rfl (.sc _ _ _ _ rfl (.sc _ _ _ _ rfl hO)))
  · rw [hk, hns]
  · exact InR.app (l := [_, _, _]) (M := B + 3) (by simp [inR_cons, inR_nil] <;> omega) hI (by show B ≤ B + 3; omega) (by omega)
  · exact fun q hq => List.mem_cons_of_mem _ (List.mem_cons_of_mem _ (List.mem_cons_of_mem _ hq))
  · exact hI.nd
theorem toExprST : ∀ (N : Nat) (l : List Ex), Ex.szL l ≤ N → Ex.szL l ≤ 1048576 → TxS l := by
  intro N
  induction N using Nat.strongRecOn with
  | _ N ih =>
    intro l hN hs
    have hll := Ex.len_szL l
    unfold TxS
    refine callF_of' Tryz.func101 rfl Tryz.ntmps101 (by simp) ?_
    intro f0 B ns Q hB hns hQ
    refine g_ [0] ?_
    refine g_ [0,3] ?_
    refine g_ [0,3,4] ?_
    refine n_ ?_
    refine wpM_loopS (fun s r s' => ∃ (i0 M0 : Nat) (C : List PV) (D : List (Nat × AObj)), i0 + r = l.length ∧ Owns Tryz.prog C ((l.take i0).map Ex.cs).flatten D ∧ B + 1 ≤ M0 ∧ InR (B + 1) M0 D ∧ (ksL D).length = Ex.nSL (l.take i0) ∧ s' = { s with env := setE 4 (.int .i64 (i0 : Nat)) s.env, l := (B, .cells 68 (C ++ rep (l.length - i0) xZ)) :: D, M := M0 }) (l.length) ?_ ?_
    ·
      refine .of' _ _ ⟨0, B + 1, [], [], by omega, .nil, Nat.le_refl _, inR_nil, rfl, rfl⟩ ?_ ?_ ?_ <;> exact L_
    rintro r s' ⟨i0, M0, C, D, hir, hO, hM, hI, hk, rfl⟩
    try refine S_ ?_
    refine g_ [0,3,4,11] ?_
    refine c_ (fun hc0 => ?_) fun hc0 => ?_
    ·
      have hl0 : i0 < l.length := by omega
      have hCl : C.length = i0 * 5 := by rw [hO.len]; exact flat_take_len cs_len (by omega)
      have hfl := fill_len (z := xZ) (n := l.length) hCl rfl (by omega)
      have hg := Ex.get_szL l i0 hl0
      rw [Ex.sz_eq] at hg
      refine n_ ?_
      refine wpM_regionK [0,3,4] rfl fun Q1 hQ1 => ?_
      simp -implicitDefEqProofs (disch := omega) only [go_sem, hfl]
      refine call_own (ps := [.agg (l.getD i0 default).lcs]) (toExprT' (l.getD i0 default) (ih (Ex.szL (l.getD i0 default).kids) (by omega) _ (Nat.le_refl _) (by omega))) Tryz.call66 rfl rfl rfl F_ (hI.push (Nat.le_refl _) hM) (by show B ≤ M0; omega) ?_
      intro cs T hO2 hI2 hk2
      obtain ⟨id, rfl⟩ := own_ex hO2
      dsimp only at hI2 hk2
      simp -implicitDefEqProofs (disch := omega) only [go_sem, hfl]
      refine hQ1 _ _ (S_ ?_);clear hQ1 Q1
      refine g_ [0,3,4] ?_
      have hsp := splice_fill (z := xZ) (v := [PV.int .i64 (l.getD i0 default).kind, .int .i64 (l.getD i0 default).n, .int .i64 (l.getD i0 default).a.kind, .int .i64 (l.getD i0 default).a.at', .sl 68 id 0 (l.getD i0 default).kids.length]) hCl rfl rfl hl0
      have hI3 := hI.app hI2 hM (by omega)
      rw [hsp]
      refine .of' _ _ ⟨r - 1, by omega, i0 + 1, _, _, D ++ T, by omega, hO.snoc hl0 hO2, by omega, hI3, by rw [ksL_app, List.length_append, hk, hk2, Ex.nSL_take l i0 hl0], rfl⟩ ?_ ?_ ?_
      · exact L_
      · exact subL_of (hI3.push (k := B) (Nat.le_refl _) (by omega)).nd (fun p hp => hp)
      · exact (hI3.push (k := B) (Nat.le_refl _) (by omega)).keep
    refine g_ [2] ?_
    refine wpM_ret ?_
    try refine S_ ?_
    obtain rfl : i0 = l.length := by omega
    rw [List.take_of_length_le (Nat.le_refl _)] at hO hk
    refine hQ _ _ (retOwnI (M := M0) (.inl rfl) ((B, .cells 68 (C ++ rep (l.length - l.length) xZ)) :: D) ?_ rfl rfl rfl (by rw [Tryz.results101] <;> simp (maxSteps := 1000000) -implicitDefEqProofs (disch := omega) only [go_sem] <;> rfl) ?_ (hI.push (k := B) (Nat.le_refl _) hM) (fun q hq => hq) (hI.push (k := B) (Nat.le_refl _) hM).nd)
    · rw [← Ex.csL_map] at hO
      refine ownsSl B l.length (Ex.csL_len l) (by rw [cellsOf68]; decide) (fun x hx => ?_) (by simpa [rep] using hO)
      rw [Ex.csL_map, List.mem_map] at hx
      obtain ⟨e, _, rfl⟩ := hx
      rw [cellsOf68]; exact ⟨cs_len e, cs_pureL e⟩
    · rw [hns]; simp only [ksL, List.map_cons, List.length_cons] at hk ⊢; omega
theorem toExprT_ok (e : Ex) (h : Ex.szL e.kids ≤ 1048576) : CallF Tryz.prog 66 [.agg e.lcs] [] e.nS (OwnR Tryz.prog wA e.cs) := toExprT' e (toExprST _ _ (Nat.le_refl _) h)
end Go.Proofs.YtnmfmeehmieifaaGreatDoor
namespace Go.Proofs.YtnmfmeehmieifaaGreatDoor
open Go Sg
set_option maxRecDepth 100000
set_option linter.unusedSimpArgs false
set_option linter.unusedVariables false
set_option linter.unusedSectionVars false
set_option maxHeartbeats 4000000
variable [Glob]
structure Trn.Len (t : Trn) : Prop where
  fr : t.fr.length ≤ maxLen
  to' : t.to'.length ≤ maxLen
  w : t.w.Len
structure Cht.Len (c : Cht) : Prop where
  ts : c.ts.length ≤ maxLen
  as' : c.as'.length ≤ maxLen
  t : ∀ i, i < c.ts.length → (c.ts.getD i default).Len
theorem tlcs_pure (t : Trn) : PV.pureL t.lcs = true := rfl
theorem acs_pure (t : GAct) : PV.pureL t.cs = true := rfl
section
variable {H : Type} {enc : TypeId × Value → H} {W : World} {base : Nat} {spare : Nat → Bool} {held : Bool}
theorem open_ints {fuel : Nat} {cs : List Value} {x : DataW H × List MemPlace} (h : DataW.trod enc Tryz.prog W base spare held fuel 22 cs = some x) : ∃ l : List Int, l.length ≤ maxLen ∧ Lies Tryz.prog W [.rows 3 (rowsI l)] cs := by
  obtain ⟨l, _, h1, h2⟩ := open_slice Tryz.underlying22 (by rw [cellsOf3]; decide) (fun n : Int => [PV.int .i64 n]) (fun _ => True) (fun _ => by rw [cellsOf3]; rfl) (fun _ => rfl) (fun _ y hy => by rw [List.mem_singleton.1 hy]; rfl)
    (fun j cs' x' hj h' => by
      obtain ⟨n, rfl, _⟩ := open_int Tryz.underlying3 h'
      exact ⟨n, trivial, rfl, fun j hj => by
        have : j = 0 := by simpa using hj
        subst this; exact .int _ _⟩) h
  exact ⟨l, h1, h2⟩
theorem lies_one {p : PV} {c : Value} (h : Lies Tryz.prog W [p] [c]) : R Tryz.prog (ghOf W) p c := h.2 0 (by simp)
end
end Go.Proofs.YtnmfmeehmieifaaGreatDoor
namespace Go.Proofs.YtnmfmeehmieifaaGreatDoor
open Go Sg
set_option maxRecDepth 100000
set_option linter.unusedSimpArgs false
set_option linter.unusedVariables false
set_option linter.unusedSectionVars false
set_option maxHeartbeats 4000000
variable [Glob]
def szR (left : Int) (m : Nat) : Int := if (m : Int) ≤ left then left - m else -1
theorem szR_pos {L : Int} {m : Nat} (h : ¬ szR L m < 0) : (m : Int) ≤ L ∧ szR L m = L - m := by
  unfold szR at *
  split at h
  · rename_i h1; rw [if_pos h1]; exact ⟨h1, rfl⟩
  · omega
theorem szR_neg {L : Int} {m : Nat} (h : szR L m < 0) : L < m := by
  unfold szR at h
  split at h <;> omega
theorem szR_no {L : Int} {m : Nat} (h : L < m) : szR L m = -1 := if_neg (by omega)
theorem szR_yes {L : Int} {m : Nat} (h : (m : Int) ≤ L) : szR L m = L - m := if_pos h
theorem sum_take {α : Type} [Inhabited α] (f : α → Nat) (l : List α) (i : Nat) (h : i < l.length) : ((l.take (i + 1)).map f).sum = ((l.take i).map f).sum + f (l.getD i default) := by
  rw [List.take_succ_eq_append_getElem h, List.map_append, List.sum_append]
  simp [List.getD, h]
theorem sum_le {α : Type} (f : α → Nat) (l : List α) (i : Nat) : ((l.take i).map f).sum ≤ (l.map f).sum := by
  have h : (l.map f).sum = ((l.take i ++ l.drop i).map f).sum := by rw [List.take_append_drop]
  rw [h, List.map_append, List.sum_append]; omega
def kz (e : Ex) : Nat := Ex.szL e.kids
theorem szL_kz (l : List Ex) : Ex.szL l = l.length + (l.map kz).sum := by
  induction l with
  | nil => rfl
  | cons e l ih => simp only [Ex.szL, Ex.sz_eq, ih, List.length_cons, List.map_cons, List.sum_cons, kz]; omega
theorem max_eq : maxLen = 9223372036854775807 := rfl
theorem szInt_ok (l : List Int) (left : Int) (h0 : 0 ≤ left) (h1 : left ≤ 1048576) (hl : l.length ≤ maxLen) : PureF Tryz.prog 21 [.rows 3 (rowsI l), .int .i64 left] [.int .i64 (szR left l.length)] := by
  rw [max_eq] at hl
  refine pureF_of Tryz.func21 rfl Tryz.ntmps21 (by simp) T_ ?_
  intro f0 B Q hQ
  refine g_ [0,1] ?_
  refine g_ [1] ?_
  refine g_ [1,10] ?_
  refine c_ (fun hc0 => ?_) fun hc0 => ?_
  ·
    have hz := szR_no (L := left) (m := l.length) (by omega)
    refine g_ [4] ?_
    refine e_ Tryz.results21 ?_
    first
    | exact True.intro
    | rw [hz]
  have hz := szR_yes (L := left) (m := l.length) (by omega)
  refine g_ [4] ?_
  refine e_ Tryz.results21 ?_
  first
  | exact True.intro
  | rw [hz]
def SzE (l : List Ex) : Prop := ∀ left : Int, 0 ≤ left → left ≤ 1048576 → PureF Tryz.prog 96 [.rows 58 (Ex.lcsL l), .int .i64 left] [.int .i64 (szR left (Ex.szL l))]
theorem szExpr_ok' (e : Ex) (ih : SzE e.kids) (left : Int) (h0 : 0 ≤ left) (h1 : left ≤ 1048576) : PureF Tryz.prog 57 [.agg e.lcs, .int .i64 left] [.int .i64 (szR left (kz e))] := by
  refine pureF_of Tryz.func57 rfl Tryz.ntmps57 (by simp) T_ ?_
  intro f0 B Q hQ
  refine g_ [1,2] ?_
  refine n_ ?_
  refine wpM_regionK [1] rfl fun Q1 hQ1 => ?_
  refine S_ ?_
  refine cp_ (ih left h0 h1) Tryz.call96 ?_
  refine hQ1 _ _ (S_ ?_);clear hQ1 Q1
  refine g_ [1,10] ?_
  refine c_ (fun hc0 => ?_) fun hc0 => ?_
  ·
    have hz := szR_no (szR_neg (L := left) (m := Ex.szL e.kids) hc0)
    refine g_ [4] ?_
    refine e_ Tryz.results57 ?_
    first
    | exact True.intro
    | first | exact hz.symm | rfl
  refine g_ [4] ?_
  refine e_ Tryz.results57 ?_
  first
  | exact True.intro
  | first | exact hz.symm | rfl
theorem szExprS_ok : ∀ (N : Nat) (l : List Ex), Ex.szL l ≤ N → l.length ≤ maxLen → Ex.LenL l → SzE l := by
  intro N
  induction N using Nat.strongRecOn with
  | _ N ih =>
    intro l hN hl hL left h0 h1
    rw [max_eq] at hl
    refine pureF_of Tryz.func96 rfl Tryz.ntmps96 (by simp) T_ ?_
    intro f0 B Q hQ
    refine g_ [0,1] ?_
    refine g_ [0,1] ?_
    refine g_ [0,1,11] ?_
    refine c_ (fun hc0 => ?_) fun hc0 => ?_
    ·
      have hz := szR_no (L := left) (m := Ex.szL l) (by rw [szL_kz]; omega)
      refine g_ [4] ?_
      refine e_ Tryz.results96 ?_
      first
      | exact True.intro
      | rw [hz]
    have hle : (l.length : Int) ≤ left := by omega
    refine g_ [0,1,5] ?_
    refine n_ ?_
    refine wpM_loopS (fun s n s' => ∃ (i0 M0 : Nat) (L : Int), i0 + n = l.length ∧ s.M ≤ M0 ∧ (0 ≤ L ∧ L + l.length + (((l.take i0).map kz).sum : Nat) = left) ∧ s' = { s with env := setE 5 (.int .i64 (i0 : Nat)) (setE 1 (.int .i64 L) s.env) , M := M0 }) (l.length) ?_ ?_
    ·
      refine .of' _ _ ⟨0, _, left - l.length, by omega, Nat.le_refl _, ⟨by omega, by simp⟩, rfl⟩ ?_ ?_ ?_ <;> exact L_
    rintro n0 s' ⟨i0, M0, L, hi0, hM0, hv0, rfl⟩
    try dsimp only at hM0
    try refine S_ ?_
    refine g_ [0,1,5,15] ?_
    refine c_ (fun hc1 => ?_) fun hc1 => ?_
    ·
      have hl0 : i0 < l.length := by omega
      have hmem : l.getD i0 default ∈ l := by rw [List.getD_eq_getElem?_getD, List.getElem?_eq_getElem hl0]; exact List.getElem_mem hl0
      have hLe := (Ex.LenL_iff l).1 hL _ hmem
      have hst := sum_take kz l i0 hl0
      have hsl := sum_le kz l (i0 + 1)
      have hkl : kz (l.getD i0 default) < N := by
        have := szL_kz l
        omega
      refine n_ ?_
      refine wpM_regionK [0,1,5] rfl fun Q1 hQ1 => ?_
      refine S_ ?_
      refine cp_ (szExpr_ok' (l.getD i0 default) (ih _ hkl _ (Nat.le_refl _) (by cases h : l.getD i0 default; rw [h] at hLe; exact hLe.1) (by cases h : l.getD i0 default; rw [h] at hLe; exact hLe.2)) L hv0.1 (by omega)) Tryz.call57 ?_
      refine hQ1 _ _ (S_ ?_);clear hQ1 Q1
      refine g_ [0,1,5,25] ?_
      refine c_ (fun hc2 => ?_) fun hc2 => ?_
      ·
        have hn := szR_neg (L := L) (m := kz (l.getD i0 default)) hc2
        have hz := szR_no (L := left) (m := Ex.szL l) (by rw [szL_kz]; omega)
        refine g_ [4] ?_
        refine e_ Tryz.results96 ?_
        first
        | exact True.intro
        | rw [hz]
      have hp := szR_pos (L := L) (m := kz (l.getD i0 default)) hc2
      refine g_ [0,1,5] ?_
      refine .of' _ _ ⟨n0 - 1, by omega, i0 + 1, _, szR L (kz (l.getD i0 default)), by omega, M_, ?_, rfl⟩ L_ L_ L_
      rw [hst, hp.2]
      omega
    refine n_ ?_
    have hi : i0 = l.length := by omega
    have hz : szR left (Ex.szL l) = L := by
      rw [hi, List.take_of_length_le (Nat.le_refl _)] at hv0
      rw [szL_kz, szR_yes (by omega)]; omega
    refine g_ [4] ?_
    refine e_ Tryz.results96 ?_
    first
    | exact True.intro
    | rw [hz]
end Go.Proofs.YtnmfmeehmieifaaGreatDoor
namespace Go.Proofs.YtnmfmeehmieifaaGreatDoor
open Go Sg
set_option maxRecDepth 100000
set_option linter.unusedSimpArgs false
set_option linter.unusedVariables false
set_option linter.unusedSectionVars false
set_option maxHeartbeats 4000000
variable [Glob]
theorem Ex.kids_Len {e : Ex} (h : e.Len) : e.kids.length ≤ maxLen ∧ Ex.LenL e.kids := by cases e; exact h
theorem sum_get {α : Type} [Inhabited α] (f : α → Nat) (l : List α) (i : Nat) (h : i < l.length) : f (l.getD i default) ≤ (l.map f).sum := by
  have h1 := sum_take f l i h
  have h2 := sum_le f l (i + 1)
  omega
end Go.Proofs.YtnmfmeehmieifaaGreatDoor
namespace Go.Proofs.YtnmfmeehmieifaaGreatDoor
open Go Sg Go.WideShapes
set_option linter.unusedVariables false
set_option linter.unusedSectionVars false
variable [Glob]
theorem lies_agg {W : World} {ps : List PV} {cs : Array Value} (h : Lies Tryz.prog W ps cs.toList) : R Tryz.prog (ghOf W) (.agg ps) (.agg cs) := by
  refine .agg _ _ (by simpa using h.1.symm) fun j hj => ?_
  have := h.2 j hj
  rwa [List.getD_eq_getElem?_getD, Array.getElem?_toList, ← Array.getD_eq_getD_getElem?] at this
end Go.Proofs.YtnmfmeehmieifaaGreatDoor
namespace Go.Proofs.YtnmfmeehmieifaaGreatDoor
open Go Sg
set_option maxRecDepth 100000
set_option linter.unusedSimpArgs false
set_option linter.unusedVariables false
set_option linter.unusedSectionVars false
set_option maxHeartbeats 4000000
variable [Glob]
theorem eqIntS_ok (a b : List Int) (ha : a.length ≤ 1099511627776) : PureF Tryz.prog 33 [.rows 3 (rowsI a), .rows 3 (rowsI b)] [.bool (same a b)] := by
  rw [← eqI_same]
  refine pureF_of Tryz.func33 rfl Tryz.ntmps33 (by simp) T_ ?_
  intro f0 B Q hQ
  refine g_ [0,1] ?_
  refine g_ [0,1,10] ?_
  refine c_ (fun hc0 => ?_) fun hc0 => ?_
  ·
    refine g_ [4] ?_
    refine e_ Tryz.results33 ?_
    first
    | exact True.intro
    | unfold eqI
      first
      | rw [if_pos hc0]
      | (rw [if_neg (by rw [hc0]; simp), range_no hl0 (by simp only [hc2]; rfl)])
      | (have : i0 = a.length := by omega
         rw [if_neg (by rw [hc0]; simp), ← this, hv0])
  refine g_ [0,1,5] ?_
  refine n_ ?_
  refine wpM_loopS (fun s n s' => ∃ (i0 M0 : Nat) , i0 + n = a.length ∧ s.M ≤ M0 ∧ ((List.range i0).all (fun i => !(a.getD i 0 != b.getD i 0)) = true) ∧ s' = { s with env := setE 5 (.int .i64 (i0 : Nat)) s.env, M := M0 }) (a.length) ?_ ?_
  ·
    refine .of' _ _ ⟨0, _, by omega, Nat.le_refl _, by simp, rfl⟩ ?_ ?_ ?_ <;> exact L_
  rintro n0 s' ⟨i0, M0, hi0, hM0, hv0, rfl⟩
  try dsimp only at hM0
  try refine S_ ?_
  refine g_ [0,1,5,14] ?_
  refine c_ (fun hc1 => ?_) fun hc1 => ?_
  ·
    have hl0 : i0 < a.length := by omega
    have hlb : i0 < b.length := by simp at hc0; omega
    refine n_ ?_
    refine dr_ mixed [0,1,5,25] 0 0 [] [⟨[0],[],[],[],false⟩,⟨[5],[],[],[],false⟩,⟨[17,18],[],[],[],false⟩,⟨[19],[],[],[],false⟩,⟨[1],[],[],[],false⟩,⟨[5],[],[],[],false⟩,⟨[21,22],[],[],[],false⟩,⟨[23],[],[],[],false⟩,⟨[20,24],[],[],[],false⟩] [0,1,2,3,4,5,6,7,8] [[],[],[0,1],[0,1,2],[],[],[4,5],[4,5,6],[0,1,2,3,4,5,6,7]] 0 ?_
    intro O A K hO hA hK;simp only [atL_cons,atL_nil,Nat.reduceAdd,Nat.zero_add] at hO hA
    refine SO_ ?_
    refine hK _ (S_ ?_);clear hK K hO hA O A
    refine c_ (fun hc2 => ?_) fun hc2 => ?_
    ·
      refine g_ [4] ?_
      refine e_ Tryz.results33 ?_
      first
      | exact True.intro
      | unfold eqI
        first
        | rw [if_pos hc0]
        | (rw [if_neg (by rw [hc0]; simp), range_no hl0 (by simp only [hc2]; rfl)])
        | (have : i0 = a.length := by omega
           rw [if_neg (by rw [hc0]; simp), ← this, hv0])
    refine g_ [0,1,5] ?_
    refine .of' _ _ ⟨n0 - 1, by omega, i0 + 1, _, by omega, M_, ?_, rfl⟩ L_ L_ L_
    rw [range_all, hv0]
    simp only [hc2]; rfl
  refine g_ [4] ?_
  refine e_ Tryz.results33 ?_
  first
  | exact True.intro
  | unfold eqI
    first
    | rw [if_pos hc0]
    | (rw [if_neg (by rw [hc0]; simp), range_no hl0 (by simp only [hc2]; rfl)])
    | (have : i0 = a.length := by omega
       rw [if_neg (by rw [hc0]; simp), ← this, hv0])
theorem eqAddr_ok (a b : AD) : PureF Tryz.prog 74 [.agg [.int .i64 a.kind, .int .i64 a.at'], .agg [.int .i64 b.kind, .int .i64 b.at']] [.bool (a.kind == b.kind && a.at' == b.at')] := by
  refine pureF_of Tryz.func74 rfl Tryz.ntmps74 (by simp) T_ ?_
  intro f0 B Q hQ
  refine g_ [2,3] ?_
  refine g_ [2,3,9] ?_
  refine c_ (fun hc0 => ?_) fun hc0 => ?_
  ·
    refine g_ [4] ?_
    refine e_ Tryz.results74 ?_
    first
    | exact True.intro
    | simp_all
  refine g_ [14] ?_
  refine c_ (fun hc1 => ?_) fun hc1 => ?_
  ·
    refine g_ [4] ?_
    refine e_ Tryz.results74 ?_
    first
    | exact True.intro
    | simp_all
  refine g_ [4] ?_
  refine e_ Tryz.results74 ?_
  first
  | exact True.intro
  | simp_all
def EqX (a b : List Ex) : Prop := PureF Tryz.prog 106 [.rows 68 (Ex.csL a), .rows 68 (Ex.csL b)] [.bool (same a b)]
theorem same_ex' (a b : Ex) : (a.kind == b.kind && a.n == b.n && (a.a.kind == b.a.kind && a.a.at' == b.a.at') && same a.kids b.kids) = same a b := by
  rw [← same_ex]
  congr 1
  exact (len_same _ _).symm
theorem eqExpr_ok' (a b : Ex) (ih : EqX a.kids b.kids) : PureF Tryz.prog 75 [.agg a.cs, .agg b.cs] [.bool (same a b)] := by
  refine pureF_of Tryz.func75 rfl Tryz.ntmps75 (by simp) T_ ?_
  intro f0 B Q hQ
  refine g_ [2,3] ?_
  refine g_ [2,3,9] ?_
  refine c_ (fun hc0 => ?_) fun hc0 => ?_
  ·
    refine g_ [4] ?_
    refine e_ Tryz.results75 ?_
    first
    | exact True.intro
    | rw [← same_ex']
      first | (simp_all; done) | (simp_all; intro h1 h2; rcases hc2 with h | h <;> contradiction)
  refine g_ [2,3,14] ?_
  refine c_ (fun hc1 => ?_) fun hc1 => ?_
  ·
    refine g_ [4] ?_
    refine e_ Tryz.results75 ?_
    first
    | exact True.intro
    | rw [← same_ex']
      first | (simp_all; done) | (simp_all; intro h1 h2; rcases hc2 with h | h <;> contradiction)
  refine n_ ?_
  refine wpM_regionK [2,3,20] rfl fun Q1 hQ1 => ?_
  refine S_ ?_
  refine cp_ (eqAddr_ok a.a b.a) Tryz.call74 ?_
  refine hQ1 _ _ (S_ ?_);clear hQ1 Q1
  refine c_ (fun hc2 => ?_) fun hc2 => ?_
  ·
    refine g_ [4] ?_
    refine e_ Tryz.results75 ?_
    first
    | exact True.intro
    | rw [← same_ex']
      first | (simp_all; done) | (simp_all; intro h1 h2; rcases hc2 with h | h <;> contradiction)
  refine n_ ?_
  refine wpM_regionK [26] rfl fun Q1 hQ1 => ?_
  refine S_ ?_
  refine cp_ (ih) Tryz.call106 ?_
  refine hQ1 _ _ (S_ ?_);clear hQ1 Q1
  refine c_ (fun hc3 => ?_) fun hc3 => ?_
  ·
    refine g_ [4] ?_
    refine e_ Tryz.results75 ?_
    first
    | exact True.intro
    | rw [← same_ex']
      first | (simp_all; done) | (simp_all; intro h1 h2; rcases hc2 with h | h <;> contradiction)
  refine g_ [4] ?_
  refine e_ Tryz.results75 ?_
  first
  | exact True.intro
  | rw [← same_ex']
    first | (simp_all; done) | (simp_all; intro h1 h2; rcases hc2 with h | h <;> contradiction)
theorem eqExprS_ok : ∀ (N : Nat) (a b : List Ex), Ex.szL a ≤ N → Ex.szL a ≤ 1099511627776 → EqX a b := by
  intro N
  induction N using Nat.strongRecOn with
  | _ N ih =>
    intro a b hN hs
    have hll := Ex.len_szL a
    refine pureF_of Tryz.func106 rfl Tryz.ntmps106 (by simp) T_ ?_
    intro f0 B Q hQ
    refine g_ [0,1] ?_
    refine g_ [0,1,10] ?_
    refine c_ (fun hc0 => ?_) fun hc0 => ?_
    ·
      refine g_ [4] ?_
      refine e_ Tryz.results106 ?_
      first
      | exact True.intro
      | simp at hc0
        exact (same_no (fun h => by rw [h] at hc0; exact hc0 rfl)).symm
    have hab : a.length = b.length := by simp at hc0; omega
    refine g_ [0,1,5] ?_
    refine n_ ?_
    refine wpM_loopS (fun s n s' => ∃ (i0 M0 : Nat) , i0 + n = a.length ∧ s.M ≤ M0 ∧ ((List.range i0).all (fun i => same (a.getD i default) (b.getD i default)) = true) ∧ s' = { s with env := setE 5 (.int .i64 (i0 : Nat)) s.env, M := M0 }) (a.length) ?_ ?_
    ·
      refine .of' _ _ ⟨0, _, by omega, Nat.le_refl _, by simp, rfl⟩ ?_ ?_ ?_ <;> exact L_
    rintro n0 s' ⟨i0, M0, hi0, hM0, hv0, rfl⟩
    try dsimp only at hM0
    try refine S_ ?_
    refine g_ [0,1,5,14] ?_
    refine c_ (fun hc1 => ?_) fun hc1 => ?_
    ·
      have hl0 : i0 < a.length := by omega
      have hg := Ex.get_szL a i0 hl0
      rw [Ex.sz_eq] at hg
      refine n_ ?_
      refine dr_ mixed [0,1,5,26] 0 0 [] [⟨[0],[],[],[],false⟩,⟨[5],[],[],[],false⟩,⟨[17,18],[],[],[],false⟩,⟨[19],[],[],[],false⟩,⟨[1],[],[],[],false⟩,⟨[5],[],[],[],false⟩,⟨[21,22],[],[],[],false⟩,⟨[23],[],[],[],false⟩,⟨[20,24],[],[],[],true⟩,⟨[25],[],[],[],false⟩] [0,1,2,3,4,5,6,7,8,9] [[],[],[0,1],[0,1,2],[],[],[4,5],[4,5,6],[0,1,2,3,4,5,6,7],[0,1,2,3,4,5,6,7,8]] 0 ?_
      intro O A K hO hA hK;simp only [atL_cons,atL_nil,Nat.reduceAdd,Nat.zero_add] at hO hA
      refine SO_ ?_
      refine lp_ (eqExpr_ok' (a.getD i0 default) (b.getD i0 default) (ih (Ex.szL (a.getD i0 default).kids) (by omega) _ _ (Nat.le_refl _) (by omega))) Tryz.call75 ?_
      refine hK _ (S_ ?_);clear hK K hO hA O A
      refine c_ (fun hc2 => ?_) fun hc2 => ?_
      ·
        refine g_ [4] ?_
        refine e_ Tryz.results106 ?_
        first
        | exact True.intro
        | have h2 : (!same (a.getD i0 default) (b.getD i0 default)) = true := hc2
          rw [← range_ext hab same (fun i _ => rfl), range_no hl0 (by simpa using h2)]
      refine g_ [0,1,5] ?_
      refine .of' _ _ ⟨n0 - 1, by omega, i0 + 1, _, by omega, M_, ?_, rfl⟩ L_ L_ L_
      have h2 : (!same (a.getD i0 default) (b.getD i0 default)) = false := hc2
      rw [range_all, hv0]; simpa using h2
    refine g_ [4] ?_
    refine e_ Tryz.results106 ?_
    first
    | exact True.intro
    | have : i0 = a.length := by omega
      rw [← range_ext hab same (fun i _ => rfl), ← this, hv0]
theorem eqExpr_ok (a b : Ex) (h : a.sz ≤ 1099511627776) : PureF Tryz.prog 75 [.agg a.cs, .agg b.cs] [.bool (same a b)] := eqExpr_ok' a b (eqExprS_ok _ _ _ (Nat.le_refl _) (by rw [Ex.sz_eq] at h; omega))
end Go.Proofs.YtnmfmeehmieifaaGreatDoor
namespace Go.Proofs.YtnmfmeehmieifaaGreatDoor
open Go Sg Go.WideShapes
set_option maxRecDepth 100000
set_option linter.unusedSimpArgs false
set_option linter.unusedVariables false
set_option linter.unusedSectionVars false
set_option maxHeartbeats 4000000
variable [Glob]
structure MM.Len (m : MM) : Prop where
  i : m.i.length ≤ maxLen
  o : m.o.length ≤ maxLen
  v : m.v.length ≤ maxLen
structure Mrk.Len (k : Mrk) : Prop where
  on : k.on.length ≤ maxLen
  kept : k.kept.length ≤ maxLen
section
variable {H : Type} {enc : TypeId × Value → H} {W : World} {base : Nat} {spare : Nat → Bool} {held : Bool}
theorem open_mem {fuel : Nat} {cs : List Value} {x : DataW H × List MemPlace} (h : DataW.trod enc Tryz.prog W base spare held fuel 24 cs = some x) : ∃ m : MM, m.Len ∧ Lies Tryz.prog W m.cs cs := by
  obtain ⟨xs, n, hf, hx, hl, hxs, hfs⟩ := DataW.trod_struct Tryz.underlying24 h
  rw [cellsOf24] at hl
  match cs, hl with
  | [c0, c1, c2], _ =>
    have h0 := hfs 0 _ rfl
    have h1 := hfs 1 _ rfl
    have h2 := hfs 2 _ rfl
    have l0 : (0 : Nat) < xs.length := by rw [hxs]; decide
    have l1 : (1 : Nat) < xs.length := by rw [hxs]; decide
    have l2 : (2 : Nat) < xs.length := by rw [hxs]; decide
    rw [List.getElem?_eq_getElem l0] at h0
    rw [List.getElem?_eq_getElem l1] at h1
    rw [List.getElem?_eq_getElem l2] at h2
    obtain ⟨f, hf1, hf2⟩ := open_ints h0
    obtain ⟨g, hg1, hg2⟩ := open_ints h1
    obtain ⟨w, hw1, hw2⟩ := open_ints h2
    simp [cellsOf22] at hf2 hg2 hw2
    refine ⟨⟨f, g, w⟩, ⟨hf1, hg1, hw1⟩, rfl, fun j hj => ?_⟩
    match j, hj with
    | 0, _ => exact lies_one hf2
    | 1, _ => exact lies_one hg2
    | 2, _ => exact lies_one hw2
end
set_option maxRecDepth 100000 in
theorem open_memA {H : Type} {enc : TypeId × Value → H} {W : World} {base : Nat} {v : Value} {d : DataW H} {ps : List MemPlace} (hval : Value.okWide Tryz.prog W .any base 24 v) (h : DataW.Trod enc Tryz.prog W 0 (fun _ => true) true 24 v d ps) : ∃ c : MM, c.Len ∧ R Tryz.prog (ghOf W) (.agg c.cs) v := by
  obtain ⟨cs, rfl, _⟩ := okWide_struct Tryz.underlying24 hval
  obtain ⟨fuel, hf⟩ := h
  obtain ⟨c, hc, hl⟩ := open_mem hf
  exact ⟨c, hc, lies_agg hl⟩
set_option maxRecDepth 100000 in
def mz (m : MM) : Nat := m.i.length + m.o.length + m.v.length
theorem szMem_ok (m : MM) (hm : m.Len) (left : Int) (h0 : 0 ≤ left) (h1 : left ≤ 1048576) : PureF Tryz.prog 5 [.agg m.cs, .int .i64 left] [.int .i64 (szR left (mz m))] := by
  refine pureF_of Tryz.func5 rfl Tryz.ntmps5 (by simp) T_ ?_
  intro f0 B Q hQ
  refine g_ [1,2] ?_
  refine n_ ?_
  refine wpM_regionK [1,2] rfl fun Q1 hQ1 => ?_
  refine S_ ?_
  refine cp_ (szInt_ok m.i left h0 h1 hm.i) Tryz.call21 ?_
  refine hQ1 _ _ (S_ ?_);clear hQ1 Q1
  refine g_ [1,2,10] ?_
  refine c_ (fun hc0 => ?_) fun hc0 => ?_
  ·
    have hz := szR_no (L := left) (m := mz m) (by have := szR_neg hc0; unfold mz; omega)
    refine g_ [4] ?_
    refine e_ Tryz.results5 ?_
    first
    | exact True.intro
    | first
      | exact hz.symm
      | (rw [hz, p3.2, p2.2, p1.2]; unfold mz; omega)
  have p1 := szR_pos hc0
  refine n_ ?_
  refine wpM_regionK [1,2] rfl fun Q1 hQ1 => ?_
  refine S_ ?_
  refine cp_ (szInt_ok m.o (szR left m.i.length) (by omega) (by omega) hm.o) Tryz.call21 ?_
  refine hQ1 _ _ (S_ ?_);clear hQ1 Q1
  refine g_ [1,2,16] ?_
  refine c_ (fun hc1 => ?_) fun hc1 => ?_
  ·
    have hz := szR_no (L := left) (m := mz m) (by have := szR_neg hc1; unfold mz; omega)
    refine g_ [4] ?_
    refine e_ Tryz.results5 ?_
    first
    | exact True.intro
    | first
      | exact hz.symm
      | (rw [hz, p3.2, p2.2, p1.2]; unfold mz; omega)
  have p2 := szR_pos hc1
  refine n_ ?_
  refine wpM_regionK [1] rfl fun Q1 hQ1 => ?_
  refine S_ ?_
  refine cp_ (szInt_ok m.v (szR (szR left m.i.length) m.o.length) (by omega) (by omega) hm.v) Tryz.call21 ?_
  refine hQ1 _ _ (S_ ?_);clear hQ1 Q1
  refine g_ [1,22] ?_
  refine c_ (fun hc2 => ?_) fun hc2 => ?_
  ·
    have hz := szR_no (L := left) (m := mz m) (by have := szR_neg hc2; unfold mz; omega)
    refine g_ [4] ?_
    refine e_ Tryz.results5 ?_
    first
    | exact True.intro
    | first
      | exact hz.symm
      | (rw [hz, p3.2, p2.2, p1.2]; unfold mz; omega)
  have p3 := szR_pos hc2
  have hz := szR_yes (L := left) (m := mz m) (by unfold mz; omega)
  refine g_ [4] ?_
  refine e_ Tryz.results5 ?_
  first
  | exact True.intro
  | first
    | exact hz.symm
    | (rw [hz, p3.2, p2.2, p1.2]; unfold mz; omega)
theorem mz_Sm {m : MM} (h : mz m ≤ 1048576) : m.Sm := by
  unfold mz at h
  exact ⟨by omega, by omega, by omega⟩
theorem same_mm (a b : MM) : (same a.i b.i && same a.o b.o && same a.v b.v) = same a b := by
  rw [Bool.eq_iff_iff]
  simp only [Bool.and_eq_true, same_iff]
  refine ⟨fun h => ?_, fun h => by subst h; simp⟩
  cases a; cases b; simp_all
theorem eqMem_ok (a b : MM) (ha : a.Sm) : PureF Tryz.prog 11 [.agg a.cs, .agg b.cs] [.bool (same a b)] := by
  refine pureF_of Tryz.func11 rfl Tryz.ntmps11 (by simp) T_ ?_
  intro f0 B Q hQ
  refine g_ [2,3] ?_
  refine n_ ?_
  refine wpM_regionK [2,3,10] rfl fun Q1 hQ1 => ?_
  refine S_ ?_
  refine cp_ (eqIntS_ok a.i b.i ha.i) Tryz.call33 ?_
  refine hQ1 _ _ (S_ ?_);clear hQ1 Q1
  refine c_ (fun hc0 => ?_) fun hc0 => ?_
  ·
    refine g_ [4] ?_
    refine e_ Tryz.results11 ?_
    first
    | exact True.intro
    | rw [← same_mm]
      simp_all
  refine n_ ?_
  refine wpM_regionK [2,3,16] rfl fun Q1 hQ1 => ?_
  refine S_ ?_
  refine cp_ (eqIntS_ok a.o b.o ha.o) Tryz.call33 ?_
  refine hQ1 _ _ (S_ ?_);clear hQ1 Q1
  refine c_ (fun hc1 => ?_) fun hc1 => ?_
  ·
    refine g_ [4] ?_
    refine e_ Tryz.results11 ?_
    first
    | exact True.intro
    | rw [← same_mm]
      simp_all
  refine n_ ?_
  refine wpM_regionK [22] rfl fun Q1 hQ1 => ?_
  refine S_ ?_
  refine cp_ (eqIntS_ok a.v b.v ha.v) Tryz.call33 ?_
  refine hQ1 _ _ (S_ ?_);clear hQ1 Q1
  refine c_ (fun hc2 => ?_) fun hc2 => ?_
  ·
    refine g_ [4] ?_
    refine e_ Tryz.results11 ?_
    first
    | exact True.intro
    | rw [← same_mm]
      simp_all
  refine g_ [4] ?_
  refine e_ Tryz.results11 ?_
  first
  | exact True.intro
  | rw [← same_mm]
    simp_all
theorem toMem_ok (m : MM) (hm : mz m ≤ 1048576) : PureF Tryz.prog 8 [.agg m.cs] [.agg m.cs] := by
  unfold mz at hm
  refine pureF_of Tryz.func8 rfl Tryz.ntmps8 (by simp) T_ ?_
  intro f0 B Q hQ
  refine g_ [1,2] ?_
  refine g_ [1,2,3] ?_
  refine n_ ?_
  refine wpM_regionK [1,2,3] rfl fun Q1 hQ1 => ?_
  refine S_ ?_
  refine cp_ (toInt_ok m.i (by omega)) Tryz.call27 ?_
  refine hQ1 _ _ (S_ ?_);clear hQ1 Q1
  refine n_ ?_
  refine wpM_regionK [1,2,3] rfl fun Q1 hQ1 => ?_
  refine S_ ?_
  refine cp_ (toInt_ok m.o (by omega)) Tryz.call27 ?_
  refine hQ1 _ _ (S_ ?_);clear hQ1 Q1
  refine n_ ?_
  refine wpM_regionK [2,3] rfl fun Q1 hQ1 => ?_
  refine S_ ?_
  refine cp_ (toInt_ok m.v (by omega)) Tryz.call27 ?_
  refine hQ1 _ _ (S_ ?_);clear hQ1 Q1
  refine g_ [2] ?_
  exact e_ Tryz.results8 True.intro
end Go.Proofs.YtnmfmeehmieifaaGreatDoor
namespace Go.Proofs.YtnmfmeehmieifaaGreatDoor
open Go Sg
set_option maxRecDepth 100000
set_option linter.unusedSimpArgs false
set_option linter.unusedVariables false
set_option linter.unusedSectionVars false
set_option maxHeartbeats 4000000
variable [Glob]
theorem own_intsI {l : List Int} {cs : List PV} {T : List (Nat × AObj)} (h : Owns Tryz.prog cs [.rows 3 (rowsI l)] T) : ∃ id, cs = [.sl 3 id 0 l.length] ∧ T = [(id, .cells 3 (ints l))] := by
  obtain ⟨id, c0, T0, cs', T', rfl, rfl, h0, h1, _, _⟩ := h.rows
  obtain ⟨rfl, rfl⟩ := h1.none
  rw [rowsI_flat] at h0
  obtain ⟨rfl, rfl⟩ := h0.litAll (ints_lit l)
  exact ⟨id, by rw [rowsI_len], rfl⟩
def mkI (k : Int) (n : Nat) : List Int := (List.range n).map fun i => k + (i : Nat)
theorem mkI_len (k : Int) (n : Nat) : (mkI k n).length = n := by simp [mkI]
theorem mkI_succ (k : Int) (n : Nat) : mkI k (n + 1) = mkI k n ++ [k + (n : Nat)] := by simp [mkI, List.range_succ]
theorem mkI_get (k : Int) (n i : Nat) (h : i < n) : (mkI k n).getD i 0 = k + (i : Nat) := by simp [mkI, List.getD, h]
@[go_sem] theorem mkI_zero (k : Int) : mkI k 0 = [] := rfl
def mkB (k : Int) (n : Nat) : List Bool := (List.range n).map fun i => Int.tmod (k + (i : Nat)) 3 == 0
@[go_sem] theorem mkB_zero (k : Int) : mkB k 0 = [] := rfl
theorem splice_one {a b : List PV} {x y : PV} {i : Nat} (h : a.length = i) : splice (a ++ x :: b) i [y] = a ++ y :: b := by
  subst h
  simp [splice]
theorem mkI_set (k : Int) (l : List Int) (i : Nat) (h : i < l.length) : splice (ints (mkI k i ++ l.drop i)) i [.int .i64 (k + (i : Nat))] = ints (mkI k (i + 1) ++ l.drop (i + 1)) := by
  rw [List.drop_eq_getElem_cons h, mkI_succ]
  simp only [ints, List.map_append, List.map_cons, List.map_nil, List.append_assoc, List.cons_append, List.nil_append]
  exact splice_one (by simp [mkI_len])
theorem markIntS_ok (id : Nat) (l : List Int) (hl : l.length ≤ 1048576) (k : Int) (h0 : 0 ≤ k) (h1 : k ≤ 1099511627776) : CallF Tryz.prog 35 [.sl 3 id 0 l.length, .int .i64 k] [(id, .cells 3 (ints l))] 0 (SetR Tryz.prog [.sl 3 id 0 l.length] (k + l.length) [.rows 3 (rowsI (mkI k l.length))] [(id, .cells 3 (ints l))]) := by
  refine callF_of' Tryz.func35 rfl Tryz.ntmps35 (by simp) ?_
  intro f0 B ns Q hB hns hQ
  obtain rfl : ns = [] := List.eq_nil_of_length_eq_zero hns
  have hid : id < B := hB id (by simp [hasKey, lk])
  refine g_ [0,1] ?_
  refine g_ [0,1,5] ?_
  refine n_ ?_
  refine wpM_loopS (fun s n s' => ∃ (i0 M0 : Nat) (K : Int), i0 + n = l.length ∧ s.M ≤ M0 ∧ (K = k + (i0 : Nat)) ∧ s' = { s with env := setE 5 (.int .i64 (i0 : Nat)) (setE 1 (.int .i64 K) s.env), l := [(id, .cells 3 (ints (mkI k i0 ++ l.drop i0)))], M := M0 }) (l.length) ?_ ?_
  ·
    refine .of' _ _ ⟨0, _, k, by omega, Nat.le_refl _, by simp, rfl⟩ ?_ ?_ ?_ <;> exact L_
  rintro n0 s' ⟨i0, M0, K, hi0, hM0, hv0, rfl⟩
  try dsimp only at hM0
  try refine S_ ?_
  refine g_ [0,1,5,9] ?_
  refine c_ (fun hc0 => ?_) fun hc0 => ?_
  ·
    have hl0 : i0 < l.length := by omega
    have hfl : (ints (mkI k i0 ++ l.drop i0)).length = l.length := by simp [ints, mkI_len]; omega
    have hfs := mkI_set k l i0 hl0
    rw [← hv0] at hfs
    refine n_ ?_
    refine wpM_regionK [0,1,5] rfl fun Q1 hQ1 => ?_
    simp -implicitDefEqProofs (disch := omega) only [go_sem, hfl, hfs]
    refine hQ1 _ _ (S_ ?_);clear hQ1 Q1
    refine g_ [0,1,5] ?_
    refine g_ [0,1,5] ?_
    refine .of' _ _ ⟨n0 - 1, by omega, i0 + 1, _, K + 1, by omega, M_, ?_, rfl⟩ L_ L_ L_
    first | trivial | omega
  refine n_ ?_
  have hie : i0 = l.length := by omega
  rw [hie, List.drop_length, List.append_nil]
  refine g_ [4] ?_
  refine wpM_ret ?_
  try refine S_ ?_
  have hK : K = k + (l.length : Int) := by rw [hv0, hie]
  subst hK
  have hO := own_ints id (mkI k l.length)
  rw [mkI_len] at hO
  exact hQ _ _ (retSet rfl hO rfl rfl rfl rfl (by rw [Tryz.results35] <;> simp (maxSteps := 1000000) -implicitDefEqProofs (disch := omega) only [go_sem] <;> rfl) (fun q hq => by simp at hq; subst hq; simp -implicitDefEqProofs (disch := omega) only [go_sem]) (by simp -implicitDefEqProofs (disch := omega) only [go_sem, true_or, or_true]))
theorem heldIntS_ok (w : Nat) (hn : w ≤ 1048576) (k : Int) (h0 : 0 ≤ k) (h1 : k ≤ 1099511627776) : PureF Tryz.prog 37 [.rows 3 (rowsI (mkI k w)), .int .i64 k] [.int .i64 (k + w)] := by
  have hll := mkI_len k w
  refine pureF_of Tryz.func37 rfl Tryz.ntmps37 (by simp) T_ ?_
  intro f0 B Q hQ
  refine g_ [0,1] ?_
  refine g_ [0,1,5] ?_
  refine n_ ?_
  refine wpM_loopS (fun s n s' => ∃ (i0 M0 : Nat) (K : Int), i0 + n = w ∧ s.M ≤ M0 ∧ (K = k + (i0 : Nat)) ∧ s' = { s with env := setE 5 (.int .i64 (i0 : Nat)) (setE 1 (.int .i64 K) s.env), M := M0 }) (w) ?_ ?_
  ·
    refine .of' _ _ ⟨0, _, k, by omega, Nat.le_refl _, by simp, rfl⟩ ?_ ?_ ?_ <;> exact L_
  rintro n0 s' ⟨i0, M0, K, hi0, hM0, hv0, rfl⟩
  try dsimp only at hM0
  try refine S_ ?_
  refine g_ [0,1,5,9] ?_
  refine c_ (fun hc0 => ?_) fun hc0 => ?_
  ·
    have hl0 : i0 < w := by omega
    have hg := mkI_get k w i0 hl0
    refine g_ [0,1,5,17] ?_
    refine c_ (fun hc1 => ?_) fun hc1 => ?_
    · exfalso; rw [hg, hv0] at hc1; simp at hc1
    refine g_ [0,1,5] ?_
    refine g_ [0,1,5] ?_
    refine .of' _ _ ⟨n0 - 1, by omega, i0 + 1, _, K + 1, by omega, M_, ?_, rfl⟩ L_ L_ L_
    first | trivial | omega
  refine g_ [4] ?_
  refine e_ Tryz.results37 ?_
  first
  | exact True.intro
  | rw [hv0]; simp; omega
theorem own_intsX {x n : Nat} {l : List Int} {T : List (Nat × AObj)} (h : Owns Tryz.prog [.sl 3 x 0 n] [.rows 3 (rowsI l)] T) : T = [(x, .cells 3 (ints l))] := by
  obtain ⟨id, h1, rfl⟩ := own_intsI h
  injection h1 with h1 _
  injection h1 with _ h1 _ _
  rw [h1]
def MM.oc (m : MM) (x y z : Nat) : List PV := [.sl 3 x 0 m.i.length, .sl 3 y 0 m.o.length, .sl 3 z 0 m.v.length]
theorem own_mem (m : MM) (x y z : Nat) : Owns Tryz.prog (m.oc x y z) m.cs (m.ol x y z) := (own_ints x m.i).app ((own_ints y m.o).app (own_ints z m.v))
theorem own_memI {m : MM} {cs : List PV} {T : List (Nat × AObj)} (h : Owns Tryz.prog cs m.cs T) : ∃ x y z, cs = m.oc x y z ∧ T = m.ol x y z := by
  obtain ⟨c1, c2, T1, T2, rfl, rfl, h1, h2⟩ := Owns.split (q1 := [.rows 3 (rowsI m.i)]) (q2 := [.rows 3 (rowsI m.o), .rows 3 (rowsI m.v)]) h
  obtain ⟨c3, c4, T3, T4, rfl, rfl, h3, h4⟩ := Owns.split (q1 := [.rows 3 (rowsI m.o)]) (q2 := [.rows 3 (rowsI m.v)]) h2
  obtain ⟨x, rfl, rfl⟩ := own_intsI h1
  obtain ⟨y, rfl, rfl⟩ := own_intsI h3
  obtain ⟨z, rfl, rfl⟩ := own_intsI h4
  exact ⟨x, y, z, rfl, rfl⟩
def mkM (k : Int) (m : MM) : MM := ⟨mkI k m.i.length, mkI (k + m.i.length) m.o.length, mkI (k + m.i.length + m.o.length) m.v.length⟩
theorem mkM_oc (k : Int) (m : MM) (x y z : Nat) : (mkM k m).oc x y z = m.oc x y z := by simp [MM.oc, mkM, mkI_len]
theorem markMem_ok (m : MM) (hm : mz m ≤ 1048576) (x y z : Nat) (h1 : x ≠ y) (h2 : x ≠ z) (h3 : y ≠ z) (k : Int) (hk0 : 0 ≤ k) (hk1 : k ≤ 1000000000) : CallF Tryz.prog 13 [.agg (m.oc x y z), .int .i64 k] (m.ol x y z) 0 (SetR Tryz.prog (m.oc x y z) (k + mz m) (mkM k m).cs (m.ol x y z)) := by
  unfold mz at hm
  have hmz : (k + mz m : Int) = k + m.i.length + m.o.length + m.v.length := by unfold mz; omega
  refine callF_of' Tryz.func13 rfl Tryz.ntmps13 (by simp) ?_
  intro f0 B ns Q hB hns hQ
  obtain rfl : ns = [] := List.eq_nil_of_length_eq_zero hns
  have hx : x < B := hB x (by simp [hasKey, lk, MM.ol])
  have hy : y < B := hB y (by simp [hasKey, lk, MM.ol, h1])
  have hz : z < B := hB z (by simp [hasKey, lk, MM.ol, h2, h3])
  unfold MM.oc
  refine g_ [1,2] ?_
  refine n_ ?_
  refine wpM_regionK [1,2] rfl fun Q1 hQ1 => ?_
  refine S_ ?_
  refine call_set (ps := [.sl 3 x 0 m.i.length, .int .i64 k]) [(B, _)] [(y, _), (z, _)] (markIntS_ok x m.i (by omega) k hk0 (by omega)) Tryz.call35 rfl rfl rfl F_ rfl (by simp [ksL]; omega) ?_
  intro T' hO hks
  obtain rfl := own_intsX hO
  refine S_ ?_
  refine hQ1 _ _ (S_ ?_);clear hQ1 Q1
  refine n_ ?_
  refine wpM_regionK [1,2] rfl fun Q1 hQ1 => ?_
  refine S_ ?_
  refine call_set (ps := [.sl 3 y 0 m.o.length, .int .i64 (k + m.i.length)]) [(B, _), (x, _)] [(z, _)] (markIntS_ok y m.o (by omega) (k + m.i.length) (by omega) (by omega)) Tryz.call35 rfl rfl rfl F_ rfl (by simp [ksL]; omega) ?_
  intro T' hO hks
  obtain rfl := own_intsX hO
  refine S_ ?_
  refine hQ1 _ _ (S_ ?_);clear hQ1 Q1
  refine n_ ?_
  refine wpM_regionK [1] rfl fun Q1 hQ1 => ?_
  refine S_ ?_
  refine call_set (ps := [.sl 3 z 0 m.v.length, .int .i64 (k + m.i.length + m.o.length)]) [(B, _), (x, _), (y, _)] [] (markIntS_ok z m.v (by omega) (k + m.i.length + m.o.length) (by omega) (by omega)) Tryz.call35 rfl rfl rfl F_ rfl (by simp [ksL]; omega) ?_
  intro T' hO hks
  obtain rfl := own_intsX hO
  refine S_ ?_
  refine hQ1 _ _ (S_ ?_);clear hQ1 Q1
  refine g_ [4] ?_
  refine wpM_ret ?_
  try refine S_ ?_
  have hO := own_mem (mkM k m) x y z
  rw [mkM_oc] at hO
  refine hQ _ _ (retSet rfl hO rfl rfl rfl rfl (by rw [hmz]; exact (by rw [Tryz.results13] <;> simp (maxSteps := 1000000) -implicitDefEqProofs (disch := omega) only [go_sem] <;> rfl)) (fun q hq => ?_) (by simp -implicitDefEqProofs (disch := omega) only [go_sem, true_or, or_true]))
  simp [MM.ol, mkM] at hq
  rcases hq with rfl | rfl | rfl <;> simp -implicitDefEqProofs (disch := omega) only [go_sem, h1, h2, h3]
theorem heldMem_ok (k : Int) (m : MM) (hm : mz m ≤ 1048576) (hk0 : 0 ≤ k) (hk1 : k ≤ 1000000000) : PureF Tryz.prog 15 [.agg (mkM k m).cs, .int .i64 k] [.int .i64 (k + mz m)] := by
  unfold mz at hm
  have hmz : (k + mz m : Int) = k + m.i.length + m.o.length + m.v.length := by unfold mz; omega
  unfold mkM
  refine pureF_of Tryz.func15 rfl Tryz.ntmps15 (by simp) T_ ?_
  intro f0 B Q hQ
  refine g_ [1,2] ?_
  refine n_ ?_
  refine wpM_regionK [1,2] rfl fun Q1 hQ1 => ?_
  refine S_ ?_
  refine cp_ (heldIntS_ok m.i.length (by omega) k hk0 (by omega)) Tryz.call37 ?_
  refine hQ1 _ _ (S_ ?_);clear hQ1 Q1
  refine g_ [1,2,10] ?_
  refine c_ (fun hc0 => ?_) fun hc0 => ?_
  · exfalso; omega
  refine n_ ?_
  refine wpM_regionK [1,2] rfl fun Q1 hQ1 => ?_
  refine S_ ?_
  refine cp_ (heldIntS_ok m.o.length (by omega) (k + m.i.length) (by omega) (by omega)) Tryz.call37 ?_
  refine hQ1 _ _ (S_ ?_);clear hQ1 Q1
  refine g_ [1,2,16] ?_
  refine c_ (fun hc1 => ?_) fun hc1 => ?_
  · exfalso; omega
  refine n_ ?_
  refine wpM_regionK [1] rfl fun Q1 hQ1 => ?_
  refine S_ ?_
  refine cp_ (heldIntS_ok m.v.length (by omega) (k + m.i.length + m.o.length) (by omega) (by omega)) Tryz.call37 ?_
  refine hQ1 _ _ (S_ ?_);clear hQ1 Q1
  refine g_ [1,22] ?_
  refine c_ (fun hc2 => ?_) fun hc2 => ?_
  · exfalso; omega
  refine g_ [4] ?_
  refine e_ Tryz.results15 ?_
  first
  | exact True.intro
  | rw [hmz]
end Go.Proofs.YtnmfmeehmieifaaGreatDoor
namespace Go.Proofs.YtnmfmeehmieifaaGreatDoor
open Go Sg
set_option maxRecDepth 100000
set_option linter.unusedSimpArgs false
set_option linter.unusedVariables false
set_option linter.unusedSectionVars false
set_option maxHeartbeats 4000000
variable [Glob]
end Go.Proofs.YtnmfmeehmieifaaGreatDoor
namespace Go.Proofs.YtnmfmeehmieifaaGreatDoor
open Go Sg Go.WideShapes
set_option maxRecDepth 100000
set_option linter.unusedSimpArgs false
set_option linter.unusedVariables false
set_option linter.unusedSectionVars false
set_option maxHeartbeats 4000000
variable [Glob]
mutual
def Sm.lcs : Sm → List PV
  | .mk k a e th el => [.int .i64 k, .int .i64 a.kind, .int .i64 a.at', .int .i64 e.kind, .int .i64 e.n, .int .i64 e.a.kind, .int .i64 e.a.at', .rows 58 (Ex.lcsL e.kids), .rows 60 (Sm.lcsL th), .rows 60 (Sm.lcsL el)]
def Sm.lcsL : List Sm → List (List PV)
  | [] => []
  | s :: l => s.lcs :: Sm.lcsL l
end
@[go_sem] theorem Sm.lcs_eq (s : Sm) : s.lcs = [.int .i64 s.kind, .int .i64 s.to'.kind, .int .i64 s.to'.at', .int .i64 s.e.kind, .int .i64 s.e.n, .int .i64 s.e.a.kind, .int .i64 s.e.a.at', .rows 58 (Ex.lcsL s.e.kids), .rows 60 (Sm.lcsL s.th), .rows 60 (Sm.lcsL s.el)] := by cases s; simp only [Sm.lcs, Sm.kind, Sm.to', Sm.e, Sm.th, Sm.el]
theorem Sm.lcsL_map (l : List Sm) : Sm.lcsL l = l.map Sm.lcs := by
  induction l with
  | nil => rfl
  | cons e l ih => simp [Sm.lcsL, ih]
@[go_sem] theorem Sm.lcsL_len (l : List Sm) : (Sm.lcsL l).length = l.length := by simp [Sm.lcsL_map]
@[go_sem] theorem Sm.lcsL_get (l : List Sm) (k : Nat) (h : k < l.length) : (Sm.lcsL l).getD k [] = (l.getD k default).lcs := by simp [Sm.lcsL_map, List.getD, h]
mutual
def Sm.Len : Sm → Prop | .mk _ _ e th el => e.Len ∧ (th.length ≤ maxLen ∧ Sm.LenL th) ∧ (el.length ≤ maxLen ∧ Sm.LenL el)
def Sm.LenL : List Sm → Prop
  | [] => True
  | e :: l => e.Len ∧ Sm.LenL l
end
theorem Sm.LenL_iff (l : List Sm) : Sm.LenL l ↔ ∀ e ∈ l, e.Len := by
  induction l with
  | nil => simp [Sm.LenL]
  | cons e l ih => simp [Sm.LenL, ih]
theorem Sm.Len_inv {s : Sm} (h : s.Len) : s.e.Len ∧ (s.th.length ≤ maxLen ∧ Sm.LenL s.th) ∧ (s.el.length ≤ maxLen ∧ Sm.LenL s.el) := by cases s; exact h
theorem slcs_pure (e : Sm) : PV.pureL e.lcs = true := by rw [Sm.lcs_eq]; rfl
theorem slcs_cell (e : Sm) : ∀ y ∈ e.lcs, y.cell = true := by
  rw [Sm.lcs_eq]
  intro y hy
  simp only [List.mem_cons, List.not_mem_nil, or_false] at hy
  rcases hy with rfl | rfl | rfl | rfl | rfl | rfl | rfl | rfl | rfl | rfl <;> rfl
section
variable {H : Type} {enc : TypeId × Value → H} {W : World} {base : Nat} {spare : Nat → Bool} {held : Bool}
theorem open_stm : ∀ (fuel : Nat) (cs : List Value) (x : DataW H × List MemPlace), DataW.trod enc Tryz.prog W base spare held fuel 60 cs = some x → ∃ e : Sm, e.Len ∧ Lies Tryz.prog W e.lcs cs := by
  intro fuel
  induction fuel using Nat.strongRecOn with
  | _ fuel ih =>
    intro cs x h
    obtain ⟨xs, n, hf, hx, hl, hxs, hfs⟩ := DataW.trod_struct Tryz.underlying60 h
    rw [cellsOf60] at hl
    match cs, hl with
    | [c0, c1, c2, c3, c4, c5, c6, c7, c8, c9], _ =>
      have h0 := hfs 0 _ rfl
      have h1 := hfs 1 _ rfl
      have h2 := hfs 2 _ rfl
      have h3 := hfs 3 _ rfl
      have h4 := hfs 4 _ rfl
      have l0 : (0 : Nat) < xs.length := by rw [hxs]; decide
      have l1 : (1 : Nat) < xs.length := by rw [hxs]; decide
      have l2 : (2 : Nat) < xs.length := by rw [hxs]; decide
      have l3 : (3 : Nat) < xs.length := by rw [hxs]; decide
      have l4 : (4 : Nat) < xs.length := by rw [hxs]; decide
      rw [List.getElem?_eq_getElem l0] at h0
      rw [List.getElem?_eq_getElem l1] at h1
      rw [List.getElem?_eq_getElem l2] at h2
      rw [List.getElem?_eq_getElem l3] at h3
      rw [List.getElem?_eq_getElem l4] at h4
      obtain ⟨k, hk, _⟩ := open_int Tryz.underlying3 h0
      obtain ⟨a, ha⟩ := open_ad h1
      obtain ⟨w, hw1, hw2⟩ := open_ex _ _ _ h2
      obtain ⟨l, hl1, hl2, hl3⟩ := open_slice Tryz.underlying25 (by rw [cellsOf60]; decide) Sm.lcs Sm.Len (fun e => by rw [cellsOf60, Sm.lcs_eq]; rfl) slcs_pure slcs_cell (fun j cs' x' hj h' => ih j (by omega) cs' x' h') h3
      obtain ⟨r, hr1, hr2, hr3⟩ := open_slice Tryz.underlying25 (by rw [cellsOf60]; decide) Sm.lcs Sm.Len (fun e => by rw [cellsOf60, Sm.lcs_eq]; rfl) slcs_pure slcs_cell (fun j cs' x' hj h' => ih j (by omega) cs' x' h') h4
      simp [cellsOf3] at hk
      simp [cellsOf55] at ha
      simp [cellsOf58] at hw2
      simp [cellsOf25] at hl3 hr3
      rw [Ex.lcs_eq] at hw2
      have inL : ∀ l : List Sm, (∀ i, i < l.length → (l.getD i default).Len) → Sm.LenL l := fun l hl1 => (Sm.LenL_iff l).2 fun e he => by
        obtain ⟨i, hi, rfl⟩ := List.getElem_of_mem he
        have := hl1 i hi
        simpa [List.getD, hi] using this
      refine ⟨.mk k a w l r, ⟨hw1, ⟨hl2, inL l hl1⟩, hr2, inL r hr1⟩, rfl, fun j hj => ?_⟩
      match j, hj with
      | 0, _ => simp only [Sm.lcs, List.getElem_cons_zero]; rw [hk]; exact .int _ _
      | 1, _ => simp only [Sm.lcs]; rw [ha.1]; exact .int _ _
      | 2, _ => simp only [Sm.lcs]; rw [ha.2]; exact .int _ _
      | 3, _ => exact hw2.2 0 (by simp)
      | 4, _ => exact hw2.2 1 (by simp)
      | 5, _ => exact hw2.2 2 (by simp)
      | 6, _ => exact hw2.2 3 (by simp)
      | 7, _ => exact hw2.2 4 (by simp)
      | 8, _ => simp only [Sm.lcs, Sm.lcsL_map]; exact lies_one hl3
      | 9, _ => simp only [Sm.lcs, Sm.lcsL_map]; exact lies_one hr3
theorem open_stms {fuel : Nat} {cs : List Value} {x : DataW H × List MemPlace} (h : DataW.trod enc Tryz.prog W base spare held fuel 25 cs = some x) : ∃ l : List Sm, l.length ≤ maxLen ∧ Sm.LenL l ∧ Lies Tryz.prog W [.rows 60 (Sm.lcsL l)] cs := by
  obtain ⟨l, hl1, hl2, hl3⟩ := open_slice Tryz.underlying25 (by rw [cellsOf60]; decide) Sm.lcs Sm.Len (fun e => by rw [cellsOf60, Sm.lcs_eq]; rfl) slcs_pure slcs_cell (fun j cs' x' hj h' => open_stm j cs' x' h') h
  refine ⟨l, hl2, (Sm.LenL_iff l).2 fun e he => ?_, by rw [Sm.lcsL_map]; exact hl3⟩
  obtain ⟨i, hi, rfl⟩ := List.getElem_of_mem he
  have := hl1 i hi
  simpa [List.getD, hi] using this
end
mutual
def Sm.bz : Sm → Nat | .mk _ _ e th el => kz e + Sm.bzL th + Sm.bzL el
def Sm.bzL : List Sm → Nat | [] => 0 | s :: l => 1 + s.bz + Sm.bzL l
end
theorem Sm.bz_eq (s : Sm) : s.bz = kz s.e + Sm.bzL s.th + Sm.bzL s.el := by cases s; simp only [Sm.bz, Sm.e, Sm.th, Sm.el]
theorem Sm.bzL_sum (l : List Sm) : Sm.bzL l = l.length + (l.map Sm.bz).sum := by
  induction l with
  | nil => rfl
  | cons e l ih => simp only [Sm.bzL, ih, List.length_cons, List.map_cons, List.sum_cons]; omega
theorem Sm.bz_szL : ∀ (N : Nat) (l : List Sm), Sm.szL l ≤ N → Sm.szL l ≤ 2 * Sm.bzL l := by
  intro N
  induction N using Nat.strongRecOn with
  | _ N ih =>
    intro l
    induction l with
    | nil => intro _; simp [Sm.szL]
    | cons s l ihl =>
      intro hN
      simp only [Sm.szL] at hN ⊢
      have h1 := s.sz_eq
      have h2 := s.bz_eq
      have h3 := s.e.sz_eq
      have h4 := ih (Sm.szL s.th) (by omega) s.th (Nat.le_refl _)
      have h5 := ih (Sm.szL s.el) (by omega) s.el (Nat.le_refl _)
      have h6 := ihl (by omega)
      simp only [Sm.bzL]
      unfold kz at h2
      omega
def SzS (l : List Sm) : Prop := ∀ left : Int, 0 ≤ left → left ≤ 1048576 → PureF Tryz.prog 6 [.rows 60 (Sm.lcsL l), .int .i64 left] [.int .i64 (szR left (Sm.bzL l))]
theorem szStmt_ok' (s : Sm) (hs : s.Len) (ih1 : SzS s.th) (ih2 : SzS s.el) (left : Int) (h0 : 0 ≤ left) (h1 : left ≤ 1048576) : PureF Tryz.prog 22 [.agg s.lcs, .int .i64 left] [.int .i64 (szR left s.bz)] := by
  have hb := s.bz_eq
  have hk := Ex.kids_Len (Sm.Len_inv hs).1
  refine pureF_of Tryz.func22 rfl Tryz.ntmps22 (by simp) T_ ?_
  intro f0 B Q hQ
  refine g_ [1,2] ?_
  refine n_ ?_
  refine wpM_regionK [1,2] rfl fun Q1 hQ1 => ?_
  refine S_ ?_
  refine cp_ (szExpr_ok' s.e (szExprS_ok _ _ (Nat.le_refl _) hk.1 hk.2) left h0 h1) Tryz.call57 ?_
  refine hQ1 _ _ (S_ ?_);clear hQ1 Q1
  refine g_ [1,2,10] ?_
  refine c_ (fun hc0 => ?_) fun hc0 => ?_
  ·
    have hz := szR_no (L := left) (m := s.bz) (by have := szR_neg hc0; omega)
    refine g_ [4] ?_
    refine e_ Tryz.results22 ?_
    first
    | exact True.intro
    | first
      | exact hz.symm
      | (rw [hz, p3.2, p2.2, p1.2]; omega)
  have p1 := szR_pos hc0
  refine n_ ?_
  refine wpM_regionK [1,2] rfl fun Q1 hQ1 => ?_
  refine S_ ?_
  refine cp_ (ih1 (szR left (kz s.e)) (by omega) (by omega)) Tryz.call6 ?_
  refine hQ1 _ _ (S_ ?_);clear hQ1 Q1
  refine g_ [1,2,16] ?_
  refine c_ (fun hc1 => ?_) fun hc1 => ?_
  ·
    have hz := szR_no (L := left) (m := s.bz) (by have := szR_neg hc1; omega)
    refine g_ [4] ?_
    refine e_ Tryz.results22 ?_
    first
    | exact True.intro
    | first
      | exact hz.symm
      | (rw [hz, p3.2, p2.2, p1.2]; omega)
  have p2 := szR_pos hc1
  refine n_ ?_
  refine wpM_regionK [1] rfl fun Q1 hQ1 => ?_
  refine S_ ?_
  refine cp_ (ih2 (szR (szR left (kz s.e)) (Sm.bzL s.th)) (by omega) (by omega)) Tryz.call6 ?_
  refine hQ1 _ _ (S_ ?_);clear hQ1 Q1
  refine g_ [1,22] ?_
  refine c_ (fun hc2 => ?_) fun hc2 => ?_
  ·
    have hz := szR_no (L := left) (m := s.bz) (by have := szR_neg hc2; omega)
    refine g_ [4] ?_
    refine e_ Tryz.results22 ?_
    first
    | exact True.intro
    | first
      | exact hz.symm
      | (rw [hz, p3.2, p2.2, p1.2]; omega)
  have p3 := szR_pos hc2
  have hz := szR_yes (L := left) (m := s.bz) (by omega)
  refine g_ [4] ?_
  refine e_ Tryz.results22 ?_
  first
  | exact True.intro
  | first
    | exact hz.symm
    | (rw [hz, p3.2, p2.2, p1.2]; omega)
theorem szStmtS_ok : ∀ (N : Nat) (l : List Sm), Sm.bzL l ≤ N → l.length ≤ maxLen → Sm.LenL l → SzS l := by
  intro N
  induction N using Nat.strongRecOn with
  | _ N ih =>
    intro l hN hl hL left h0 h1
    rw [max_eq] at hl
    refine pureF_of Tryz.func6 rfl Tryz.ntmps6 (by simp) T_ ?_
    intro f0 B Q hQ
    refine g_ [0,1] ?_
    refine g_ [0,1] ?_
    refine g_ [0,1,11] ?_
    refine c_ (fun hc0 => ?_) fun hc0 => ?_
    ·
      have hz := szR_no (L := left) (m := Sm.bzL l) (by rw [Sm.bzL_sum]; omega)
      refine g_ [4] ?_
      refine e_ Tryz.results6 ?_
      first
      | exact True.intro
      | rw [hz]
    have hle : (l.length : Int) ≤ left := by omega
    refine g_ [0,1,5] ?_
    refine n_ ?_
    refine wpM_loopS (fun s n s' => ∃ (i0 M0 : Nat) (L : Int), i0 + n = l.length ∧ s.M ≤ M0 ∧ (0 ≤ L ∧ L + l.length + (((l.take i0).map Sm.bz).sum : Nat) = left) ∧ s' = { s with env := setE 5 (.int .i64 (i0 : Nat)) (setE 1 (.int .i64 L) s.env) , M := M0 }) (l.length) ?_ ?_
    ·
      refine .of' _ _ ⟨0, _, left - l.length, by omega, Nat.le_refl _, ⟨by omega, by simp⟩, rfl⟩ ?_ ?_ ?_ <;> exact L_
    rintro n0 s' ⟨i0, M0, L, hi0, hM0, hv0, rfl⟩
    try dsimp only at hM0
    try refine S_ ?_
    refine g_ [0,1,5,15] ?_
    refine c_ (fun hc1 => ?_) fun hc1 => ?_
    ·
      have hl0 : i0 < l.length := by omega
      have hmem : l.getD i0 default ∈ l := by rw [List.getD_eq_getElem?_getD, List.getElem?_eq_getElem hl0]; exact List.getElem_mem hl0
      have hLe := (Sm.LenL_iff l).1 hL _ hmem
      have hLi := Sm.Len_inv hLe
      have hst := sum_take Sm.bz l i0 hl0
      have hsl := sum_le Sm.bz l (i0 + 1)
      have hbb := (l.getD i0 default).bz_eq
      have hkl : (l.getD i0 default).bz < N := by
        have := Sm.bzL_sum l
        omega
      refine n_ ?_
      refine wpM_regionK [0,1,5] rfl fun Q1 hQ1 => ?_
      refine S_ ?_
      refine cp_ (szStmt_ok' (l.getD i0 default) hLe (ih _ (by omega) _ (Nat.le_refl _) hLi.2.1.1 hLi.2.1.2) (ih _ (by omega) _ (Nat.le_refl _) hLi.2.2.1 hLi.2.2.2) L hv0.1 (by omega)) Tryz.call22 ?_
      refine hQ1 _ _ (S_ ?_);clear hQ1 Q1
      refine g_ [0,1,5,25] ?_
      refine c_ (fun hc2 => ?_) fun hc2 => ?_
      ·
        have hn := szR_neg (L := L) (m := (l.getD i0 default).bz) hc2
        have hz := szR_no (L := left) (m := Sm.bzL l) (by rw [Sm.bzL_sum]; omega)
        refine g_ [4] ?_
        refine e_ Tryz.results6 ?_
        first
        | exact True.intro
        | rw [hz]
      have hp := szR_pos (L := L) (m := (l.getD i0 default).bz) hc2
      refine g_ [0,1,5] ?_
      refine .of' _ _ ⟨n0 - 1, by omega, i0 + 1, _, szR L (l.getD i0 default).bz, by omega, M_, ?_, rfl⟩ L_ L_ L_
      rw [hst, hp.2]
      omega
    refine n_ ?_
    have hi : i0 = l.length := by omega
    have hz : szR left (Sm.bzL l) = L := by
      rw [hi, List.take_of_length_le (Nat.le_refl _)] at hv0
      rw [Sm.bzL_sum, szR_yes (by omega)]; omega
    refine g_ [4] ?_
    refine e_ Tryz.results6 ?_
    first
    | exact True.intro
    | rw [hz]
abbrev sZ : List PV := [.int .i64 0, .int .i64 0, .int .i64 0, .int .i64 0, .int .i64 0, .int .i64 0, .int .i64 0, .emp, .emp, .emp]
theorem scs_len (e : Sm) : e.cs.length = 10 := by rw [Sm.cs_eq]; rfl
theorem scs_pureL (e : Sm) : PV.pureL e.cs = true := by rw [Sm.cs_eq]; rfl
def ToSt (l : List Sm) : Prop := PureF Tryz.prog 9 [.rows 60 (Sm.lcsL l)] [.rows 70 (Sm.csL l)]
theorem toStmt_ok' (s : Sm) (he : kz s.e ≤ 1048576) (ih1 : ToSt s.th) (ih2 : ToSt s.el) : PureF Tryz.prog 28 [.agg s.lcs] [.agg s.cs] := by
  refine pureF_of Tryz.func28 rfl Tryz.ntmps28 (by simp) T_ ?_
  intro f0 B Q hQ
  refine g_ [1,2] ?_
  refine g_ [1,2,3] ?_
  refine g_ [1,2,3] ?_
  refine n_ ?_
  refine wpM_regionK [1,2,3] rfl fun Q1 hQ1 => ?_
  refine S_ ?_
  refine cp_ (toAddr_ok s.to') Tryz.call65 ?_
  refine hQ1 _ _ (S_ ?_);clear hQ1 Q1
  refine n_ ?_
  refine wpM_regionK [1,2,3] rfl fun Q1 hQ1 => ?_
  refine S_ ?_
  refine cp_ (toExpr_ok s.e he) Tryz.call66 ?_
  refine hQ1 _ _ (S_ ?_);clear hQ1 Q1
  refine n_ ?_
  refine wpM_regionK [1,2,3] rfl fun Q1 hQ1 => ?_
  refine S_ ?_
  refine cp_ (ih1) Tryz.call9 ?_
  refine hQ1 _ _ (S_ ?_);clear hQ1 Q1
  refine n_ ?_
  refine wpM_regionK [2,3] rfl fun Q1 hQ1 => ?_
  refine S_ ?_
  refine cp_ (ih2) Tryz.call9 ?_
  refine hQ1 _ _ (S_ ?_);clear hQ1 Q1
  refine g_ [2] ?_
  exact e_ Tryz.results28 True.intro
theorem toStmtS_ok : ∀ (N : Nat) (l : List Sm), Sm.bzL l ≤ N → Sm.bzL l ≤ 1048576 → ToSt l := by
  intro N
  induction N using Nat.strongRecOn with
  | _ N ih =>
    intro l hN hs
    have hll := Sm.bzL_sum l
    refine pureF_of Tryz.func9 rfl Tryz.ntmps9 (by simp) T_ ?_
    intro f0 B Q hQ
    refine g_ [0] ?_
    refine g_ [0,3] ?_
    rw [← fillC_zero Sm.cs sZ l]
    refine g_ [0,3,4] ?_
    refine n_ ?_
    refine wpM_loopS (fun s n s' => ∃ (i0 M0 : Nat) , i0 + n = l.length ∧ s.M ≤ M0 ∧ (Tr i0) ∧ s' = { s with env := setE 4 (.int .i64 (i0 : Nat)) s.env, l := [(B, .cells 70 (fillC Sm.cs sZ l i0))], M := M0 }) (l.length) ?_ ?_
    ·
      refine .of' _ _ ⟨0, _, by omega, Nat.le_refl _, trivial, rfl⟩ ?_ ?_ ?_ <;> exact L_
    rintro n0 s' ⟨i0, M0, hi0, hM0, hv0, rfl⟩
    try dsimp only at hM0
    try refine S_ ?_
    refine g_ [0,3,4,11] ?_
    refine c_ (fun hc0 => ?_) fun hc0 => ?_
    ·
      have hl0 : i0 < l.length := by omega
      have hfl := fillC_len Sm.cs sZ (w := 10) scs_len rfl l i0 (by omega)
      have hfs := fillC_set Sm.cs sZ (w := 10) scs_len rfl l i0 hl0
      rw [Sm.cs_eq] at hfs
      have hg := sum_get Sm.bz l i0 hl0
      rw [Sm.bz_eq] at hg
      refine n_ ?_
      refine wpM_regionK [0,3,4] rfl fun Q1 hQ1 => ?_
      simp -implicitDefEqProofs (disch := omega) only [go_sem, hfl, hfs]
      refine call_p (toStmt_ok' (l.getD i0 default) (by omega) (ih _ (by omega) _ (Nat.le_refl _) (by omega)) (ih _ (by omega) _ (Nat.le_refl _) (by omega))) Tryz.call28 rfl rfl rfl (by first | rfl | (simp -implicitDefEqProofs (disch := omega) only [go_sem] <;> rfl)) ?_
      simp -implicitDefEqProofs (disch := omega) only [go_sem, hfl, hfs]
      refine hQ1 _ _ (S_ ?_);clear hQ1 Q1
      refine g_ [0,3,4] ?_
      refine .of' _ _ ⟨n0 - 1, by omega, i0 + 1, _, by omega, M_, ?_, rfl⟩ L_ L_ L_
      first | trivial | omega
    refine n_ ?_
    have hie : i0 = l.length := by omega
    rw [hie, fillC_all]
    refine frzF Sm.cs 70 (by rw [cellsOf70]; decide) (fun e => by rw [cellsOf70]; exact scs_len e) scs_pureL B l T_ 70 T_ ?_
    rw [← Sm.csL_map]
    refine S_ ?_
    refine g_ [2] ?_
    refine e_ Tryz.results9 ?_
    first
    | exact True.intro
    | rfl
theorem sm_ext {a b : Sm} (h1 : a.kind = b.kind) (h2 : a.to' = b.to') (h3 : a.e = b.e) (h4 : a.th = b.th) (h5 : a.el = b.el) : a = b := by
  cases a; cases b
  simp only [Sm.kind, Sm.to', Sm.e, Sm.th, Sm.el] at h1 h2 h3 h4 h5
  subst h1; subst h2; subst h3; subst h4; subst h5; rfl
theorem same_st (a b : Sm) : (a.kind == b.kind && (a.to'.kind == b.to'.kind && a.to'.at' == b.to'.at') && same a.e b.e && same a.th b.th && same a.el b.el) = same a b := by
  rw [Bool.eq_iff_iff]
  simp only [Bool.and_eq_true, beq_iff_eq, same_iff]
  constructor
  · rintro ⟨⟨⟨⟨h1, h2, h2'⟩, h3⟩, h4⟩, h5⟩
    refine sm_ext h1 ?_ h3 h4 h5
    cases hx : a.to'; cases hy : b.to'
    rw [hx, hy] at h2 h2'
    simp only at h2 h2'
    rw [h2, h2']
  · rintro rfl
    simp
def EqS (a b : List Sm) : Prop := PureF Tryz.prog 12 [.rows 70 (Sm.csL a), .rows 70 (Sm.csL b)] [.bool (same a b)]
theorem eqStmt_ok' (a b : Sm) (he : a.e.sz ≤ 1099511627776) (ih1 : EqS a.th b.th) (ih2 : EqS a.el b.el) : PureF Tryz.prog 34 [.agg a.cs, .agg b.cs] [.bool (same a b)] := by
  have hE : PureF Tryz.prog 75 [.agg [.int .i64 a.e.kind, .int .i64 a.e.n, .int .i64 a.e.a.kind, .int .i64 a.e.a.at', .rows 68 (Ex.csL a.e.kids)], .agg [.int .i64 b.e.kind, .int .i64 b.e.n, .int .i64 b.e.a.kind, .int .i64 b.e.a.at', .rows 68 (Ex.csL b.e.kids)]] [.bool (same a.e b.e)] := by
    rw [← Ex.cs_eq, ← Ex.cs_eq]; exact eqExpr_ok a.e b.e he
  refine pureF_of Tryz.func34 rfl Tryz.ntmps34 (by simp) T_ ?_
  intro f0 B Q hQ
  refine g_ [2,3] ?_
  refine g_ [2,3,9] ?_
  refine c_ (fun hc0 => ?_) fun hc0 => ?_
  ·
    refine g_ [4] ?_
    refine e_ Tryz.results34 ?_
    first
    | exact True.intro
    | rw [← same_st]
      first | (simp_all; done) | (simp_all; intro h1 h2; rcases hc1 with h | h <;> contradiction)
  refine n_ ?_
  refine wpM_regionK [2,3,15] rfl fun Q1 hQ1 => ?_
  refine S_ ?_
  refine cp_ (eqAddr_ok a.to' b.to') Tryz.call74 ?_
  refine hQ1 _ _ (S_ ?_);clear hQ1 Q1
  refine c_ (fun hc1 => ?_) fun hc1 => ?_
  ·
    refine g_ [4] ?_
    refine e_ Tryz.results34 ?_
    first
    | exact True.intro
    | rw [← same_st]
      first | (simp_all; done) | (simp_all; intro h1 h2; rcases hc1 with h | h <;> contradiction)
  refine n_ ?_
  refine wpM_regionK [2,3,21] rfl fun Q1 hQ1 => ?_
  refine S_ ?_
  refine cp_ (hE) Tryz.call75 ?_
  refine hQ1 _ _ (S_ ?_);clear hQ1 Q1
  refine c_ (fun hc2 => ?_) fun hc2 => ?_
  ·
    refine g_ [4] ?_
    refine e_ Tryz.results34 ?_
    first
    | exact True.intro
    | rw [← same_st]
      first | (simp_all; done) | (simp_all; intro h1 h2; rcases hc1 with h | h <;> contradiction)
  refine n_ ?_
  refine wpM_regionK [2,3,27] rfl fun Q1 hQ1 => ?_
  refine S_ ?_
  refine cp_ (ih1) Tryz.call12 ?_
  refine hQ1 _ _ (S_ ?_);clear hQ1 Q1
  refine c_ (fun hc3 => ?_) fun hc3 => ?_
  ·
    refine g_ [4] ?_
    refine e_ Tryz.results34 ?_
    first
    | exact True.intro
    | rw [← same_st]
      first | (simp_all; done) | (simp_all; intro h1 h2; rcases hc1 with h | h <;> contradiction)
  refine n_ ?_
  refine wpM_regionK [33] rfl fun Q1 hQ1 => ?_
  refine S_ ?_
  refine cp_ (ih2) Tryz.call12 ?_
  refine hQ1 _ _ (S_ ?_);clear hQ1 Q1
  refine c_ (fun hc4 => ?_) fun hc4 => ?_
  ·
    refine g_ [4] ?_
    refine e_ Tryz.results34 ?_
    first
    | exact True.intro
    | rw [← same_st]
      first | (simp_all; done) | (simp_all; intro h1 h2; rcases hc1 with h | h <;> contradiction)
  refine g_ [4] ?_
  refine e_ Tryz.results34 ?_
  first
  | exact True.intro
  | rw [← same_st]
    first | (simp_all; done) | (simp_all; intro h1 h2; rcases hc1 with h | h <;> contradiction)
theorem eqStmtS_ok : ∀ (N : Nat) (a b : List Sm), Sm.szL a ≤ N → Sm.szL a ≤ 1099511627776 → EqS a b := by
  intro N
  induction N using Nat.strongRecOn with
  | _ N ih =>
    intro a b hN hs
    have hll := Sm.len_szL a
    refine pureF_of Tryz.func12 rfl Tryz.ntmps12 (by simp) T_ ?_
    intro f0 B Q hQ
    refine g_ [0,1] ?_
    refine g_ [0,1,10] ?_
    refine c_ (fun hc0 => ?_) fun hc0 => ?_
    ·
      refine g_ [4] ?_
      refine e_ Tryz.results12 ?_
      first
      | exact True.intro
      | simp at hc0
        exact (same_no (fun h => by rw [h] at hc0; exact hc0 rfl)).symm
    have hab : a.length = b.length := by simp at hc0; omega
    refine g_ [0,1,5] ?_
    refine n_ ?_
    refine wpM_loopS (fun s n s' => ∃ (i0 M0 : Nat) , i0 + n = a.length ∧ s.M ≤ M0 ∧ ((List.range i0).all (fun i => same (a.getD i default) (b.getD i default)) = true) ∧ s' = { s with env := setE 5 (.int .i64 (i0 : Nat)) s.env, M := M0 }) (a.length) ?_ ?_
    ·
      refine .of' _ _ ⟨0, _, by omega, Nat.le_refl _, by simp, rfl⟩ ?_ ?_ ?_ <;> exact L_
    rintro n0 s' ⟨i0, M0, hi0, hM0, hv0, rfl⟩
    try dsimp only at hM0
    try refine S_ ?_
    refine g_ [0,1,5,14] ?_
    refine c_ (fun hc1 => ?_) fun hc1 => ?_
    ·
      have hl0 : i0 < a.length := by omega
      have hg := Sm.get_szL a i0 hl0
      rw [Sm.sz_eq] at hg
      refine n_ ?_
      refine dr_ mixed [0,1,5,26] 0 0 [] [⟨[0],[],[],[],false⟩,⟨[5],[],[],[],false⟩,⟨[17,18],[],[],[],false⟩,⟨[19],[],[],[],false⟩,⟨[1],[],[],[],false⟩,⟨[5],[],[],[],false⟩,⟨[21,22],[],[],[],false⟩,⟨[23],[],[],[],false⟩,⟨[20,24],[],[],[],true⟩,⟨[25],[],[],[],false⟩] [0,1,2,3,4,5,6,7,8,9] [[],[],[0,1],[0,1,2],[],[],[4,5],[4,5,6],[0,1,2,3,4,5,6,7],[0,1,2,3,4,5,6,7,8]] 0 ?_
      intro O A K hO hA hK;simp only [atL_cons,atL_nil,Nat.reduceAdd,Nat.zero_add] at hO hA
      refine SO_ ?_
      refine lp_ (eqStmt_ok' (a.getD i0 default) (b.getD i0 default) (by omega) (ih _ (by omega) _ _ (Nat.le_refl _) (by omega)) (ih _ (by omega) _ _ (Nat.le_refl _) (by omega))) Tryz.call34 ?_
      refine hK _ (S_ ?_);clear hK K hO hA O A
      refine c_ (fun hc2 => ?_) fun hc2 => ?_
      ·
        refine g_ [4] ?_
        refine e_ Tryz.results12 ?_
        first
        | exact True.intro
        | have h2 : (!same (a.getD i0 default) (b.getD i0 default)) = true := hc2
          rw [← range_ext hab same (fun i _ => rfl), range_no hl0 (by simpa using h2)]
      refine g_ [0,1,5] ?_
      refine .of' _ _ ⟨n0 - 1, by omega, i0 + 1, _, by omega, M_, ?_, rfl⟩ L_ L_ L_
      have h2 : (!same (a.getD i0 default) (b.getD i0 default)) = false := hc2
      rw [range_all, hv0]; simpa using h2
    refine g_ [4] ?_
    refine e_ Tryz.results12 ?_
    first
    | exact True.intro
    | have : i0 = a.length := by omega
      rw [← range_ext hab same (fun i _ => rfl), ← this, hv0]
end Go.Proofs.YtnmfmeehmieifaaGreatDoor
namespace Go.Proofs.YtnmfmeehmieifaaGreatDoor
open Go Sg
set_option maxRecDepth 100000
set_option linter.unusedSimpArgs false
set_option linter.unusedVariables false
set_option linter.unusedSectionVars false
set_option maxHeartbeats 4000000
variable [Glob]
theorem toMemT_ok (m : MM) (hm : mz m ≤ 1048576) : CallF Tryz.prog 8 [.agg m.cs] [] 3 (OwnR Tryz.prog wA m.cs) := by
  unfold mz at hm
  refine callF_of' Tryz.func8 rfl Tryz.ntmps8 (by simp) ?_
  intro f0 B ns Q hB hns hQ
  refine g_ [1,2] ?_
  refine g_ [1,2,3] ?_
  refine n_ ?_
  refine wpM_regionK [1,2,3] rfl fun Q1 hQ1 => ?_
  refine S_ ?_
  refine call_own (ps := [.rows 3 (rowsI m.i)]) (toIntT_ok m.i (by omega)) Tryz.call27 rfl rfl rfl F_ (by simp [inR_cons, inR_nil] <;> omega) (by show B ≤ B + 3; omega) ?_
  intro cs1 T1 hO1 hI1 hk1
  obtain ⟨x, rfl, rfl⟩ := own_intsI hO1
  dsimp only at hI1 hk1
  refine S_ ?_
  refine hQ1 _ _ (S_ ?_);clear hQ1 Q1
  refine n_ ?_
  refine wpM_regionK [1,2,3] rfl fun Q1 hQ1 => ?_
  refine S_ ?_
  refine call_own (ps := [.rows 3 (rowsI m.o)]) (toIntT_ok m.o (by omega)) Tryz.call27 rfl rfl rfl F_ (InR.app (l := [_, _, _]) (M := B + 3) (by simp [inR_cons, inR_nil] <;> omega) hI1 (by show B ≤ B + 3; omega) (by first | omega | (dsimp only; omega))) (by show B ≤ B + 3 + 1; omega) ?_
  intro cs2 T2 hO2 hI2 hk2
  obtain ⟨y, rfl, rfl⟩ := own_intsI hO2
  dsimp only at hI2 hk2
  have hI12 := hI1.app hI2 (by omega) (by omega)
  refine S_ ?_
  refine hQ1 _ _ (S_ ?_);clear hQ1 Q1
  refine n_ ?_
  refine wpM_regionK [2,3] rfl fun Q1 hQ1 => ?_
  refine S_ ?_
  refine call_own (ps := [.rows 3 (rowsI m.v)]) (toIntT_ok m.v (by omega)) Tryz.call27 rfl rfl rfl F_ (InR.app (l := [_, _, _]) (M := B + 3) (by simp [inR_cons, inR_nil] <;> omega) hI12 (by show B ≤ B + 3; omega) (by first | omega | (dsimp only; omega))) (by show B ≤ B + 3 + 1 + 1; omega) ?_
  intro cs3 T3 hO3 hI3 hk3
  obtain ⟨z, rfl, rfl⟩ := own_intsI hO3
  dsimp only at hI3 hk3
  have hI123 := hI12.app hI3 (by omega) (by omega)
  refine S_ ?_
  refine hQ1 _ _ (S_ ?_);clear hQ1 Q1
  refine g_ [2] ?_
  refine wpM_ret ?_
  try refine S_ ?_
  refine hQ _ _ (retOwnI (M := B + 3 + 1 + 1 + 1) (.inr rfl) (m.ol x y z) (own_mem m x y z) rfl rfl rfl (by rw [Tryz.results8] <;> simp (maxSteps := 1000000) -implicitDefEqProofs (disch := omega) only [go_sem] <;> rfl) (by rw [hns]; rfl) ?_ ?_ hI123.nd)
  · exact InR.app (l := [_, _, _]) (M := B + 3) (by simp [inR_cons, inR_nil] <;> omega) hI123 (by show B ≤ B + 3; omega) (by omega)
  · exact fun q hq => List.mem_cons_of_mem _ (List.mem_cons_of_mem _ (List.mem_cons_of_mem _ hq))
def Mrk.oc (k : Mrk) (x y : Nat) : List PV := [.sl 4 x 0 k.on.length, .sl 4 y 0 k.kept.length]
def Mrk.ol (k : Mrk) (x y : Nat) : List (Nat × AObj) := [(x, .cells 4 (bls k.on)), (y, .cells 4 (bls k.kept))]
@[go_sem] theorem Mrk.ol_eq (k : Mrk) (x y : Nat) : k.ol x y = [(x, .cells 4 (bls k.on)), (y, .cells 4 (bls k.kept))] := rfl
theorem trn_len (t : Trn) : t.cs.length = 7 := rfl
theorem trn_pureL (t : Trn) : PV.pureL t.cs = true := rfl
theorem act_lit (a : GAct) : a.cs.all PV.lit = true := rfl
end Go.Proofs.YtnmfmeehmieifaaGreatDoor
namespace Go.Proofs.YtnmfmeehmieifaaGreatDoor
open Go Sg
set_option maxRecDepth 100000
set_option linter.unusedSimpArgs false
set_option linter.unusedVariables false
set_option linter.unusedSectionVars false
set_option maxHeartbeats 4000000
variable [Glob]
theorem sp0 {C r : List PV} {x y : PV} {m : Nat} (h : m = C.length + 0) : splice (C ++ x :: r) m [y] = C ++ y :: r := by
  exact splice_one (by omega)
theorem sp1 {C r : List PV} {q0 x y : PV} {m : Nat} (h : m = C.length + 1) : splice (C ++ q0 :: x :: r) m [y] = C ++ q0 :: y :: r := by
  have := splice_one (a := C ++ [q0]) (b := r) (x := x) (y := y) (i := m) (by simp [h])
  simpa using this
theorem sp2 {C r : List PV} {q0 q1 x y : PV} {m : Nat} (h : m = C.length + 2) : splice (C ++ q0 :: q1 :: x :: r) m [y] = C ++ q0 :: q1 :: y :: r := by
  have := splice_one (a := C ++ [q0, q1]) (b := r) (x := x) (y := y) (i := m) (by simp [h])
  simpa using this
theorem sp3 {C r : List PV} {q0 q1 q2 x y : PV} {m : Nat} (h : m = C.length + 3) : splice (C ++ q0 :: q1 :: q2 :: x :: r) m [y] = C ++ q0 :: q1 :: q2 :: y :: r := by
  have := splice_one (a := C ++ [q0, q1, q2]) (b := r) (x := x) (y := y) (i := m) (by simp [h])
  simpa using this
theorem sp4 {C r : List PV} {q0 q1 q2 q3 x y : PV} {m : Nat} (h : m = C.length + 4) : splice (C ++ q0 :: q1 :: q2 :: q3 :: x :: r) m [y] = C ++ q0 :: q1 :: q2 :: q3 :: y :: r := by
  have := splice_one (a := C ++ [q0, q1, q2, q3]) (b := r) (x := x) (y := y) (i := m) (by simp [h])
  simpa using this
theorem sp5 {C r : List PV} {q0 q1 q2 q3 q4 x y : PV} {m : Nat} (h : m = C.length + 5) : splice (C ++ q0 :: q1 :: q2 :: q3 :: q4 :: x :: r) m [y] = C ++ q0 :: q1 :: q2 :: q3 :: q4 :: y :: r := by
  have := splice_one (a := C ++ [q0, q1, q2, q3, q4]) (b := r) (x := x) (y := y) (i := m) (by simp [h])
  simpa using this
theorem sp6 {C r : List PV} {q0 q1 q2 q3 q4 q5 x y : PV} {m : Nat} (h : m = C.length + 6) : splice (C ++ q0 :: q1 :: q2 :: q3 :: q4 :: q5 :: x :: r) m [y] = C ++ q0 :: q1 :: q2 :: q3 :: q4 :: q5 :: y :: r := by
  have := splice_one (a := C ++ [q0, q1, q2, q3, q4, q5]) (b := r) (x := x) (y := y) (i := m) (by simp [h])
  simpa using this
theorem ld4 {C r : List PV} {q0 q1 q2 q3 x : PV} {m : Nat} (h : m = C.length + 4) : (List.drop m (C ++ q0 :: q1 :: q2 :: q3 :: x :: r))[0]? = some x := by
  subst h; simp
theorem ld7 {C r : List PV} {q0 q1 q2 q3 q4 q5 q6 x : PV} {m : Nat} (h : m = C.length + 7) : (List.drop m (C ++ q0 :: q1 :: q2 :: q3 :: q4 :: q5 :: q6 :: x :: r))[0]? = some x := by
  subst h; simp
theorem ld8 {C r : List PV} {q0 q1 q2 q3 q4 q5 q6 q7 x : PV} {m : Nat} (h : m = C.length + 8) : (List.drop m (C ++ q0 :: q1 :: q2 :: q3 :: q4 :: q5 :: q6 :: q7 :: x :: r))[0]? = some x := by
  subst h; simp
theorem ld9 {C r : List PV} {q0 q1 q2 q3 q4 q5 q6 q7 q8 x : PV} {m : Nat} (h : m = C.length + 9) : (List.drop m (C ++ q0 :: q1 :: q2 :: q3 :: q4 :: q5 :: q6 :: q7 :: q8 :: x :: r))[0]? = some x := by
  subst h; simp
theorem in5 {C r : List PV} {q0 q1 q2 q3 q4 : PV} {m : Nat} (h : m ≤ C.length + 5) : (m ≤ (C ++ q0 :: q1 :: q2 :: q3 :: q4 :: r).length) = True := by
  simp; omega
theorem in10 {C r : List PV} {q0 q1 q2 q3 q4 q5 q6 q7 q8 q9 : PV} {m : Nat} (h : m ≤ C.length + 10) : (m ≤ (C ++ q0 :: q1 :: q2 :: q3 :: q4 :: q5 :: q6 :: q7 :: q8 :: q9 :: r).length) = True := by
  simp; omega
mutual
def Ex.mk' (k : Int) : Ex → Ex | .mk _ _ _ l => .mk k (k + 1) ⟨k + 1 + 1, k + 1 + 1 + 1⟩ (Ex.mkL (k + 1 + 1 + 1 + 1) l)
def Ex.mkL (k : Int) : List Ex → List Ex | [] => [] | e :: l => Ex.mk' k e :: Ex.mkL (k + 4 * (e.sz : Nat)) l
end
theorem Ex.mk_eq (k : Int) (e : Ex) : Ex.mk' k e = .mk k (k + 1) ⟨k + 1 + 1, k + 1 + 1 + 1⟩ (Ex.mkL (k + 1 + 1 + 1 + 1) e.kids) := by cases e; simp only [Ex.mk', Ex.kids]
theorem Ex.mkL_len (l : List Ex) : ∀ k : Int, (Ex.mkL k l).length = l.length := by
  induction l with
  | nil => intro k; rfl
  | cons e l ih => intro k; simp [Ex.mkL, ih]
theorem Ex.szL_take (l : List Ex) (i : Nat) (h : i < l.length) : Ex.szL (l.take (i + 1)) = Ex.szL (l.take i) + (l.getD i default).sz := by
  induction l generalizing i with
  | nil => simp at h
  | cons e l ih =>
    cases i with
    | zero => simp [Ex.szL]
    | succ i =>
      have := ih i (by simpa using h)
      simp only [List.take_succ_cons, Ex.szL, List.getD_cons_succ] at this ⊢
      omega
theorem Ex.szL_le (l : List Ex) (i : Nat) : Ex.szL (l.take i) ≤ Ex.szL l := by
  induction l generalizing i with
  | nil => simp [Ex.szL]
  | cons e l ih =>
    cases i with
    | zero => simp [Ex.szL]
    | succ i => simp only [List.take_succ_cons, Ex.szL]; have := ih i; omega
theorem Ex.mkL_take (l : List Ex) (i : Nat) (h : i < l.length) : ∀ k : Int, Ex.mkL k (l.take (i + 1)) = Ex.mkL k (l.take i) ++ [Ex.mk' (k + 4 * (Ex.szL (l.take i) : Nat)) (l.getD i default)] := by
  induction l generalizing i with
  | nil => simp at h
  | cons e l ih =>
    intro k
    cases i with
    | zero => simp [Ex.mkL, Ex.szL]
    | succ i =>
      have := ih i (by simpa using h) (k + 4 * (e.sz : Nat))
      simp only [List.take_succ_cons, Ex.mkL, List.getD_cons_succ, List.cons_append, Ex.szL] at this ⊢
      rw [this]
      congr 4
      push_cast; omega
theorem own_ex2 {e : Ex} {cs : List PV} {T : List (Nat × AObj)} (h : Owns Tryz.prog cs e.cs T) : ∃ id, cs = [.int .i64 e.kind, .int .i64 e.n, .int .i64 e.a.kind, .int .i64 e.a.at', .sl 68 id 0 e.kids.length] ∧ Owns Tryz.prog [.sl 68 id 0 e.kids.length] [.rows 68 (Ex.csL e.kids)] T := by
  rw [Ex.cs_eq] at h
  obtain ⟨c1, rfl, h1⟩ := h.lit rfl
  obtain ⟨c2, rfl, h2⟩ := h1.lit rfl
  obtain ⟨c3, rfl, h3⟩ := h2.lit rfl
  obtain ⟨c4, rfl, h4⟩ := h3.lit rfl
  obtain ⟨id, c0, T0, rfl, rfl, h0⟩ := own_exL h4
  exact ⟨id, rfl, h4⟩
def MkX (l : List Ex) : Prop := ∀ (x : Nat) (T : List (Nat × AObj)) (k : Int), Owns Tryz.prog [.sl 68 x 0 l.length] [.rows 68 (Ex.csL l)] T → (ksL T).Nodup → 0 ≤ k → k + 4 * (Ex.szL l : Nat) ≤ 1000000000000 → CallF Tryz.prog 36 [.sl 68 x 0 l.length, .int .i64 k] T 0 (SetR Tryz.prog [.sl 68 x 0 l.length] (k + 4 * (Ex.szL l : Nat)) [.rows 68 (Ex.csL (Ex.mkL k l))] T)
theorem markExprS_ok : ∀ (N : Nat) (l : List Ex), Ex.szL l ≤ N → Ex.szL l ≤ 1048576 → MkX l := by
  intro N
  induction N using Nat.strongRecOn with
  | _ N ih =>
    intro l hN hs x T k hO hnd hk0 hk1
    have hll := Ex.len_szL l
    obtain ⟨x', c0, T0, hx, rfl, h0⟩ := own_exL hO
    obtain rfl : x = x' := by injection hx with hx _; injection hx
    rw [Ex.csL_map] at h0
    have hnd0 : x ∉ ksL T0 ∧ (ksL T0).Nodup := by simpa [ksL] using hnd
    refine callF_of' Tryz.func36 rfl Tryz.ntmps36 (by simp) ?_
    intro f0 B ns Q hB hns hQ
    obtain rfl : ns = [] := List.eq_nil_of_length_eq_zero hns
    have hkB : ∀ j, j ∈ x :: ksL T0 → j < B := fun j hj => hB j (by rw [hasKey]; exact lk_some_of (by simpa [ksL] using hj))
    refine g_ [0,1] ?_
    refine g_ [0,1,5] ?_
    refine n_ ?_
    refine wpM_loopS (fun s r s' => ∃ (i0 : Nat) (C c1 : List PV) (D T1 : List (Nat × AObj)), i0 + r = l.length ∧ Owns Tryz.prog C ((Ex.mkL k (l.take i0)).map Ex.cs).flatten D ∧ Owns Tryz.prog c1 ((l.drop i0).map Ex.cs).flatten T1 ∧ ksL D ++ ksL T1 = ksL T0 ∧ s' = { s with env := setE 5 (.int .i64 (i0 : Nat)) (setE 1 (.int .i64 (k + 4 * (Ex.szL (l.take i0) : Nat))) s.env), l := (x, .cells 68 (C ++ c1)) :: (D ++ T1) }) (l.length) ?_ ?_
    ·
      refine .of' _ _ ⟨0, [], c0, [], T0, by omega, .nil, h0, rfl, rfl⟩ ?_ ?_ ?_
      · simp [Ex.szL]; exact L_
      · exact subL_of hnd (fun p hp => hp)
      · exact keepB_of (fun p hp => .inr (.inr (ksL_mem hp)))
    rintro r s' ⟨i0, C, c1, D, T1, hir, hC, hD, hks, rfl⟩
    try refine S_ ?_
    refine g_ [0,1,5,9] ?_
    refine c_ (fun hc0 => ?_) fun hc0 => ?_
    ·
      have hl0 : i0 < l.length := by omega
      have hCl : C.length = i0 * 5 := by
        have := flat_len Ex.cs cs_len (Ex.mkL k (l.take i0))
        rw [hC.len, this, Ex.mkL_len, List.length_take]; omega
      obtain ⟨ce, c2, Te, T2, rfl, rfl, hE, hD2⟩ := hD.elem hl0
      obtain ⟨id, rfl, hE2⟩ := own_ex2 hE
      have hd2 : c2.length = (l.length - (i0 + 1)) * 5 := by
        have := flat_len Ex.cs cs_len (l.drop (i0 + 1))
        rw [hD2.len, this, List.length_drop]
      have hst := Ex.szL_take l i0 hl0
      have hsl := Ex.szL_le l (i0 + 1)
      have hsz := Ex.sz_eq (l.getD i0 default)
      obtain ⟨K, hK⟩ : ∃ K : Int, K = k + 4 * (Ex.szL (l.take i0) : Nat) := ⟨_, rfl⟩
      rw [← hK]
      refine n_ ?_
      refine wpM_regionK [0,1,5] rfl fun Q1 hQ1 => ?_
      simp -implicitDefEqProofs (disch := omega) only [go_sem, sp0, sp1, sp2, sp3, ld4, in5]
      refine hQ1 _ _ (S_ ?_);clear hQ1 Q1
      refine g_ [0,1,5] ?_
      refine n_ ?_
      refine wpM_regionK [0,1,5] rfl fun Q1 hQ1 => ?_
      simp -implicitDefEqProofs (disch := omega) only [go_sem, sp0, sp1, sp2, sp3, ld4, in5]
      refine hQ1 _ _ (S_ ?_);clear hQ1 Q1
      refine g_ [0,1,5] ?_
      refine n_ ?_
      refine wpM_regionK [0,1,5] rfl fun Q1 hQ1 => ?_
      simp -implicitDefEqProofs (disch := omega) only [go_sem, sp0, sp1, sp2, sp3, ld4, in5]
      refine hQ1 _ _ (S_ ?_);clear hQ1 Q1
      refine g_ [0,1,5] ?_
      refine n_ ?_
      refine wpM_regionK [0,1,5] rfl fun Q1 hQ1 => ?_
      simp -implicitDefEqProofs (disch := omega) only [go_sem, sp0, sp1, sp2, sp3, ld4, in5]
      refine hQ1 _ _ (S_ ?_);clear hQ1 Q1
      refine g_ [0,1,5] ?_
      refine wpM_regionK [0,1,5] rfl fun Q1 hQ1 => ?_
      simp -implicitDefEqProofs (disch := omega) only [go_sem, sp0, sp1, sp2, sp3, ld4, in5]
      have hks2 : ksL D ++ (ksL Te ++ ksL T2) = ksL T0 := by rw [← ksL_app]; exact hks
      have hnd2 : (x :: (ksL D ++ (ksL Te ++ ksL T2))).Nodup := by rw [hks2]; exact List.nodup_cons.2 hnd0
      have hndE : (ksL Te).Nodup := (hnd2.sublist (by
        refine List.Sublist.cons _ ((List.sublist_append_left _ _).trans (List.sublist_append_right _ _)))).sublist (List.Sublist.refl _)
      refine call_set (ps := [.sl 68 id 0 (l.getD i0 default).kids.length, .int .i64 (K + 1 + 1 + 1 + 1)]) ((x, _) :: D) T2 (ih (Ex.szL (l.getD i0 default).kids) (by omega) _ (Nat.le_refl _) (by omega) id Te (K + 1 + 1 + 1 + 1) hE2 hndE (by omega) (by omega)) Tryz.call36 rfl rfl rfl F_ rfl (by simpa [ksL] using hnd2) ?_
      intro T' hO' hksT
      simp -implicitDefEqProofs (disch := omega) only [go_sem, sp0, sp1, sp2, sp3, ld4, in5]
      refine hQ1 _ _ (S_ ?_);clear hQ1 Q1
      refine g_ [0,1,5] ?_
      have hcat : K + 1 + 1 + 1 + 1 + 4 * (Ex.szL (l.getD i0 default).kids : Nat) = k + 4 * (Ex.szL (l.take (i0 + 1)) : Nat) := by omega
      have hE3 : Owns Tryz.prog [.int .i64 K, .int .i64 (K + 1), .int .i64 (K + 1 + 1), .int .i64 (K + 1 + 1 + 1), .sl 68 id 0 (l.getD i0 default).kids.length] (Ex.mk' K (l.getD i0 default)).cs T' := by
        rw [Ex.mk_eq, Ex.cs_eq]
        exact .sc _ _ _ _ rfl (.sc _ _ _ _ rfl (.sc _ _ _ _ rfl (.sc _ _ _ _ rfl hO')))
      have hC3 := hC.snocL hE3
      rw [hK, ← Ex.mkL_take l i0 hl0 k] at hC3
      rw [← hK] at hC3
      have hks3 : ksL (D ++ T') ++ ksL T2 = ksL T0 := by rw [ksL_app, hksT, List.append_assoc]; exact hks2
      have hndl : ∀ (o : AObj) (c : List PV), (ksL ((x, o) :: (D ++ (T' ++ T2)))).Nodup := by
        intro o c
        simp only [ksL, List.map_cons, List.map_append] at hnd2 hksT ⊢
        rw [hksT]; exact hnd2
      rw [hcat]
      refine .of' _ _ ⟨r - 1, by omega, i0 + 1, _, c2, D ++ T', T2, by omega, hC3, hD2, hks3, rfl⟩ ?_ ?_ ?_
      · exact L_
      · refine subL_of (hndl _ c2) (fun p hp => ?_)
        simpa using hp
      · refine keepB_of (fun p hp => .inr (.inr (ksL_mem ?_)))
        simpa using hp
    refine g_ [4] ?_
    refine wpM_ret ?_
    try refine S_ ?_
    obtain rfl : i0 = l.length := by omega
    rw [List.drop_length] at hD
    obtain ⟨rfl, rfl⟩ := Owns.none hD
    rw [List.take_of_length_le (Nat.le_refl _)] at hC ⊢
    rw [← Ex.csL_map] at hC
    have hks' : ksL D = ksL T0 := by simpa [ksL] using hks
    have hnd' : (ksL ((x, AObj.cells 68 (C ++ [])) :: (D ++ []))).Nodup := by
      rw [List.append_nil D]
      show (x :: ksL D).Nodup
      rw [hks']; exact List.nodup_cons.2 hnd0
    refine hQ _ _ (retSet (T' := (x, .cells 68 (C ++ [])) :: (D ++ [])) rfl ?_ ?_ rfl rfl rfl (by rw [Tryz.results36] <;> simp (maxSteps := 1000000) -implicitDefEqProofs (disch := omega) only [go_sem] <;> rfl) (fun q hq => by simp only [MS.f, lk_nd hnd' hq]) (keysIn_of fun p hp => .inr ?_))
    · refine ownsSl x l.length (by rw [Ex.csL_len, Ex.mkL_len]) (by rw [cellsOf68]; decide) (fun y hy => ?_) (by simpa using hC)
      rw [Ex.csL_map, List.mem_map] at hy
      obtain ⟨e, _, rfl⟩ := hy
      rw [cellsOf68]; exact ⟨cs_len e, cs_pureL e⟩
    · show x :: ksL (D ++ []) = x :: ksL T0; rw [List.append_nil D, hks']
    · have := ksL_mem hp
      rw [List.append_nil D] at this
      change p.1 ∈ x :: ksL D at this
      rw [hks'] at this; exact this
end Go.Proofs.YtnmfmeehmieifaaGreatDoor
namespace Go.Proofs.YtnmfmeehmieifaaGreatDoor
open Go Sg
set_option maxRecDepth 100000
set_option linter.unusedSimpArgs false
set_option linter.unusedVariables false
set_option linter.unusedSectionVars false
set_option maxHeartbeats 4000000
variable [Glob]
mutual
def Sm.nS : Sm → Nat | .mk _ _ e th el => e.nS + (1 + Sm.nSL th) + (1 + Sm.nSL el)
def Sm.nSL : List Sm → Nat | [] => 0 | s :: l => s.nS + Sm.nSL l
end
theorem Sm.nS_eq (s : Sm) : s.nS = s.e.nS + (1 + Sm.nSL s.th) + (1 + Sm.nSL s.el) := by cases s; simp only [Sm.nS, Sm.e, Sm.th, Sm.el]
theorem Sm.nSL_take (l : List Sm) (i : Nat) (h : i < l.length) : Sm.nSL (l.take (i + 1)) = Sm.nSL (l.take i) + (l.getD i default).nS := by
  have key : ∀ l : List Sm, Sm.nSL l = (l.map Sm.nS).sum := by
    intro l
    induction l with
    | nil => rfl
    | cons e l ih => simp [Sm.nSL, ih]
  rw [key, key, List.take_succ_eq_append_getElem h, List.map_append, List.sum_append]
  simp [List.getD, h]
def TyS (l : List Sm) : Prop := CallF Tryz.prog 9 [.rows 60 (Sm.lcsL l)] [] (1 + Sm.nSL l) (OwnR Tryz.prog id [.rows 70 (Sm.csL l)])
theorem own_stmL {l : List Sm} {cs : List PV} {T : List (Nat × AObj)} (h : Owns Tryz.prog cs [.rows 70 (Sm.csL l)] T) : ∃ id c0 T0, cs = [.sl 70 id 0 l.length] ∧ T = (id, .cells 70 c0) :: T0 ∧ Owns Tryz.prog c0 (Sm.csL l).flatten T0 := by
  obtain ⟨id, c0, T0, cs', T', rfl, rfl, h0, h1, _, _⟩ := h.rows
  obtain ⟨rfl, rfl⟩ := h1.none
  exact ⟨id, c0, T0, by rw [Sm.csL_len], by rw [List.append_nil], h0⟩
theorem own_stm {s : Sm} {cs : List PV} {T : List (Nat × AObj)} (h : Owns Tryz.prog cs s.cs T) : ∃ z p q Tryz' Tp Tq, cs = [.int .i64 s.kind, .int .i64 s.to'.kind, .int .i64 s.to'.at', .int .i64 s.e.kind, .int .i64 s.e.n, .int .i64 s.e.a.kind, .int .i64 s.e.a.at', .sl 68 z 0 s.e.kids.length, .sl 70 p 0 s.th.length, .sl 70 q 0 s.el.length] ∧ T = Tryz' ++ (Tp ++ Tq) ∧ Owns Tryz.prog [.sl 68 z 0 s.e.kids.length] [.rows 68 (Ex.csL s.e.kids)] Tryz' ∧ Owns Tryz.prog [.sl 70 p 0 s.th.length] [.rows 70 (Sm.csL s.th)] Tp ∧ Owns Tryz.prog [.sl 70 q 0 s.el.length] [.rows 70 (Sm.csL s.el)] Tq := by
  rw [Sm.cs_eq] at h
  obtain ⟨c1, rfl, g1⟩ := h.lit rfl
  obtain ⟨c2, rfl, g2⟩ := g1.lit rfl
  obtain ⟨c3, rfl, g3⟩ := g2.lit rfl
  obtain ⟨c4, rfl, g4⟩ := g3.lit rfl
  obtain ⟨c5, rfl, g5⟩ := g4.lit rfl
  obtain ⟨c6, rfl, g6⟩ := g5.lit rfl
  obtain ⟨c7, rfl, g7⟩ := g6.lit rfl
  obtain ⟨d1, d2, T1, T2, rfl, rfl, h1, h2⟩ := Owns.split (q1 := [.rows 68 (Ex.csL s.e.kids)]) (q2 := [.rows 70 (Sm.csL s.th), .rows 70 (Sm.csL s.el)]) g7
  obtain ⟨d3, d4, T3, T4, rfl, rfl, h3, h4⟩ := Owns.split (q1 := [.rows 70 (Sm.csL s.th)]) (q2 := [.rows 70 (Sm.csL s.el)]) h2
  obtain ⟨z, _, _, rfl, _, _⟩ := own_exL h1
  obtain ⟨p, _, _, rfl, _, _⟩ := own_stmL h3
  obtain ⟨q, _, _, rfl, _, _⟩ := own_stmL h4
  exact ⟨z, p, q, T1, T3, T4, rfl, rfl, h1, h3, h4⟩
theorem own_stmC {s : Sm} {z p q : Nat} {T1 T2 T3 : List (Nat × AObj)} (h1 : Owns Tryz.prog [.sl 68 z 0 s.e.kids.length] [.rows 68 (Ex.csL s.e.kids)] T1) (h2 : Owns Tryz.prog [.sl 70 p 0 s.th.length] [.rows 70 (Sm.csL s.th)] T2) (h3 : Owns Tryz.prog [.sl 70 q 0 s.el.length] [.rows 70 (Sm.csL s.el)] T3) :
    Owns Tryz.prog [.int .i64 s.kind, .int .i64 s.to'.kind, .int .i64 s.to'.at', .int .i64 s.e.kind, .int .i64 s.e.n, .int .i64 s.e.a.kind, .int .i64 s.e.a.at', .sl 68 z 0 s.e.kids.length, .sl 70 p 0 s.th.length, .sl 70 q 0 s.el.length] s.cs (T1 ++ (T2 ++ T3)) := by
  rw [Sm.cs_eq]
  exact Owns.lits [.int .i64 s.kind, .int .i64 s.to'.kind, .int .i64 s.to'.at', .int .i64 s.e.kind, .int .i64 s.e.n, .int .i64 s.e.a.kind, .int .i64 s.e.a.at'] rfl (h1.app (h2.app h3))
theorem toStmtT' (s : Sm) (he : kz s.e ≤ 1048576) (ih1 : TyS s.th) (ih2 : TyS s.el) : CallF Tryz.prog 28 [.agg s.lcs] [] s.nS (OwnR Tryz.prog wA s.cs) := by
  have hE : CallF Tryz.prog 66 [.agg [.int .i64 s.e.kind, .int .i64 s.e.n, .int .i64 s.e.a.kind, .int .i64 s.e.a.at', .rows 58 (Ex.lcsL s.e.kids)]] [] s.e.nS (OwnR Tryz.prog wA s.e.cs) := by
    rw [← Ex.lcs_eq]; exact toExprT_ok s.e he
  rw [Sm.nS_eq]
  refine callF_of' Tryz.func28 rfl Tryz.ntmps28 (by simp) ?_
  intro f0 B ns Q hB hns hQ
  refine g_ [1,2] ?_
  refine g_ [1,2,3] ?_
  refine g_ [1,2,3] ?_
  refine n_ ?_
  refine wpM_regionK [1,2,3] rfl fun Q1 hQ1 => ?_
  refine S_ ?_
  refine cp_ (toAddr_ok s.to') Tryz.call65 ?_
  refine hQ1 _ _ (S_ ?_);clear hQ1 Q1
  refine n_ ?_
  refine wpM_regionK [1,2,3] rfl fun Q1 hQ1 => ?_
  refine S_ ?_
  refine call_own hE Tryz.call66 rfl rfl rfl F_ (by simp [inR_cons, inR_nil] <;> omega) (by show B ≤ B + 3; omega) ?_
  intro cs1 T1 hO1 hI1 hk1
  obtain ⟨z, rfl, hO1'⟩ := own_ex2 hO1
  dsimp only at hI1 hk1
  refine S_ ?_
  refine hQ1 _ _ (S_ ?_);clear hQ1 Q1
  refine n_ ?_
  refine wpM_regionK [1,2,3] rfl fun Q1 hQ1 => ?_
  refine S_ ?_
  refine call_own (ps := [.rows 60 (Sm.lcsL s.th)]) ih1 Tryz.call9 rfl rfl rfl F_ (InR.app (l := [_, _, _]) (M := B + 3) (by simp [inR_cons, inR_nil] <;> omega) hI1 (by show B ≤ B + 3; omega) (by first | omega | (dsimp only; omega))) (by show B ≤ B + 3 + s.e.nS; omega) ?_
  intro cs2 T2 hO2 hI2 hk2
  obtain ⟨p, _, _, rfl, _, _⟩ := own_stmL hO2
  dsimp only at hI2 hk2
  have hI12 := hI1.app hI2 (by omega) (by omega)
  refine S_ ?_
  refine hQ1 _ _ (S_ ?_);clear hQ1 Q1
  refine n_ ?_
  refine wpM_regionK [2,3] rfl fun Q1 hQ1 => ?_
  refine S_ ?_
  refine call_own (ps := [.rows 60 (Sm.lcsL s.el)]) ih2 Tryz.call9 rfl rfl rfl F_ (InR.app (l := [_, _, _]) (M := B + 3) (by simp [inR_cons, inR_nil] <;> omega) hI12 (by show B ≤ B + 3; omega) (by first | omega | (dsimp only; omega))) (by show B ≤ B + 3 + s.e.nS + (1 + Sm.nSL s.th); omega) ?_
  intro cs3 T3 hO3 hI3 hk3
  obtain ⟨q, _, _, rfl, _, _⟩ := own_stmL hO3
  dsimp only at hI3 hk3
  have hI123 := hI12.app hI3 (by omega) (by omega)
  refine S_ ?_
  refine hQ1 _ _ (S_ ?_);clear hQ1 Q1
  refine g_ [2] ?_
  refine wpM_ret ?_
  try refine S_ ?_
  refine hQ _ _ (retOwnI (M := B + 3 + s.e.nS + (1 + Sm.nSL s.th) + (1 + Sm.nSL s.el)) (.inr rfl) (T1 ++ (T2 ++ T3)) (own_stmC hO1' hO2 hO3) rfl rfl rfl (by rw [Tryz.results28] <;> simp (maxSteps := 1000000) -implicitDefEqProofs (disch := omega) only [go_sem] <;> rfl) ?_ ?_ ?_ (by rw [← List.append_assoc]; exact hI123.nd))
  · rw [hns, ksL_app, ksL_app, List.length_append, List.length_append]; omega
  · exact InR.app (l := [_, _, _]) (M := B + 3) (by simp [inR_cons, inR_nil] <;> omega) hI123 (by show B ≤ B + 3; omega) (by first | omega | (dsimp only; omega))
  · intro t ht
    rw [← List.append_assoc] at ht
    exact List.mem_cons_of_mem _ (List.mem_cons_of_mem _ (List.mem_cons_of_mem _ ht))
theorem toStmtST_ok : ∀ (N : Nat) (l : List Sm), Sm.bzL l ≤ N → Sm.bzL l ≤ 1048576 → TyS l := by
  intro N
  induction N using Nat.strongRecOn with
  | _ N ih =>
    intro l hN hs
    have hll := Sm.bzL_sum l
    unfold TyS
    refine callF_of' Tryz.func9 rfl Tryz.ntmps9 (by simp) ?_
    intro f0 B ns Q hB hns hQ
    refine g_ [0] ?_
    refine g_ [0,3] ?_
    refine g_ [0,3,4] ?_
    refine n_ ?_
    refine wpM_loopS (fun s r s' => ∃ (i0 M0 : Nat) (C : List PV) (D : List (Nat × AObj)), i0 + r = l.length ∧ Owns Tryz.prog C ((l.take i0).map Sm.cs).flatten D ∧ B + 1 ≤ M0 ∧ InR (B + 1) M0 D ∧ (ksL D).length = Sm.nSL (l.take i0) ∧ s' = { s with env := setE 4 (.int .i64 (i0 : Nat)) s.env, l := (B, .cells 70 (C ++ rep (l.length - i0) sZ)) :: D, M := M0 }) (l.length) ?_ ?_
    ·
      refine .of' _ _ ⟨0, B + 1, [], [], by omega, .nil, Nat.le_refl _, inR_nil, rfl, rfl⟩ ?_ ?_ ?_ <;> exact L_
    rintro r s' ⟨i0, M0, C, D, hir, hO, hM, hI, hk, rfl⟩
    try refine S_ ?_
    refine g_ [0,3,4,11] ?_
    refine c_ (fun hc0 => ?_) fun hc0 => ?_
    ·
      have hl0 : i0 < l.length := by omega
      have hCl : C.length = i0 * 10 := by rw [hO.len]; exact flat_take_len scs_len (by omega)
      have hfl := fill_len (z := sZ) (n := l.length) hCl rfl (by omega)
      have hg := sum_get Sm.bz l i0 hl0
      rw [Sm.bz_eq] at hg
      refine n_ ?_
      refine wpM_regionK [0,3,4] rfl fun Q1 hQ1 => ?_
      simp -implicitDefEqProofs (disch := omega) only [go_sem, hfl]
      refine call_own (ps := [.agg (l.getD i0 default).lcs]) (toStmtT' (l.getD i0 default) (by omega) (ih _ (by omega) _ (Nat.le_refl _) (by omega)) (ih _ (by omega) _ (Nat.le_refl _) (by omega))) Tryz.call28 rfl rfl rfl F_ (hI.push (Nat.le_refl _) hM) (by show B ≤ M0; omega) ?_
      intro cs T hO2 hI2 hk2
      obtain ⟨z, p, q, Tryz', Tp, Tq, rfl, hT, _, _, _⟩ := own_stm hO2
      dsimp only at hI2 hk2
      simp -implicitDefEqProofs (disch := omega) only [go_sem, hfl]
      refine hQ1 _ _ (S_ ?_);clear hQ1 Q1
      refine g_ [0,3,4] ?_
      have hsp := splice_fill (z := sZ) (v := [PV.int .i64 (l.getD i0 default).kind, .int .i64 (l.getD i0 default).to'.kind, .int .i64 (l.getD i0 default).to'.at', .int .i64 (l.getD i0 default).e.kind, .int .i64 (l.getD i0 default).e.n, .int .i64 (l.getD i0 default).e.a.kind, .int .i64 (l.getD i0 default).e.a.at', .sl 68 z 0 (l.getD i0 default).e.kids.length, .sl 70 p 0 (l.getD i0 default).th.length, .sl 70 q 0 (l.getD i0 default).el.length]) hCl rfl rfl hl0
      have hI3 := hI.app hI2 hM (by omega)
      rw [hsp]
      refine .of' _ _ ⟨r - 1, by omega, i0 + 1, _, _, D ++ T, by omega, hO.snoc hl0 hO2, by omega, hI3, by rw [ksL_app, List.length_append, hk, hk2, Sm.nSL_take l i0 hl0], rfl⟩ ?_ ?_ ?_
      · exact L_
      · exact subL_of (hI3.push (k := B) (Nat.le_refl _) (by omega)).nd (fun p hp => hp)
      · exact (hI3.push (k := B) (Nat.le_refl _) (by omega)).keep
    refine g_ [2] ?_
    refine wpM_ret ?_
    try refine S_ ?_
    obtain rfl : i0 = l.length := by omega
    rw [List.take_of_length_le (Nat.le_refl _)] at hO hk
    refine hQ _ _ (retOwnI (M := M0) (.inl rfl) ((B, .cells 70 (C ++ rep (l.length - l.length) sZ)) :: D) ?_ rfl rfl rfl (by rw [Tryz.results9] <;> simp (maxSteps := 1000000) -implicitDefEqProofs (disch := omega) only [go_sem] <;> rfl) ?_ (hI.push (k := B) (Nat.le_refl _) hM) (fun q hq => hq) (hI.push (k := B) (Nat.le_refl _) hM).nd)
    · rw [← Sm.csL_map] at hO
      refine ownsSl B l.length (Sm.csL_len l) (by rw [cellsOf70]; decide) (fun x hx => ?_) (by simpa [rep] using hO)
      rw [Sm.csL_map, List.mem_map] at hx
      obtain ⟨e, _, rfl⟩ := hx
      rw [cellsOf70]; exact ⟨scs_len e, scs_pureL e⟩
    · rw [hns]; simp only [ksL, List.map_cons, List.length_cons] at hk ⊢; omega
mutual
def Sm.wS : Sm → Nat | .mk _ _ e th el => 7 + 4 * Ex.szL e.kids + Sm.wSL th + Sm.wSL el
def Sm.wSL : List Sm → Nat | [] => 0 | s :: l => s.wS + Sm.wSL l
end
theorem Sm.wS_eq (s : Sm) : s.wS = 7 + 4 * Ex.szL s.e.kids + Sm.wSL s.th + Sm.wSL s.el := by cases s; simp only [Sm.wS, Sm.e, Sm.th, Sm.el]
theorem Sm.wSL_sum (l : List Sm) : Sm.wSL l = (l.map Sm.wS).sum := by
  induction l with
  | nil => rfl
  | cons e l ih => simp only [Sm.wSL, ih, List.map_cons, List.sum_cons]
theorem Sm.wSL_le : ∀ (N : Nat) (l : List Sm), Sm.bzL l ≤ N → Sm.wSL l ≤ 7 * Sm.bzL l := by
  intro N
  induction N using Nat.strongRecOn with
  | _ N ih =>
    intro l
    induction l with
    | nil => intro _; simp [Sm.wSL]
    | cons s l ihl =>
      intro hN
      simp only [Sm.bzL] at hN ⊢
      have h1 := s.wS_eq
      have h2 := s.bz_eq
      have h4 := ih (Sm.bzL s.th) (by omega) s.th (Nat.le_refl _)
      have h5 := ih (Sm.bzL s.el) (by omega) s.el (Nat.le_refl _)
      have h6 := ihl (by omega)
      simp only [Sm.wSL]
      unfold kz at h2
      omega
mutual
def Sm.mk' (k : Int) : Sm → Sm | .mk _ _ e th el => .mk k ⟨k + 1, k + 1 + 1⟩ (Ex.mk' (k + 1 + 1 + 1) e) (Sm.mkL (k + 1 + 1 + 1 + 1 + 1 + 1 + 1 + 4 * (Ex.szL e.kids : Nat)) th) (Sm.mkL (k + 1 + 1 + 1 + 1 + 1 + 1 + 1 + 4 * (Ex.szL e.kids : Nat) + (Sm.wSL th : Nat)) el)
def Sm.mkL (k : Int) : List Sm → List Sm | [] => [] | s :: l => Sm.mk' k s :: Sm.mkL (k + (s.wS : Nat)) l
end
theorem Sm.mk_eq (k : Int) (s : Sm) : Sm.mk' k s = .mk k ⟨k + 1, k + 1 + 1⟩ (Ex.mk' (k + 1 + 1 + 1) s.e) (Sm.mkL (k + 1 + 1 + 1 + 1 + 1 + 1 + 1 + 4 * (Ex.szL s.e.kids : Nat)) s.th) (Sm.mkL (k + 1 + 1 + 1 + 1 + 1 + 1 + 1 + 4 * (Ex.szL s.e.kids : Nat) + (Sm.wSL s.th : Nat)) s.el) := by cases s; simp only [Sm.mk', Sm.e, Sm.th, Sm.el]
theorem Sm.mkL_len (l : List Sm) : ∀ k : Int, (Sm.mkL k l).length = l.length := by
  induction l with
  | nil => intro k; rfl
  | cons e l ih => intro k; simp [Sm.mkL, ih]
theorem Sm.wSL_take (l : List Sm) (i : Nat) (h : i < l.length) : Sm.wSL (l.take (i + 1)) = Sm.wSL (l.take i) + (l.getD i default).wS := by
  rw [Sm.wSL_sum, Sm.wSL_sum]; exact sum_take Sm.wS l i h
theorem Sm.mkL_take (l : List Sm) (i : Nat) (h : i < l.length) : ∀ k : Int, Sm.mkL k (l.take (i + 1)) = Sm.mkL k (l.take i) ++ [Sm.mk' (k + (Sm.wSL (l.take i) : Nat)) (l.getD i default)] := by
  induction l generalizing i with
  | nil => simp at h
  | cons e l ih =>
    intro k
    cases i with
    | zero => simp [Sm.mkL, Sm.wSL]
    | succ i =>
      have := ih i (by simpa using h) (k + (e.wS : Nat))
      simp only [List.take_succ_cons, Sm.mkL, List.getD_cons_succ, List.cons_append, Sm.wSL] at this ⊢
      rw [this]
      congr 4
      push_cast; omega
end Go.Proofs.YtnmfmeehmieifaaGreatDoor
namespace Go.Proofs.YtnmfmeehmieifaaGreatDoor
open Go Sg
set_option maxRecDepth 100000
set_option linter.unusedSimpArgs false
set_option linter.unusedVariables false
set_option linter.unusedSectionVars false
set_option maxHeartbeats 4000000
variable [Glob]
def MkS (l : List Sm) : Prop := ∀ (x : Nat) (T : List (Nat × AObj)) (k : Int), Owns Tryz.prog [.sl 70 x 0 l.length] [.rows 70 (Sm.csL l)] T → (ksL T).Nodup → 0 ≤ k → k + (Sm.wSL l : Nat) ≤ 1000000000 → CallF Tryz.prog 14 [.sl 70 x 0 l.length, .int .i64 k] T 0 (SetR Tryz.prog [.sl 70 x 0 l.length] (k + (Sm.wSL l : Nat)) [.rows 70 (Sm.csL (Sm.mkL k l))] T)
theorem markStmtS_ok : ∀ (N : Nat) (l : List Sm), Sm.bzL l ≤ N → Sm.bzL l ≤ 1048576 → MkS l := by
  intro N
  induction N using Nat.strongRecOn with
  | _ N ih =>
    intro l hN hs x T k hO hnd hk0 hk1
    have hll := Sm.bzL_sum l
    obtain ⟨x', c0, T0, hx, rfl, h0⟩ := own_stmL hO
    obtain rfl : x = x' := by injection hx with hx _; injection hx
    rw [Sm.csL_map] at h0
    have hnd0 : x ∉ ksL T0 ∧ (ksL T0).Nodup := by simpa [ksL] using hnd
    refine callF_of' Tryz.func14 rfl Tryz.ntmps14 (by simp) ?_
    intro f0 B ns Q hB hns hQ
    obtain rfl : ns = [] := List.eq_nil_of_length_eq_zero hns
    have hkB : ∀ j, j ∈ x :: ksL T0 → j < B := fun j hj => hB j (by rw [hasKey]; exact lk_some_of (by simpa [ksL] using hj))
    refine g_ [0,1] ?_
    refine g_ [0,1,5] ?_
    refine n_ ?_
    refine wpM_loopS (fun s r s' => ∃ (i0 : Nat) (C c1 : List PV) (D T1 : List (Nat × AObj)), i0 + r = l.length ∧ Owns Tryz.prog C ((Sm.mkL k (l.take i0)).map Sm.cs).flatten D ∧ Owns Tryz.prog c1 ((l.drop i0).map Sm.cs).flatten T1 ∧ ksL D ++ ksL T1 = ksL T0 ∧ s' = { s with env := setE 5 (.int .i64 (i0 : Nat)) (setE 1 (.int .i64 (k + (Sm.wSL (l.take i0) : Nat))) s.env), l := (x, .cells 70 (C ++ c1)) :: (D ++ T1) }) (l.length) ?_ ?_
    ·
      refine .of' _ _ ⟨0, [], c0, [], T0, by omega, .nil, h0, rfl, rfl⟩ ?_ ?_ ?_
      · simp [Sm.wSL]; exact L_
      · exact subL_of hnd (fun p hp => hp)
      · exact keepB_of (fun p hp => .inr (.inr (ksL_mem hp)))
    rintro r s' ⟨i0, C, c1, D, T1, hir, hC, hD, hks, rfl⟩
    try refine S_ ?_
    refine g_ [0,1,5,9] ?_
    refine c_ (fun hc0 => ?_) fun hc0 => ?_
    ·
      have hl0 : i0 < l.length := by omega
      have hCl : C.length = i0 * 10 := by
        have := flat_len Sm.cs scs_len (Sm.mkL k (l.take i0))
        rw [hC.len, this, Sm.mkL_len, List.length_take]; omega
      obtain ⟨ce, c2, Te, T2, rfl, rfl, hE, hD2⟩ := hD.elem hl0
      obtain ⟨z, p, q, T3, T4, T5, rfl, rfl, hE1, hE2, hE3⟩ := own_stm hE
      have hst := Sm.wSL_take l i0 hl0
      have hsl := sum_le Sm.wS l (i0 + 1)
      rw [← Sm.wSL_sum, ← Sm.wSL_sum] at hsl
      have hsz := Sm.wS_eq (l.getD i0 default)
      have hbg := sum_get Sm.bz l i0 hl0
      have hbe := Sm.bz_eq (l.getD i0 default)
      have hks2 : ksL D ++ (ksL T3 ++ (ksL T4 ++ (ksL T5 ++ ksL T2))) = ksL T0 := by rw [← hks]; simp [ksL]
      have hnd2 : (x :: (ksL D ++ (ksL T3 ++ (ksL T4 ++ (ksL T5 ++ ksL T2))))).Nodup := by rw [hks2]; exact List.nodup_cons.2 hnd0
      have hn3 : (ksL T3).Nodup := hnd2.sublist (List.Sublist.cons _ ((List.sublist_append_left _ _).trans (List.sublist_append_right _ _)))
      have hn4 : (ksL T4).Nodup := hnd2.sublist (List.Sublist.cons _ (((List.sublist_append_left _ _).trans (List.sublist_append_right _ _)).trans (List.sublist_append_right _ _)))
      have hn5 : (ksL T5).Nodup := hnd2.sublist (List.Sublist.cons _ ((((List.sublist_append_left _ _).trans (List.sublist_append_right _ _)).trans (List.sublist_append_right _ _)).trans (List.sublist_append_right _ _)))
      obtain ⟨K, hK⟩ : ∃ K : Int, K = k + (Sm.wSL (l.take i0) : Nat) := ⟨_, rfl⟩
      rw [← hK]
      generalize ht : l.getD i0 default = t at *
      unfold kz at hbe
      rw [List.append_assoc T3, List.append_assoc T4]
      refine n_ ?_
      refine wpM_regionK [0,1,5] rfl fun Q1 hQ1 => ?_
      simp -implicitDefEqProofs (disch := omega) only [go_sem, sp0, sp1, sp2, sp3, sp4, sp5, sp6, in10]
      refine hQ1 _ _ (S_ ?_);clear hQ1 Q1
      refine g_ [0,1,5] ?_
      refine n_ ?_
      refine wpM_regionK [0,1,5] rfl fun Q1 hQ1 => ?_
      simp -implicitDefEqProofs (disch := omega) only [go_sem, sp0, sp1, sp2, sp3, sp4, sp5, sp6, in10]
      refine hQ1 _ _ (S_ ?_);clear hQ1 Q1
      refine g_ [0,1,5] ?_
      refine n_ ?_
      refine wpM_regionK [0,1,5] rfl fun Q1 hQ1 => ?_
      simp -implicitDefEqProofs (disch := omega) only [go_sem, sp0, sp1, sp2, sp3, sp4, sp5, sp6, in10]
      refine hQ1 _ _ (S_ ?_);clear hQ1 Q1
      refine g_ [0,1,5] ?_
      refine n_ ?_
      refine wpM_regionK [0,1,5] rfl fun Q1 hQ1 => ?_
      simp -implicitDefEqProofs (disch := omega) only [go_sem, sp0, sp1, sp2, sp3, sp4, sp5, sp6, in10]
      refine hQ1 _ _ (S_ ?_);clear hQ1 Q1
      refine g_ [0,1,5] ?_
      refine n_ ?_
      refine wpM_regionK [0,1,5] rfl fun Q1 hQ1 => ?_
      simp -implicitDefEqProofs (disch := omega) only [go_sem, sp0, sp1, sp2, sp3, sp4, sp5, sp6, in10]
      refine hQ1 _ _ (S_ ?_);clear hQ1 Q1
      refine g_ [0,1,5] ?_
      refine n_ ?_
      refine wpM_regionK [0,1,5] rfl fun Q1 hQ1 => ?_
      simp -implicitDefEqProofs (disch := omega) only [go_sem, sp0, sp1, sp2, sp3, sp4, sp5, sp6, in10]
      refine hQ1 _ _ (S_ ?_);clear hQ1 Q1
      refine g_ [0,1,5] ?_
      refine n_ ?_
      refine wpM_regionK [0,1,5] rfl fun Q1 hQ1 => ?_
      simp -implicitDefEqProofs (disch := omega) only [go_sem, sp0, sp1, sp2, sp3, sp4, sp5, sp6, in10]
      refine hQ1 _ _ (S_ ?_);clear hQ1 Q1
      refine g_ [0,1,5] ?_
      refine n_ ?_
      refine wpM_regionK [0,1,5] rfl fun Q1 hQ1 => ?_
      simp -implicitDefEqProofs (disch := omega) only [go_sem, ld7, ld8, ld9, in10]
      refine call_set (ps := [.sl 68 z 0 t.e.kids.length, .int .i64 (K + 1 + 1 + 1 + 1 + 1 + 1 + 1)]) ((x, _) :: D) (T4 ++ (T5 ++ T2)) (markExprS_ok _ t.e.kids (Nat.le_refl _) (by omega) z T3 (K + 1 + 1 + 1 + 1 + 1 + 1 + 1) hE1 hn3 (by omega) (by omega)) Tryz.call36 rfl rfl rfl F_ rfl (by simpa [ksL] using hnd2) ?_
      intro T6 hO6 hk6
      have hnd3 : (x :: (ksL D ++ (ksL T6 ++ (ksL T4 ++ (ksL T5 ++ ksL T2))))).Nodup := by rw [hk6]; exact hnd2
      simp -implicitDefEqProofs (disch := omega) only [go_sem, ld7, ld8, ld9, in10]
      refine hQ1 _ _ (S_ ?_);clear hQ1 Q1
      refine n_ ?_
      refine wpM_regionK [0,1,5] rfl fun Q1 hQ1 => ?_
      simp -implicitDefEqProofs (disch := omega) only [go_sem, ld7, ld8, ld9, in10]
      refine call_set (ps := [.sl 70 p 0 t.th.length, .int .i64 (K + 1 + 1 + 1 + 1 + 1 + 1 + 1 + 4 * (Ex.szL t.e.kids : Nat))]) ((x, _) :: (D ++ T6)) (T5 ++ T2) (ih _ (by omega) t.th (Nat.le_refl _) (by omega) p T4 (K + 1 + 1 + 1 + 1 + 1 + 1 + 1 + 4 * (Ex.szL t.e.kids : Nat)) hE2 hn4 (by omega) (by omega)) Tryz.call14 rfl rfl rfl F_ (congrArg (List.cons _) (List.append_assoc D T6 _).symm) (by simpa [ksL] using hnd3) ?_
      intro T7 hO7 hk7
      have hnd4 : (x :: (ksL D ++ (ksL T6 ++ (ksL T7 ++ (ksL T5 ++ ksL T2))))).Nodup := by rw [hk7]; exact hnd3
      rw [List.cons_append, List.append_assoc D T6]
      simp -implicitDefEqProofs (disch := omega) only [go_sem, ld7, ld8, ld9, in10]
      refine hQ1 _ _ (S_ ?_);clear hQ1 Q1
      refine wpM_regionK [0,1,5] rfl fun Q1 hQ1 => ?_
      simp -implicitDefEqProofs (disch := omega) only [go_sem, ld7, ld8, ld9, in10]
      refine call_set (ps := [.sl 70 q 0 t.el.length, .int .i64 (K + 1 + 1 + 1 + 1 + 1 + 1 + 1 + 4 * (Ex.szL t.e.kids : Nat) + (Sm.wSL t.th : Nat))]) ((x, _) :: (D ++ (T6 ++ T7))) T2 (ih _ (by omega) t.el (Nat.le_refl _) (by omega) q T5 (K + 1 + 1 + 1 + 1 + 1 + 1 + 1 + 4 * (Ex.szL t.e.kids : Nat) + (Sm.wSL t.th : Nat)) hE3 hn5 (by omega) (by omega)) Tryz.call14 rfl rfl rfl F_ (by rw [List.cons_append, List.append_assoc D, List.append_assoc T6]) (by simpa [ksL] using hnd4) ?_
      intro T8 hO8 hk8
      rw [List.cons_append, List.append_assoc D, List.append_assoc T6]
      simp -implicitDefEqProofs (disch := omega) only [go_sem, ld7, ld8, ld9, in10]
      refine hQ1 _ _ (S_ ?_);clear hQ1 Q1
      refine g_ [0,1,5] ?_
      have hcat : K + 1 + 1 + 1 + 1 + 1 + 1 + 1 + 4 * (Ex.szL t.e.kids : Nat) + (Sm.wSL t.th : Nat) + (Sm.wSL t.el : Nat) = k + (Sm.wSL (l.take (i0 + 1)) : Nat) := by omega
      have hE4 : Owns Tryz.prog [.int .i64 K, .int .i64 (K + 1), .int .i64 (K + 1 + 1), .int .i64 (K + 1 + 1 + 1), .int .i64 (K + 1 + 1 + 1 + 1), .int .i64 (K + 1 + 1 + 1 + 1 + 1), .int .i64 (K + 1 + 1 + 1 + 1 + 1 + 1), .sl 68 z 0 t.e.kids.length, .sl 70 p 0 t.th.length, .sl 70 q 0 t.el.length] (Sm.mk' K t).cs (T6 ++ (T7 ++ T8)) := by
        rw [Sm.cs_eq, Sm.mk_eq]
        simp only [Sm.kind, Sm.to', Sm.e, Sm.th, Sm.el, Ex.mk_eq, Ex.kind, Ex.n, Ex.a, Ex.kids]
        exact Owns.lits [.int .i64 K, .int .i64 (K + 1), .int .i64 (K + 1 + 1), .int .i64 (K + 1 + 1 + 1), .int .i64 (K + 1 + 1 + 1 + 1), .int .i64 (K + 1 + 1 + 1 + 1 + 1), .int .i64 (K + 1 + 1 + 1 + 1 + 1 + 1)] rfl (hO6.app (hO7.app hO8))
      have hC3 := hC.snocL hE4
      rw [hK, ← ht, ← Sm.mkL_take l i0 hl0 k] at hC3
      rw [← hK, ht] at hC3
      have hks3 : ksL (D ++ (T6 ++ (T7 ++ T8))) ++ ksL T2 = ksL T0 := by rw [← hks2, ← hk6, ← hk7, ← hk8]; simp [ksL]
      have hndl : ∀ (o : AObj) (T1 : List (Nat × AObj)), ksL T1 = ksL T0 → (ksL ((x, o) :: T1)).Nodup := by
        intro o T1 h
        show (x :: ksL T1).Nodup
        rw [h]; exact List.nodup_cons.2 hnd0
      rw [hcat]
      refine .of' _ _ ⟨r - 1, by omega, i0 + 1, _, c2, _, T2, by omega, hC3, hD2, hks3, rfl⟩ ?_ ?_ ?_
      · exact L_
      · refine subL_of (hndl _ _ (by rw [← hks3]; simp [ksL])) (fun p hp => ?_)
        simpa using hp
      · refine keepB_of (fun p hp => .inr (.inr (ksL_mem ?_)))
        simpa using hp
    refine g_ [4] ?_
    refine wpM_ret ?_
    try refine S_ ?_
    obtain rfl : i0 = l.length := by omega
    rw [List.drop_length] at hD
    obtain ⟨rfl, rfl⟩ := Owns.none hD
    rw [List.take_of_length_le (Nat.le_refl _)] at hC ⊢
    rw [← Sm.csL_map] at hC
    have hks' : ksL D = ksL T0 := by simpa [ksL] using hks
    have hnd' : (ksL ((x, AObj.cells 70 (C ++ [])) :: (D ++ []))).Nodup := by
      rw [List.append_nil D]
      show (x :: ksL D).Nodup
      rw [hks']; exact List.nodup_cons.2 hnd0
    refine hQ _ _ (retSet (T' := (x, .cells 70 (C ++ [])) :: (D ++ [])) rfl ?_ ?_ rfl rfl rfl (by rw [Tryz.results14] <;> simp (maxSteps := 1000000) -implicitDefEqProofs (disch := omega) only [go_sem] <;> rfl) (fun q hq => by simp only [MS.f, lk_nd hnd' hq]) (keysIn_of fun p hp => .inr ?_))
    · refine ownsSl x l.length (by rw [Sm.csL_len, Sm.mkL_len]) (by rw [cellsOf70]; decide) (fun y hy => ?_) (by simpa using hC)
      rw [Sm.csL_map, List.mem_map] at hy
      obtain ⟨e, _, rfl⟩ := hy
      rw [cellsOf70]; exact ⟨scs_len e, scs_pureL e⟩
    · show x :: ksL (D ++ []) = x :: ksL T0; rw [List.append_nil D, hks']
    · have := ksL_mem hp
      rw [List.append_nil D] at this
      change p.1 ∈ x :: ksL D at this
      rw [hks'] at this; exact this
end Go.Proofs.YtnmfmeehmieifaaGreatDoor
namespace Go.Proofs.YtnmfmeehmieifaaGreatDoor
open Go Sg
set_option maxRecDepth 100000
set_option linter.unusedSimpArgs false
set_option linter.unusedVariables false
set_option linter.unusedSectionVars false
set_option maxHeartbeats 4000000
variable [ErrL]
theorem isrunT_ok (m : MM) (l : List Sm) (F : Int) (hm : m.Sm) (hs : Sm.szL l ≤ 1099511627776) : CallF Tryz.prog 10 [.agg m.cs, .rows 70 (Sm.csL l), .int .i64 F] [] 3 (OwnR Tryz.prog (wA2 (runS m l F).2.1 (runS m l F).2.2) (runS m l F).1.cs) := by
  refine callF_of' Tryz.func10 rfl Tryz.ntmps10 (by simp) ?_
  intro f0 B ns Q hB hns hQ
  refine g_ [1,2,3,6] ?_
  refine n_ ?_
  refine wpM_regionK [1,2,6,9,10] rfl fun Q1 hQ1 => ?_
  refine S_ ?_
  refine call_fn (l := []) (first := []) (cap := []) (ps := [.agg m.cs]) (readMem_ok' m hm) Tryz.call29 rfl rfl rfl G_ T_ ?_
  rintro out ⟨x', p, l2, ⟨⟩, hp, rfl⟩
  refine S_ ?_
  refine hQ1 _ _ (S_ ?_);clear hQ1 Q1
  refine n_ ?_
  refine wpM_regionK [1,2,6,9,32] rfl fun Q1 hQ1 => ?_
  refine SD_ ?_
  first | refine cg_ (fun hb => istmtsOk_ok l hs) Tryz.call30 ?_ | refine cpD_ (istmtsOk_ok l hs) Tryz.call30 ?_
  refine hQ1 _ _ (S_ ?_);clear hQ1 Q1
  refine c_ (fun hc0 => ?_) fun hc0 => ?_
  ·
    refine g_ [6,7,8] ?_
    have hcs : runS m l F = (noM, 2, 0) := by
      rw [runS, if_neg]
      intro hh
      simp only [runOk, Bool.and_eq_true, decide_eq_true_eq] at hh
      obtain ⟨⟨⟨h1, h2⟩, h3⟩, h4⟩ := hh
      rw [h1, h2, decide_eq_false (by omega : ¬ F < 0), decide_eq_false (by omega : ¬ F > 100)] at hc0
      cases hc0
    refine wpM_nil 3 [(6, .ptr (B + 1) 0), (7, .int .i64 2), (8, .int .i64 0)] [(B + 1, .cells 28 [.sl 3 (B + 3) 0 0, .emp, .emp])] T_ T_ T_ ?_
    refine wpM_nil 3 [(6, .ptr (B + 1) 0), (7, .int .i64 2), (8, .int .i64 0)] [(B + 3, .cells 3 []), (B + 1, .cells 28 [.sl 3 (B + 3) 0 0, .sl 3 (B + 3 + 1) 0 0, .emp])] T_ T_ T_ ?_
    refine wpM_nil 3 [(6, .ptr (B + 1) 0), (7, .int .i64 2), (8, .int .i64 0)] [(B + 3 + 1, .cells 3 []), (B + 3, .cells 3 []), (B + 1, .cells 28 [.sl 3 (B + 3) 0 0, .sl 3 (B + 3 + 1) 0 0, .sl 3 (B + 3 + 1 + 1) 0 0])] T_ T_ T_ ?_
    refine wpM_ret ?_
    try refine S_ ?_
    rw [hcs] at hQ
    refine hQ _ _ (retOwnW (M := B + 6) (wA2_ok 2 0) (noM.ol (B + 3) (B + 3 + 1) (B + 3 + 1 + 1)) (own_mem noM (B + 3) (B + 3 + 1) (B + 3 + 1 + 1)) rfl rfl rfl (by rw [Tryz.results10] <;> simp (maxSteps := 1000000) -implicitDefEqProofs (disch := omega) only [go_sem] <;> rfl) (by rw [hns]; rfl) ?_ (fun q hq => ?_) (by simp [ksL, MM.ol] <;> omega))
    · simp [inR_cons, inR_nil] <;> omega
    · simp [MM.ol, noM, ints] at hq ⊢
      rcases hq with rfl | rfl | rfl <;> simp
  simp only [Bool.or_eq_false_iff, Bool.not_eq_false', decide_eq_false_iff_not] at hc0
  obtain ⟨⟨⟨h1, h2⟩, h3⟩, h4⟩ := hc0
  have hok : runOk m l F = true := by
    simp only [runOk, Bool.and_eq_true, decide_eq_true_eq]
    exact ⟨⟨⟨h1, h2⟩, by omega⟩, by omega⟩
  have hcs : runS m l F = endO (Sm.exL l m F.toNat) := by rw [runS, if_pos hok]
  have hsix := MM.ok_six h1
  have hsx := Sm.exL_six l m F.toNat hsix
  have hpp : p = .ptr (B + 2) 0 ∧ l2 = m.flat := by
    rcases hp with ⟨_, h2, h3⟩ | ⟨h5, _⟩
    · exact ⟨h2, h3⟩
    · rw [h1] at h5; cases h5
  obtain ⟨rfl, rfl⟩ := hpp
  have hFn : ((F.toNat : Nat) : Int) = F := by omega
  refine g_ [1,6,9,11] ?_
  refine n_ ?_
  refine wpM_regionK [6,9,11,12] rfl fun Q1 hQ1 => ?_
  refine S_ ?_
  refine call_fn (l := rfoot (B + 3) (B + 2) F.toNat m) (first := []) (cap := []) (ps := [.ptr (B + 3) 0, .rows 70 (Sm.csL l)]) (all_ok (B + 3) (B + 2) (by omega) _ l (Nat.le_refl _) hs ⟨4, (okS_form h2).1⟩ m F.toNat hsix (by omega)) Tryz.call31 rfl rfl rfl T_ (by simp -implicitDefEqProofs (disch := omega) only [go_sem, hFn]) ?_
  rintro out rfl
  refine S_ ?_
  refine hQ1 _ _ (S_ ?_);clear hQ1 Q1
  generalize hx : Sm.exL l m F.toNat = X at *
  refine n_ ?_
  refine wpM_regionK [6,7,8] rfl fun Q1 hQ1 => ?_
  refine S_ ?_
  refine call_fn (l := mobj (B + 2) X.1) (first := []) (cap := []) (ps := [.ptr (B + 2) 0, .int .i64 (X.2.1 : Int), errV X.2.2]) (ended_ok (B + 2) X.1 hsx (X.2.1 : Int) X.2.2) Tryz.call32 rfl rfl rfl G_ T_ ?_
  rintro out ⟨x2, y2, z2, ⟨⟩, rfl⟩
  refine S_ ?_
  refine hQ1 _ _ (S_ ?_);clear hQ1 Q1
  refine wpM_ret ?_
  try refine S_ ?_
  rw [hcs] at hQ
  refine hQ _ _ (retOwnW (M := B + 7) (wA2_ok _ _) (X.1.ol (B + 4) (B + 4 + 1) (B + 4 + 1 + 1)) (cs := X.1.oc (B + 4) (B + 4 + 1) (B + 4 + 1 + 1)) (own_mem X.1 (B + 4) (B + 4 + 1) (B + 4 + 1 + 1)) rfl rfl rfl ?_ (by rw [hns]; rfl) ?_ (fun q hq => ?_) (by simp [ksL, MM.ol] <;> omega))
  · simp only [MM.oc, hsx.i, hsx.o, hsx.v, endO]
    exact (by rw [Tryz.results10] <;> simp (maxSteps := 1000000) -implicitDefEqProofs (disch := omega) only [go_sem] <;> rfl)
  · simp [inR_cons, inR_nil] <;> omega
  · simp only [MM.ol, List.mem_cons, List.not_mem_nil, or_false] at hq ⊢
    rcases hq with rfl | rfl | rfl <;> simp
end Go.Proofs.YtnmfmeehmieifaaGreatDoor
namespace Go.Proofs.YtnmfmeehmieifaaGreatDoor
open Go Sg
set_option maxRecDepth 100000
set_option linter.unusedSimpArgs false
set_option linter.unusedVariables false
set_option linter.unusedSectionVars false
set_option maxHeartbeats 4000000
variable [ErrL]
theorem runS_mz (m : MM) (l : List Sm) (F : Int) : mz (runS m l F).1 ≤ 18 := by
  unfold runS
  split
  · rename_i h
    simp only [runOk, Bool.and_eq_true] at h
    have h6 := Sm.exL_six l m F.toNat (MM.ok_six h.1.1.1)
    show mz (Sm.exL l m F.toNat).1 ≤ 18
    unfold mz
    rw [h6.i, h6.o, h6.v]; omega
  · unfold mz noM; simp
theorem isrunO_ok (m : MM) (l : List Sm) (F : Int) (hm : m.Sm) (hs : Sm.szL l ≤ 1099511627776) {ca : List PV} {b : PV} {Ta Tb : List (Nat × AObj)} (ha : Owns Tryz.prog ca m.cs Ta) (hb : Owns Tryz.prog [b] [.rows 70 (Sm.csL l)] Tb) (hnd : (ksL (Ta ++ Tb)).Nodup) :
    CallF Tryz.prog 10 [.agg ca, b, .int .i64 F] (Ta ++ Tb) 3 (OwnR Tryz.prog (wA2 (runS m l F).2.1 (runS m l F).2.2) (runS m l F).1.cs) :=
  CallF.own (ha.app hb) hnd (fun θ h => aggs2 h ha.len rfl) (fun ns o _ h => ownR_flatW (wA2_ok _ _) h) (isrunT_ok m l F hm hs)
theorem lawRun_ok (m : MM) (l : List Sm) (F : Int) (hm : m.Len) (hl : l.length ≤ maxLen) (hL : Sm.LenL l) : PureF Tryz.prog 3 [.agg m.cs, .rows 60 (Sm.lcsL l), .int .i64 F] [.bool true] := by
  refine pureF_of Tryz.func3 rfl Tryz.ntmps3 (by simp) T_ ?_
  intro f0 B Q hQ
  refine g_ [1,2,3] ?_
  refine g_ [1,2,3,7] ?_
  refine n_ ?_
  refine wpM_regionK [1,2,3,7] rfl fun Q1 hQ1 => ?_
  refine S_ ?_
  refine cp_ (szMem_ok m hm 1048576 (by omega) (by omega)) Tryz.call5 ?_
  refine hQ1 _ _ (S_ ?_);clear hQ1 Q1
  refine g_ [1,2,3,7,26] ?_
  refine c_ (fun hc0 => ?_) fun hc0 => ?_
  ·
    refine g_ [6] ?_
    exact e_ Tryz.results3 True.intro
  have p1 := szR_pos hc0
  refine n_ ?_
  refine wpM_regionK [1,2,3,7] rfl fun Q1 hQ1 => ?_
  refine S_ ?_
  refine cp_ (szStmtS_ok _ l (Nat.le_refl _) hl hL (szR 1048576 (mz m)) (by omega) (by omega)) Tryz.call6 ?_
  refine hQ1 _ _ (S_ ?_);clear hQ1 Q1
  refine g_ [1,2,3,31] ?_
  refine c_ (fun hc1 => ?_) fun hc1 => ?_
  ·
    refine g_ [6] ?_
    exact e_ Tryz.results3 True.intro
  have p2 := szR_pos hc1
  have hzm : mz m ≤ 1048576 := by omega
  have hzl : Sm.bzL l ≤ 1048576 := by omega
  have hSm := mz_Sm hzm
  have hSz : Sm.szL l ≤ 1099511627776 := by have := Sm.bz_szL _ l (Nat.le_refl _); omega
  have hrz := runS_mz m l F
  have hto := toStmtS_ok _ l (Nat.le_refl _) hzl
  have hwl := Sm.wSL_le _ l (Nat.le_refl _)
  refine n_ ?_
  refine wpM_regionK [1,2,3,8,9,10] rfl fun Q1 hQ1 => ?_
  refine S_ ?_
  refine cp_ (toMem_ok m hzm) Tryz.call8 ?_
  refine cp_ (hto) Tryz.call9 ?_
  refine cp_ (srun_ok m l F hSm hSz) Tryz.call7 ?_
  refine hQ1 _ _ (S_ ?_);clear hQ1 Q1
  refine n_ ?_
  refine wpM_regionK [1,2,3,8,9,10,11] rfl fun Q1 hQ1 => ?_
  refine S_ ?_
  refine call_own (ps := [.agg m.cs]) (toMemT_ok m hzm) Tryz.call8 rfl rfl rfl F_ (by simp [inR_cons, inR_nil] <;> omega) (by show B ≤ B + 2; omega) ?_
  intro ca Ta hOa hIa hka
  dsimp only at hIa hka
  have hA0 : InR B (B + 2 + 3) ((B + 1, AObj.dfr 0) :: (B, .dfr 0) :: Ta) := InR.app (l := [_, _]) (M := B + 2) (by simp [inR_cons, inR_nil]) hIa (by omega) (by omega)
  obtain ⟨xa, ya, za, hca, hTa⟩ := own_memI hOa
  subst hca
  unfold MM.oc
  refine S_ ?_
  refine hQ1 _ _ (S_ ?_);clear hQ1 Q1
  refine n_ ?_
  refine wpM_regionK [1,2,3,8,9,10,11,12] rfl fun Q1 hQ1 => ?_
  refine S_ ?_
  refine call_own (ps := [.rows 60 (Sm.lcsL l)]) (toStmtST_ok _ l (Nat.le_refl _) hzl) Tryz.call9 rfl rfl rfl F_ ((hA0.top (o := .dfr 0) (by omega)).ks rfl) (by show B ≤ B + 6; omega) ?_
  intro cb Tb hOb hIb hkb
  dsimp only at hIb hkb
  have hA1 := (hA0.top (o := .dfr 0) (by omega)).app hIb (by omega) (by omega)
  obtain ⟨xb, _, _, hcb, _, _⟩ := own_stmL hOb
  subst hcb
  dsimp only
  generalize hN : B + 6 + (1 + Sm.nSL l) = N at *
  have hBN : B + 6 ≤ N := by omega
  refine S_ ?_
  refine hQ1 _ _ (S_ ?_);clear hQ1 Q1
  refine n_ ?_
  refine wpM_regionK [1,2,3,8,9,10,11,12,13,14,15] rfl fun Q1 hQ1 => ?_
  refine S_ ?_
  refine call_ownT (ps := [.agg _, .sl 70 xb 0 l.length, .int .i64 F]) (S := Ta ++ Tb) (isrunO_ok m l F hSm hSz hOa hOb (InR.pop (l := [_, _, _]) (hA1.ks rfl)).nd) Tryz.call10 rfl rfl rfl F_ (hA1.ks rfl) (by show B ≤ N; omega) (fun p hp => by simp only [List.mem_cons, List.mem_append] at hp ⊢; rcases hp with h | h <;> simp [h]) ?_
  intro cg Tg hOg hIg hkg
  dsimp only at hIg hkg
  have hA2 := hA1.app hIg (by omega) (by omega)
  generalize hS : runS m l F = S at *
  obtain ⟨xg, yg, zg, hcg, hTg⟩ := own_memI hOg
  subst hcg
  unfold MM.oc
  have hndg : (ksL Tg).Nodup := hIg.nd
  have hSS : S.1.Sm := mz_Sm (by omega)
  have hA3 := (hA2.top (o := .dfr 0) (by omega)).ks (l' := [(N + 3, AObj.dfr 0), (B + 2 + 3, .dfr 0), (B + 1, .dfr 0), (B, .dfr 0)] ++ (Ta ++ (Tb ++ Tg))) (by simp [ksL])
  have hA4 := hA3.cut
  have hA5 := hA4.cut
  refine S_ ?_
  refine hQ1 _ _ (S_ ?_);clear hQ1 Q1
  refine n_ ?_
  refine wpM_regionK [1,2,3,8,9,10,11,12,13,14,15,67] rfl fun Q1 hQ1 => ?_
  simp (contextual := true) (maxSteps := 1000000) (implicitDefEqProofs := false) (disch := first | omega | (simp only [decide_eq_true_eq, decide_eq_false_iff_not, Bool.and_eq_true, Bool.or_eq_false_iff, Bool.not_eq_true'] at *; omega)) only [go_sem, bne_self_eq_false]
  refine call_r (own1 hOg hndg (fun θ => rfl) rfl (eqMem_ok S.1 S.1 hSS)) (own_f (hA3.ks (by simp [ksL])) (fun p hp => by simp [hp])) Tryz.call11 rfl rfl rfl F_ ?_
  rw [same_self]
  simp (contextual := true) (maxSteps := 1000000) (implicitDefEqProofs := false) (disch := first | omega | (simp only [decide_eq_true_eq, decide_eq_false_iff_not, Bool.and_eq_true, Bool.or_eq_false_iff, Bool.not_eq_true'] at *; omega)) only [go_sem, bne_self_eq_false]
  refine hQ1 _ _ (S_ ?_);clear hQ1 Q1
  refine c1_ ?_
  refine n_ ?_
  refine drG_ mixed [1,2,3,8,9,10,11,12,13,14,15,72] 0 2 3 (ksL Ta) [] [] [B, B + 2 + 3] [⟨[11],[1],[],[],false⟩,⟨[3],[0],[],[],false⟩,⟨[69],[],[],[],true⟩,⟨[68,70],[],[],[],true⟩,⟨[71],[],[],[],false⟩] [0,1,2] [4] [[],[],[1],[0,1,2],[0,1,2,3]] 2 ?_ ?_ ?_ ?_ ?_ ?_
  · simp; omega
  · simp
  · exact List.nodup_nil
  · intro n hn; simp at hn
  · intro j hj hjt
    have hj : j ∈ ksL Ta := by rcases hj with h | h | h <;> first | exact h | simp at h
    obtain ⟨p, hp, rfl⟩ := List.mem_map.1 hj
    have h3 := hIa.at' p hp
    simp only [List.mem_cons, List.not_mem_nil, or_false] at hjt
    rcases hjt with h | h <;> omega
  intro O A K hO hA hK;simp only [atL_cons,atL_nil,Nat.reduceAdd,Nat.zero_add] at hO hA
  refine SO_ ?_
  refine lp_ (toMem_ok m hzm) Tryz.call8 ?_
  refine kG2_read (first := []) (cap := []) (ps := [.agg _, .agg m.cs]) (T := Ta) (own1 hOa hIa.nd (fun θ => rfl) rfl (eqMem_ok m m hSm)) Tryz.call11 rfl rfl ⟨rfl, rfl, rfl⟩ T_ rfl F_ (fun p hp => InR.f (hA3.ks (by simp [ksL])) (by simp [hp])) ?_
  unfold contG
  rw [same_self]
  simp -implicitDefEqProofs (disch := omega) only [go_sem, hO, hA]
  refine hK _ (S_ ?_);clear hK K hO hA O A
  refine c1_ ?_
  refine n_ ?_
  refine wpM_regionK [1,2,3,8,9,10,11,12,13,14,15,77] rfl fun Q1 hQ1 => ?_
  refine S_ ?_
  refine cp_ (hto) Tryz.call9 ?_
  refine call_r (own1s hOb hIb.nd (fun θ => rfl) rfl (eqStmtS_ok _ l l (Nat.le_refl _) hSz)) (own_f (hA3.ks (by simp [ksL])) (fun p hp => by simp [hp])) Tryz.call12 rfl rfl rfl F_ ?_
  rw [same_self]
  refine S_ ?_
  refine hQ1 _ _ (S_ ?_);clear hQ1 Q1
  refine c1_ ?_
  refine g_ [1,2,3,8,9,10,11,12,13,14,15,16] ?_
  refine n_ ?_
  rw [List.append_assoc Ta Tb Tg]
  refine wpM_regionK [1,2,3,8,9,10,12,13,14,15,16] rfl fun Q1 hQ1 => ?_
  refine S_ ?_
  refine call_setD (T := Ta) (ps := [.agg _, .int .i64 1]) [_, _, _, _] (Tb ++ Tg) (by rw [hTa]; have h1 := hIa.nd; rw [hTa] at h1; simp [ksL, MM.ol] at h1; exact markMem_ok m hzm xa ya za h1.1.1 h1.1.2 h1.2 1 (by omega) (by omega)) Tryz.call13 rfl rfl rfl F_ rfl (hA3.ks rfl).nd (fun p hp => by have := hIa.at' p hp; show B ≤ p.1; omega) ?_
  refine S_ ?_
  refine hQ1 _ _ (S_ ?_);clear hQ1 Q1
  refine n_ ?_
  refine wpM_regionK [1,2,3,8,9,10,13,14,15,16] rfl fun Q1 hQ1 => ?_
  refine S_ ?_
  refine call_setD (T := Tb) (ps := [.sl 70 xb 0 l.length, .int .i64 (1 + (mz m : Nat))]) [_, _, _, _] Tg (markStmtS_ok _ l (Nat.le_refl _) hzl xb Tb (1 + (mz m : Nat)) hOb hIb.nd (by omega) (by omega)) Tryz.call14 rfl rfl rfl F_ rfl (hA4.ks rfl).nd (fun p hp => by have := hIb.at' p hp; show B ≤ p.1; omega) ?_
  refine S_ ?_
  refine hQ1 _ _ (S_ ?_);clear hQ1 Q1
  refine n_ ?_
  have hneg : ¬ ((1 + (mz m : Nat) + (Sm.wSL l : Nat) : Int) < 0) := by omega
  refine wpM_regionK [1,2,3,8,9,10,13,101] rfl fun Q1 hQ1 => ?_
  simp (contextual := true) (maxSteps := 1000000) (implicitDefEqProofs := false) (disch := first | omega | (simp only [decide_eq_true_eq, decide_eq_false_iff_not, Bool.and_eq_true, Bool.or_eq_false_iff, Bool.not_eq_true'] at *; omega)) only [go_sem, hneg, decide_false, bne_self_eq_false]
  refine call_r (own1 hOg hndg (fun θ => rfl) rfl (eqMem_ok S.1 S.1 hSS)) (own_f (hA5.ks rfl) (fun p hp => by simp [hp])) Tryz.call11 rfl rfl rfl F_ ?_
  rw [same_self]
  simp (contextual := true) (maxSteps := 1000000) (implicitDefEqProofs := false) (disch := first | omega | (simp only [decide_eq_true_eq, decide_eq_false_iff_not, Bool.and_eq_true, Bool.or_eq_false_iff, Bool.not_eq_true'] at *; omega)) only [go_sem, hneg, decide_false, bne_self_eq_false]
  refine hQ1 _ _ (S_ ?_);clear hQ1 Q1
  refine c1_ ?_
  refine g_ [1,2,3,8,9,10,13,17] ?_
  refine n_ ?_
  have hgn : xg ≠ yg ∧ xg ≠ zg ∧ yg ≠ zg := by
    have h1 := hndg
    rw [hTg] at h1
    simp [ksL, MM.ol] at h1
    exact ⟨h1.1.1, h1.1.2, h1.2⟩
  refine wpM_regionK [1,2,3,8,9,10,13,17] rfl fun Q1 hQ1 => ?_
  refine S_ ?_
  refine call_set (T := Tg) (ps := [.agg _, .int .i64 1]) [_, _, _, _] [] (by rw [hTg]; exact markMem_ok S.1 (by omega) xg yg zg hgn.1 hgn.2.1 hgn.2.2 1 (by omega) (by omega)) Tryz.call13 rfl rfl rfl F_ (by rw [List.append_nil]; rfl) (hA5.ks rfl).nd ?_
  intro Tm hOm hksm
  have hA6 := hA5.ks (l' := [(N + 3, AObj.dfr 0), (B + 2 + 3, .dfr 0), (B + 1, .dfr 0), (B, .dfr 0)] ++ Tm) (by rw [ksL_app, ksL_app, hksm])
  have hndm : (ksL Tm).Nodup := by rw [hksm]; exact hndg
  refine S_ ?_
  refine hQ1 _ _ (S_ ?_);clear hQ1 Q1
  refine g_ [1,2,3,8,9,10,13,17,18] ?_
  refine n_ ?_
  refine wpM_regionK [1,2,3,8,9,10,13,17,18] rfl fun Q1 hQ1 => ?_
  refine S_ ?_
  refine call_r (own1 hOm hndm (fun θ => rfl) rfl (heldMem_ok 1 S.1 (by omega) (by omega) (by omega))) (own_f (hA6.ks rfl) (fun p hp => by simp [hp])) Tryz.call15 rfl rfl rfl F_ ?_
  have hneg2 : ¬ ((1 + (mz S.1 : Nat) : Int) < 0) := by omega
  refine S_ ?_
  refine hQ1 _ _ (S_ ?_);clear hQ1 Q1
  refine n_ ?_
  refine wpM_regionK [1,2,3,8,9,10,13,17,18,109] rfl fun Q1 hQ1 => ?_
  simp -implicitDefEqProofs (disch := omega) only [go_sem, hneg2, decide_false]
  refine hQ1 _ _ (S_ ?_);clear hQ1 Q1
  refine c1_ ?_
  refine g_ [1,2,3,8,9,10,13,17,112] ?_
  refine c_ (fun hc7 => ?_) fun hc7 => ?_
  · exfalso; simp at hc7
  refine n_ ?_
  rw [← mkM_oc 1] at hOm
  obtain ⟨xm, ym, zm, _, hTm⟩ := own_memI hOm
  subst hTm
  have hmB : B ≤ xm ∧ B ≤ ym ∧ B ≤ zm := by
    have h1 := hA6.pop
    exact ⟨(h1.at' (xm, .cells 3 (ints (mkM 1 S.1).i)) (by simp [MM.ol])).1, (h1.at' (ym, .cells 3 (ints (mkM 1 S.1).o)) (by simp [MM.ol])).1, (h1.at' (zm, .cells 3 (ints (mkM 1 S.1).v)) (by simp [MM.ol])).1⟩
  rw [mkM_oc 1] at hOm
  refine wpM_regionK [8,9,10,13,17,19,20,21] rfl fun Q1 hQ1 => ?_
  refine S_ ?_
  refine cp_ (toMem_ok m hzm) Tryz.call8 ?_
  refine cp_ (hto) Tryz.call9 ?_
  refine call_p (rs := [.agg S.1.cs, .int .i64 S.2.1, .int .i64 S.2.2]) (by rw [← hS]; exact isrun_ok m l F hSm hSz) Tryz.call10 rfl rfl rfl F_ ?_
  refine S_ ?_
  refine hQ1 _ _ (S_ ?_);clear hQ1 Q1
  refine n_ ?_
  refine wpM_regionK [13,17,136] rfl fun Q1 hQ1 => ?_
  simp (contextual := true) (maxSteps := 1000000) (implicitDefEqProofs := false) (disch := first | omega | (simp only [decide_eq_true_eq, decide_eq_false_iff_not, Bool.and_eq_true, Bool.or_eq_false_iff, Bool.not_eq_true'] at *; omega)) only [go_sem, bne_self_eq_false]
  refine call_p (eqMem_ok S.1 S.1 hSS) Tryz.call11 rfl rfl rfl F_ ?_
  rw [same_self]
  simp (contextual := true) (maxSteps := 1000000) (implicitDefEqProofs := false) (disch := first | omega | (simp only [decide_eq_true_eq, decide_eq_false_iff_not, Bool.and_eq_true, Bool.or_eq_false_iff, Bool.not_eq_true'] at *; omega)) only [go_sem, bne_self_eq_false]
  refine hQ1 _ _ (S_ ?_);clear hQ1 Q1
  refine c1_ ?_
  refine g_ [13,17,18] ?_
  refine n_ ?_
  refine wpM_regionK [17,18] rfl fun Q1 hQ1 => ?_
  refine S_ ?_
  refine call_r (own1 hOm hndm (fun θ => rfl) rfl (heldMem_ok 1 S.1 (by omega) (by omega) (by omega))) (own_f ((hA6.top (o := .dfr 0) (by omega)).ks rfl) (fun p hp => by simp only [MM.ol, List.mem_cons, List.not_mem_nil, or_false] at hp; rcases hp with rfl | rfl | rfl <;> simp)) Tryz.call15 rfl rfl rfl F_ ?_
  refine S_ ?_
  refine hQ1 _ _ (S_ ?_);clear hQ1 Q1
  refine n_ ?_
  refine wpM_regionK [17,18,141] rfl fun Q1 hQ1 => ?_
  simp -implicitDefEqProofs (disch := omega) only [go_sem, hneg2, decide_false]
  refine hQ1 _ _ (S_ ?_);clear hQ1 Q1
  refine c1_ ?_
  refine g_ [144] ?_
  refine c_ (fun hc10 => ?_) fun hc10 => ?_
  · exfalso; simp at hc10
  refine g_ [6] ?_
  exact e_ Tryz.results3 True.intro
end Go.Proofs.YtnmfmeehmieifaaGreatDoor
namespace Go.Proofs.YtnmfmeehmieifaaGreatDoor
open Go Sg Go.ChangeShapes Go.WideShapes Go.ChangeAt Go.RowKit
set_option linter.unusedVariables false
set_option maxRecDepth 100000
theorem Tryz.own : ownKnob Tryz.prog.godebug = none := by kernel_rfl
theorem Tryz.laidOut : laidOutB Tryz.prog = true := by kernel_rfl
def errNm : String := "loop.example/stopgate/impl.errLong"
def laidE : List (String × DataW Unit) := [(errNm, .iface "*errors.errorString" (.ptr (.agg [.lit (.string [116, 97, 107, 101, 115, 32, 116, 111, 111, 32, 108, 111, 110, 103])])))]
theorem Tryz.gErr : Tryz.prog.globalNamed errNm = some 0 := by kernel_rfl
theorem Tryz.gErrT : (Tryz.prog.globals[0]?).map (·.type) = some 79 := by kernel_rfl
theorem errStar : "*" ++ "errors.errorString" = "*errors.errorString" := by decide
theorem Tryz.rowErr (u : TypeId) (h : Tryz.prog.typeName? 3 u = some "*errors.errorString") : u = 219 :=
  typeName_ptr_named (nm := "errors.errorString") (by rw [errStar]; kernel_rfl) (by kernel_rfl) (by decide) u (by rw [errStar]; exact h)
theorem Tryz.cellsEs : Tryz.prog.cellsOf 247 = 1 := by kernel_rfl
theorem Tryz.cellsStr : Tryz.prog.cellsOf 9 = 1 := by kernel_rfl
theorem err_of_laid {W : World} (h : laidMet Tryz.prog laidE W) : ∃ a : Addr, a.spot = none ∧ W.var? Tryz.prog errNm = some #[.iface 219 (.pointer (some a))] := by
  obtain ⟨ps, ⟨g0, t0, cs0, f0, p0, q0, hg0, ht0, hv0, hd0, hq0, e0⟩, hnd, hrows⟩ := h
  obtain rfl := Option.some.inj (Tryz.gErr.symm.trans hg0)
  obtain rfl := Option.some.inj (Tryz.gErrT.symm.trans ht0)
  have hq0' : q0 = [] := hq0
  subst hq0'
  subst e0
  obtain ⟨l0⟩ := cs0
  have ok0 : ∀ u v, l0 = [.iface u v] → Value.okWide Tryz.prog W .any 0 u v := fun u v e => by
    subst e
    exact (hrows 0 0 (by simp [MemPlace.row])).2 u v (by simpa using World.var?_cell hg0 hv0 0)
  obtain ⟨a0, s0, rfl, hc0, hs0, hz0, rfl⟩ := errorString_of_trod Tryz.underlying79 Tryz.rowErr Tryz.underlying219 Tryz.underlying247 rfl rfl Tryz.underlying9 Tryz.cellsEs Tryz.cellsStr hd0 ok0
  exact ⟨a0, World.cell?_spot hc0, hv0⟩
noncomputable def lowE : Nat := (World.holding Tryz.prog default ⟨#[], #[], []⟩).heap.size
noncomputable def laidWorldE (os : Os) : World :=
  let w0 := World.holding Tryz.prog os ⟨#[.cells #[.string { data := #[116, 97, 107, 101, 115, 32, 116, 111, 111, 32, 108, 111, 110, 103] }] 247], #[], []⟩
  { w0 with heap := w0.heap.modify 0 fun
      | .cells _ t frozen => .cells #[.iface 219 (.pointer (some ⟨lowE, 0, none⟩))] t frozen
      | o => o }
theorem laidWorldE_met (os : Os) (args : Array Value) : laidMet Tryz.prog laidE ((laidWorldE os).forCall (fun _ _ => 0) ⟨#[], args, []⟩).memory :=
  laidMet_of_run (ps := [.cell 0 0, .cell lowE 0]) 8 (by kernel_rfl) (by kernel_rfl) (by kernel_rfl)
theorem varsE {H : Type} (enc : TypeId × Value → H) {W : World} {x : Value} (h0 : W.var? Tryz.prog errNm = some #[x]) (i0 : IsIface x) (sp : Nat → Bool) :
    DataW.TrodVars enc Tryz.prog W sp [errNm] [tok enc x] [.cell 0 0] :=
  ⟨0, 79, #[x], 1, [], [], Tryz.gErr, Tryz.gErrT, h0, trod_held Tryz.underlying79 i0 0, rfl, rfl⟩
abbrev errI (b o : Nat) : ErrL := { tab := fun i => if i = 0 then some [.iface 219 (.kptr b o)] else none, eb := b, eo := o, tab0 := by simp }
theorem errI_ok {W : World} {b o : Nat} (h : W.var? Tryz.prog errNm = some #[.iface 219 (.pointer (some ⟨b, o, none⟩))]) : @GlobOk (errI b o).toGlob Tryz.prog (ghOf W) := by
  intro i cs hi
  have hi' : (if i = 0 then some [PV.iface 219 (.kptr b o)] else none) = some cs := hi
  split at hi'
  · rename_i hi0
    subst hi0
    injection hi' with hi'
    subst hi'
    unfold World.var? at h
    rw [Tryz.gErr] at h
    simp only [Option.bind_some] at h
    split at h
    · rename_i c t fr hb
      injection h with h
      subst h
      refine ⟨?_, _, _, _, hb, by simp⟩
      refine .vptr _ _ _ _ t fr hb (by simp) rfl fun j hj => ?_
      obtain rfl : j = 0 := by simpa using hj
      exact .iface _ _ _ (.kptr b o)
    · cases h
  · cases hi'
end Go.Proofs.YtnmfmeehmieifaaGreatDoor
namespace Go.Proofs.YtnmfmeehmieifaaGreatDoor
open Go Sg Go.ChangeShapes Go.WideShapes Go.ChangeAt Go.RowKit
set_option linter.unusedVariables false
set_option maxRecDepth 100000 in
theorem open_stmsA [Glob] {H : Type} {enc : TypeId × Value → H} {W : World} {base : Nat} {v : Value} {d : DataW H} {ps : List MemPlace} (hval : Value.okWide Tryz.prog W .any base 25 v) (h : DataW.Trod enc Tryz.prog W 0 (fun _ => true) true 25 v d ps) : ∃ l : List Sm, l.length ≤ maxLen ∧ Sm.LenL l ∧ R Tryz.prog (ghOf W) (.rows 60 (Sm.lcsL l)) v := by
  obtain ⟨a, len, cap, rfl⟩ := okWide_slice Tryz.underlying25 hval
  obtain ⟨fuel, hf⟩ := h
  obtain ⟨l, h1, h2, h3⟩ := open_stms hf
  exact ⟨l, h1, h2, lies_one h3⟩
set_option maxRecDepth 100000 in
theorem fnExactStmtsRun_lifted (os : Os) (started : os.Started) (H : Type) (enc : TypeId × Value → H) :
    ReturnsInHanded {} Tryz.checked os 3 .any (fun w args => (Rows.fnExactStmtsRunSpec.pre enc Tryz.prog Tryz.f3 Rows.fnExactStmtsRunRow.domain false w args ∧ laidMet Tryz.prog laidE w) ∧ sizedMet enc Tryz.prog Tryz.f3 (OpenSpec.ofChange Rows.fnExactStmtsRunSpec) false w args) (Rows.fnExactStmtsRunSpec.post enc Tryz.prog Tryz.f3 false true false false) := by
  refine returnsInHanded_of_change_and (C := Tryz.checked) (X := fun w _ => laidMet Tryz.prog laidE w) (fun _ _ _ hh h => h.of_heap hh) Tryz.own started (by kernel_rfl) Tryz.func3
    (ChangeSpec.witness_at (enc := enc) (C := Tryz.checked) (os := os) (X := fun w _ => laidMet Tryz.prog laidE w) false (laidWorldE os) #[.agg #[.slice none 0 0, .slice none 0 0, .slice none 0 0], .slice none 0 0, .int .i64 0] 8 rfl (by kernel_rfl) (by kernel_rfl) (by kernel_rfl) (by kernel_rfl) (by kernel_rfl) (laidWorldE_met os _)) ?_
  intro W base args ds gs before hval0 hW hcnd _ hL _
  have hval : ∀ (j : Nat) t v, Tryz.f3.params[j]? = some t → args[j]? = some v → Value.okWide Tryz.prog W .any base t v := hval0
  have hW' := hW
  obtain ⟨p, q, hA0, hV0, rfl, hfz, hnd⟩ := hW
  have hA : DataW.TrodAll enc Tryz.prog W 0 (fun _ => true) true Tryz.f3.params.toList args.toList ds p := hA0
  have hV : DataW.TrodVars enc Tryz.prog W (fun _ => true) [errNm] gs q := hV0
  rw [Tryz.params3] at hA hval
  obtain ⟨v0, vs0, d0, ds0, p0, q0, hargs, rfl, rfl, h0, r0⟩ := trodAll_cons hA
  obtain ⟨v1, vs1, d1, ds1, p1, q1, rfl, rfl, rfl, h1, r1⟩ := trodAll_cons r0
  obtain ⟨v2, vs2, d2, ds2, p2, q2, rfl, rfl, rfl, h2, r2⟩ := trodAll_cons r1
  obtain ⟨rfl, rfl, rfl⟩ := trodAll_nil r2
  obtain rfl : args = #[v0, v1, v2] := by cases args; simp_all
  obtain ⟨⟨ab, ao, asp⟩, hsp, hv0⟩ := err_of_laid hL
  obtain rfl : asp = none := hsp
  obtain ⟨rfl, rfl⟩ := hV.unique (varsE enc hv0 trivial _)
  clear hA0 hV0 hval0
  have hlt : ∀ x ∈ (p0 ++ (p1 ++ (p2 ++ []))), x.block < W.heap.size := fun x hx => by simpa using hW'.lt x (by simp at hx ⊢; rcases hx with h | h | h <;> simp [h])
  have hg0 : 0 < W.heap.size := hW'.lt (.cell 0 0) (by simp)
  letI : ErrL := errI ab ao
  obtain ⟨m, hm, hr0⟩ := open_memA (hval 0 24 v0 rfl rfl) h0
  obtain ⟨l, hl, hL2, hr1⟩ := open_stmsA (hval 1 25 v1 rfl rfl) h1
  obtain ⟨n2, rfl⟩ := okWide_int Tryz.underlying3 (hval 2 3 v2 rfl rfl)
  refine (top_calls (W := W) (args := [.agg m.cs, .rows 60 (Sm.lcsL l), .int .i64 n2]) (errI_ok hv0) ⟨rfl, fun j hj => ?_⟩ (lawRun_ok m l n2 hm hl hL2)).mono fun e W' ⟨he, hb⟩ => ?_
  · match j, hj with
    | 0, _ => exact hr0
    | 1, _ => exact hr1
    | 2, _ => exact .int _ _
  subst he
  exact ⟨_, rfl, _, _, _, [], (p0 ++ (p1 ++ (p2 ++ []))), [.cell 0 0], hW', trodAll_cons_mk (shut_bool Tryz.underlying4 _) trodAll_mk0, (trodAll_cons_mk (WideElems.Trod_stays Tryz.laidOut (by kernel_rfl) (of_decide_eq_true (by kernel_rfl)) h0 (fun x hx => hb.same (hlt x (by simp [hx]))) (fun x hx => by simpa using hlt x (by simp [hx]))) (trodAll_cons_mk (WideElems.Trod_stays Tryz.laidOut (by kernel_rfl) (of_decide_eq_true (by kernel_rfl)) h1 (fun x hx => hb.same (hlt x (by simp [hx]))) (fun x hx => by simpa using hlt x (by simp [hx]))) (trodAll_cons_mk (WideElems.Trod_stays Tryz.laidOut (by kernel_rfl) (of_decide_eq_true (by kernel_rfl)) h2 (fun x hx => hb.same (hlt x (by simp [hx]))) (fun x hx => by simpa using hlt x (by simp [hx]))) trodAll_mk0))), varsE enc (var?_below hb Tryz.gErr hg0 hv0) trivial _, hb.frame _, fun h => by cases h⟩
theorem fnExactStmtsRun_holds : Rows.FnExactStmtsRunSaid :=
  OpenClaim.holds_of_wide 3 Tryz.f3 rfl rfl rfl rfl rfl rfl rfl ⟨rfl, rfl, rfl, rfl, rfl⟩ rfl rfl rfl rfl rfl (by kernel_rfl) Tryz.func3 (by kernel_rfl)
    (of_decide_eq_true (by kernel_rfl)) (by unfold Func.isWrapper; first | (rw [if_pos (by decide +kernel)]; kernel_rfl) | (rw [if_neg (by decide +kernel)]; exact ⟨rfl, rfl⟩))
    (fun os started H enc _ => fnExactStmtsRun_lifted os started H enc)
set_option maxRecDepth 100000 in
theorem fnExactStmtsRun_card_holds : Rows.FnExactStmtsRunCardSaid :=
  Claim7.holds_tied_plain_at .later [] [.sentinel] true (true, "2c88a20b7af8686071592e7f9324e4341b924566ea0c08009cd127e915ce4aad") true
    fnExactStmtsRun_holds (fun _ h => by cases h) (by kernel_rfl) (fun _ h => by cases h) fnExactStmtsRun_row_tie rfl ⟨rfl, rfl⟩ (by kernel_rfl) rfl
    (fun f fn hf hfn => by
      obtain rfl : f = 3 := Option.some.inj ((show Tryz.prog.funcNamed "loop.example/stopgate/laws.FnExactStmtsRun" = some 3 by kernel_rfl).symm.trans hf) |>.symm
      obtain rfl : fn = Tryz.f3 := (Option.some.inj (Tryz.func3.symm.trans hfn)).symm
      exact ⟨by kernel_rfl, fun j t ht => by
        rw [Tryz.params3] at ht
        have h3 : t = 24 ∨ t = 25 ∨ t = 3 := by
          rcases j with _ | _ | _ | j
          · simp at ht; exact .inl ht.symm
          · simp at ht; exact .inr (.inl ht.symm)
          · simp at ht; exact .inr (.inr ht.symm)
          · simp at ht
        rcases h3 with rfl | rfl | rfl
        · exact (show Tryz.prog.wantsStandIn 24 = false by kernel_rfl)
        · exact (show Tryz.prog.wantsStandIn 25 = false by kernel_rfl)
        · exact (show Tryz.prog.wantsStandIn 3 = false by kernel_rfl)⟩)
    (by kernel_rfl)
end Go.Proofs.YtnmfmeehmieifaaGreatDoor
