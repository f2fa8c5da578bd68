/- What is proved: FnExactSlimStmts: for every input the law returns true, and its arguments read as before. Conditions: none but the statement's own. -/
import Derived.Test.YtnmfmeehmieifaaGreatXa66efb7aaa
import Derived.ProofKit
import Derived.OpenShut
import Derived.ChangeArms
import Derived.WideShapes
import Derived.Test.YtnmfmeehmieifaaGreatRows
set_option linter.unusedSectionVars false
set_option linter.unusedSimpArgs false
set_option linter.unusedVariables false
namespace Sg
open Go Go.ChangeShapes Go.WideShapes Go.ChangeAt Go.RowKit
set_option linter.unusedSectionVars false
variable [Glob]
def ghOf (W : World) : Gh := { io := fun _ => none, H := fun b => W.heap[b]? }
theorem top_calls {P : Program} {f : FuncId} {W : World} {vals : Array Value} {args : List PV} (hg : GlobOk P (ghOf W)) (hv : RL P (ghOf W) args vals) (hc : PureF P f args [.bool true]) :
    Calls P f vals W (fun e W' => e = .returned (.bool true) ∧ Below W.heap.size W W') := by
  rw [← callsIn_wide, ← Fe_none]
  have hi : Inv P (ghOf W) { f := fun _ => none, fr := fun _ => True } W :=
    ⟨fun _ _ h => h, fun i o h => (by cases h), fun i j o o' e e' h => (by cases h), fun i o e h => (by cases h), fun _ _ => rfl, hg⟩
  refine (hc _ [] ⟨0, fun _ _ => trivial⟩ (fun i o h => by simp [lk] at h) rfl List.nodup_nil (fun n hn => by simp at hn) (ghOf W) W vals hv hi).mono ?_
  rintro e w' ⟨g', out, k1, k2, k3, k4, rfl, k6⟩
  refine ⟨?_, ⟨k2.os, k2.tape, k2.output, k2.size, fun k hk => ?_⟩⟩
  · cases e with
    | returned v => cases k6; rfl
    | panicked ch => exact k6.elim
    | outgrown => exact k6.elim
  · have h1 : W.heap[k]? = some W.heap[k] := by rw [Array.getElem?_eq_getElem hk]
    rw [h1]
    exact k3.hH k _ (k1.H k _ h1)
abbrev noGlob : Glob := ⟨fun _ => none⟩
omit [Glob] in
theorem noGlob_ok (P : Program) (g : Gh) : @GlobOk noGlob P g := fun _ _ h => (by cases h)
section
variable {H : Type} {enc : TypeId × Value → H} {P : Program}
end
end Sg
namespace Sg
open Go Go.ChangeShapes Go.WideShapes Go.ChangeAt Go.RowKit
set_option linter.unusedSectionVars false
section
variable {H : Type} {enc : TypeId × Value → H} {P : Program}
theorem list_of {X : Type} [Inhabited X] {p : Nat → X → Prop} : ∀ n, (∀ i, i < n → ∃ y, p i y) → ∃ l : List X, l.length = n ∧ ∀ i, i < n → p i (l.getD i default)
  | 0, _ => ⟨[], rfl, fun i h => by omega⟩
  | n + 1, h => by
    obtain ⟨l, hl, hp⟩ := list_of n fun i hi => h i (by omega)
    obtain ⟨y, hy⟩ := h n (by omega)
    refine ⟨l ++ [y], by simp [hl], fun i hi => ?_⟩
    by_cases hin : i < n
    · have := hp i hin
      simpa [List.getD, List.getElem?_append_left (show i < l.length by omega)] using this
    · have : i = n := by omega
      subst this
      simpa [List.getD, ← hl] using hy
theorem cells_of {W : World} {ab ao n base : Nat} {spot : Option Nat} {cs : List Value} (h : W.cells? base ⟨ab, ao, spot⟩ n = some cs) (hn : 0 < n) : spot = none ∧ ∃ arr T fr, W.heap[ab]? = some (.cells arr T fr) ∧ cs.length = n ∧ ∀ j, j < n → arr[ao + j]? = cs[j]? := by
  unfold World.cells? at h
  split at h
  · have hl : cs.length = n := by simpa using mapM_some_length h
    have hg : ∀ j, j < n → W.cell? ((⟨ab, ao, spot⟩ : Addr).add j) = cs[j]? := fun j hj => mapM_some_get h j j (by simp [hj])
    have h0 := hg 0 hn
    rw [List.getElem?_eq_getElem (by omega)] at h0
    have hs : spot = none := by simpa [Addr.add] using World.cell?_spot h0
    subst hs
    refine ⟨rfl, ?_⟩
    rw [Addr.add_lit] at h0
    obtain ⟨arr, T, fr, hW⟩ : ∃ arr T fr, W.heap[ab]? = some (.cells arr T fr) := by
      unfold World.cell? at h0
      simp only at h0
      split at h0
      · exact ⟨_, _, _, by assumption⟩
      · cases h0
    refine ⟨arr, T, fr, hW, hl, fun j hj => ?_⟩
    have := hg j hj
    rw [Addr.add_lit] at this
    unfold World.cell? at this
    simpa [hW] using this
  · cases h
variable [Glob]
def Lies (P : Program) (W : World) (ps : List PV) (cs : List Value) : Prop := ps.length = cs.length ∧ ∀ j (hj : j < ps.length), R P (ghOf W) ps[j] (cs.getD j undef)
theorem open_slice {W : World} {base : Nat} {spare : Nat → Bool} {held : Bool} {t e : TypeId} (ht : P.underlying t = some (.slice e)) (hes : 0 < P.cellsOf e) {X : Type} [Inhabited X] (csX : X → List PV) (G : X → Prop) {fuel : Nat}
    (hl : ∀ x, (csX x).length = P.cellsOf e) (hp : ∀ x, PV.pureL (csX x) = true) (hc : ∀ x, ∀ y ∈ csX x, y.cell = true)
    (hX : ∀ n cs x, n < fuel → DataW.trod enc P W base spare held n e cs = some x → ∃ y, G y ∧ Lies P W (csX y) cs)
    {cs : List Value} {x : DataW H × List MemPlace} (h : DataW.trod enc P W base spare held fuel t cs = some x) : ∃ l : List X, (∀ i, i < l.length → G (l.getD i default)) ∧ l.length ≤ maxLen ∧ Lies P W [.rows e (l.map csX)] cs := by
  rcases DataW.trod_slice ht h with ⟨rfl, _⟩ | ⟨a, len, cap, elems, rest, n, hf, rfl, _, hb, hlc, hcm, hel, hE, _, _⟩
  · exact ⟨[], fun i h => by simp at h, by simp, rfl, fun j hj => by
      have : j = 0 := by simpa using hj
      subst this; exact .rows0 e none 0⟩
  · obtain ⟨ab, ao, spot⟩ := a
    by_cases h0 : len = 0
    · subst h0
      exact ⟨[], fun i h => by simp at h, by simp, rfl, fun j hj => by
        have : j = 0 := by simpa using hj
        subst this; exact .rows0 e _ cap⟩
    have key : ∀ i, i < len → ∃ y cs', W.cells? base ((⟨ab, ao, spot⟩ : Addr).add (i * P.cellsOf e)) (P.cellsOf e) = some cs' ∧ G y ∧ Lies P W (csX y) cs' := by
      intro i hi
      have := hE i hi
      rw [List.getElem?_eq_getElem (by omega), Option.bind_eq_some_iff] at this
      obtain ⟨cs', h1, h2⟩ := this
      obtain ⟨y, hg, hr⟩ := hX n cs' _ (by omega) h2
      exact ⟨y, cs', h1, hg, hr⟩
    obtain ⟨l, hll, hlp⟩ := list_of (p := fun i y => ∃ cs', W.cells? base ((⟨ab, ao, spot⟩ : Addr).add (i * P.cellsOf e)) (P.cellsOf e) = some cs' ∧ G y ∧ Lies P W (csX y) cs') len key
    obtain ⟨cs0, hc0, _, _⟩ := hlp 0 (by omega)
    have hs : spot = none := by
      have : (⟨ab, ao, spot⟩ : Addr).add (0 * P.cellsOf e) = ⟨ab, ao, spot⟩ := by simp [Addr.add]
      rw [this] at hc0
      exact (cells_of hc0 hes).1
    subst hs
    have hcell : ∀ i, i < len → ∃ arr T fr cs', W.heap[ab]? = some (.cells arr T fr) ∧ (∀ j, j < P.cellsOf e → arr[ao + i * P.cellsOf e + j]? = cs'[j]?) ∧ cs'.length = P.cellsOf e ∧ Lies P W (csX (l.getD i default)) cs' := by
      intro i hi
      obtain ⟨cs', h1, _, h2⟩ := hlp i hi
      have : (⟨ab, ao, none⟩ : Addr).add (i * P.cellsOf e) = ⟨ab, ao + i * P.cellsOf e, none⟩ := by rw [Addr.add_lit]
      rw [this] at h1
      obtain ⟨_, arr, T, fr, g1, g2, g3⟩ := cells_of h1 hes
      exact ⟨arr, T, fr, cs', g1, g3, g2, h2⟩
    obtain ⟨arr, T, fr, _, hW, _, _, _⟩ := hcell 0 (by omega)
    have hcell' : ∀ i, i < len → ∃ cs' : List Value, (∀ j, j < P.cellsOf e → arr[ao + i * P.cellsOf e + j]? = cs'[j]?) ∧ cs'.length = P.cellsOf e ∧ Lies P W (csX (l.getD i default)) cs' := by
      intro i hi
      obtain ⟨arr', T', fr', cs', g1, g2, g3, g4⟩ := hcell i hi
      rw [hW] at g1
      injection g1 with g1
      injection g1 with g1 _ _
      subst g1
      exact ⟨cs', g2, g3, g4⟩
    have hsz : ao + len * P.cellsOf e ≤ arr.size := by
      obtain ⟨cs', g1, g2, _⟩ := hcell' (len - 1) (by omega)
      have := g1 (P.cellsOf e - 1) (by omega)
      rw [List.getElem?_eq_getElem (by omega)] at this
      have := (Array.getElem?_eq_some_iff.1 this).1
      have e1 : (len - 1) * P.cellsOf e + P.cellsOf e = len * P.cellsOf e := by
        rw [← Nat.succ_mul]; congr 1; omega
      omega
    refine ⟨l, fun i hi => (hlp i (by omega)).choose_spec.2.1, by omega, rfl, fun j hj => ?_⟩
    have : j = 0 := by simpa using hj
    subst this
    have key := R.rows (P := P) (g := ghOf W) e (l.map csX) ab ao cap arr T fr hW hes (by rw [List.length_map]; omega) (by rw [List.length_map, hll]; exact hsz)
      (fun c hc' => by obtain ⟨y, _, rfl⟩ := List.mem_map.1 hc'; exact hl y)
      (fun c hc' => by obtain ⟨y, _, rfl⟩ := List.mem_map.1 hc'; exact hp y)
      (fun c hc' => by obtain ⟨y, _, rfl⟩ := List.mem_map.1 hc'; exact hc y)
      (fun i j hi hj => by
        have hi' : i < len := by rw [List.length_map] at hi; omega
        obtain ⟨cs', g1, g2, g3⟩ := hcell' i hi'
        have e0 : (l.map csX)[i] = csX (l.getD i default) := by simp [List.getD, show i < l.length by omega]
        have hj' : j < (csX (l.getD i default)).length := by rw [← e0]; exact hj
        have := g3.2 j hj'
        have e1 : (l.map csX)[i][j] = (csX (l.getD i default))[j] := by simp only [e0]
        rw [e1]
        have e2 : arr.getD (ao + i * P.cellsOf e + j) undef = cs'.getD j undef := by
          rw [Array.getD_eq_getD_getElem?, g1 j (by rw [← hl (l.getD i default)]; exact hj'), List.getD_eq_getElem?_getD]
        rw [e2]; exact this)
    rw [List.length_map, hll] at key
    exact key
theorem open_int {W : World} {base : Nat} {spare : Nat → Bool} {held : Bool} {t : TypeId} {k : IntKind} (ht : P.underlying t = some (.int k)) {fuel : Nat} {cs : List Value} {x : DataW H × List MemPlace} (h : DataW.trod enc P W base spare held fuel t cs = some x) :
    ∃ n, cs = [.int k n] ∧ (Lit.int k n).wf = true := by
  obtain ⟨n, h1, _, h2⟩ := DataW.trod_int ht h
  exact ⟨n, h1, h2⟩
end
end Sg
namespace Go.Proofs.YtnmfmeehmieifaaGreat
open Go Sg
set_option maxRecDepth 100000
set_option linter.unusedSimpArgs false
set_option linter.unusedVariables false
set_option linter.unusedSectionVars false
set_option maxHeartbeats 4000000
variable [Glob]
mutual
def Ex.lcs : Ex → List PV
  | .mk k n a l => [.int .i64 k, .int .i64 n, .int .i64 a.kind, .int .i64 a.at', .rows 70 (Ex.lcsL l)]
def Ex.lcsL : List Ex → List (List PV)
  | [] => []
  | e :: l => e.lcs :: Ex.lcsL l
end
@[go_sem] theorem Ex.lcs_eq (e : Ex) : e.lcs = [.int .i64 e.kind, .int .i64 e.n, .int .i64 e.a.kind, .int .i64 e.a.at', .rows 70 (Ex.lcsL e.kids)] := by cases e; simp only [Ex.lcs, Ex.kind, Ex.n, Ex.a, Ex.kids]
theorem Ex.lcsL_map (l : List Ex) : Ex.lcsL l = l.map Ex.lcs := by
  induction l with
  | nil => rfl
  | cons e l ih => simp [Ex.lcsL, ih]
@[go_sem] theorem Ex.lcsL_len (l : List Ex) : (Ex.lcsL l).length = l.length := by simp [Ex.lcsL_map]
@[go_sem] theorem Ex.lcsL_get (l : List Ex) (k : Nat) (h : k < l.length) : (Ex.lcsL l).getD k [] = (l.getD k default).lcs := by simp [Ex.lcsL_map, List.getD, h]
def Trn.lcs (t : Trn) : List PV := [.rows 3 (rowsI t.fr), .rows 3 (rowsI t.to'), .int .i64 t.w.kind, .int .i64 t.w.n, .int .i64 t.w.a.kind, .int .i64 t.w.a.at', .rows 70 (Ex.lcsL t.w.kids)]
@[go_sem] theorem Trn.lcs_eq (t : Trn) : t.lcs = [.rows 3 (rowsI t.fr), .rows 3 (rowsI t.to'), .int .i64 t.w.kind, .int .i64 t.w.n, .int .i64 t.w.a.kind, .int .i64 t.w.a.at', .rows 70 (Ex.lcsL t.w.kids)] := rfl
def rowsLT (l : List Trn) : List (List PV) := l.map Trn.lcs
def Cht.lcs (c : Cht) : List PV := [.int .i64 c.steps, .rows 152 (rowsLT c.ts), .rows 166 (rowsA c.as')]
@[go_sem] theorem Cht.lcs_eq (c : Cht) : c.lcs = [.int .i64 c.steps, .rows 152 (rowsLT c.ts), .rows 166 (rowsA c.as')] := rfl
mutual
def Ex.Len : Ex → Prop | .mk _ _ _ l => l.length ≤ maxLen ∧ Ex.LenL l
def Ex.LenL : List Ex → Prop
  | [] => True
  | e :: l => e.Len ∧ Ex.LenL l
end
theorem Ex.LenL_iff (l : List Ex) : Ex.LenL l ↔ ∀ e ∈ l, e.Len := by
  induction l with
  | nil => simp [Ex.LenL]
  | cons e l ih => simp [Ex.LenL, ih]
section
variable {H : Type} {enc : TypeId × Value → H} {W : World} {base : Nat} {spare : Nat → Bool} {held : Bool}
theorem open_ad {fuel : Nat} {cs : List Value} {x : DataW H × List MemPlace} (h : DataW.trod enc Tryz.prog W base spare held fuel 67 cs = some x) : ∃ a : AD, cs = [.int .i64 a.kind, .int .i64 a.at'] := by
  obtain ⟨xs, n, hf, hx, hl, hxs, hfs⟩ := DataW.trod_struct Tryz.underlying67 h
  rw [cellsOf67] at hl
  match cs, hl with
  | [c0, c1], _ =>
    have h0 := hfs 0 _ rfl
    have h1 := hfs 1 _ rfl
    have l0 : (0 : Nat) < xs.length := by rw [hxs]; decide
    have l1 : (1 : Nat) < xs.length := by rw [hxs]; decide
    rw [List.getElem?_eq_getElem l0] at h0
    rw [List.getElem?_eq_getElem l1] at h1
    obtain ⟨a, ha, _⟩ := open_int Tryz.underlying3 h0
    obtain ⟨b, hb, _⟩ := open_int Tryz.underlying3 h1
    simp [cellsOf3] at ha hb
    exact ⟨⟨a, b⟩, by rw [ha, hb]⟩
theorem lcs_pure (e : Ex) : PV.pureL e.lcs = true := by rw [Ex.lcs_eq]; rfl
theorem lcs_cell (e : Ex) : ∀ y ∈ e.lcs, y.cell = true := by
  rw [Ex.lcs_eq]
  intro y hy
  simp only [List.mem_cons, List.not_mem_nil, or_false] at hy
  rcases hy with rfl | rfl | rfl | rfl | rfl <;> rfl
theorem open_ex : ∀ (fuel : Nat) (cs : List Value) (x : DataW H × List MemPlace), DataW.trod enc Tryz.prog W base spare held fuel 70 cs = some x → ∃ e : Ex, e.Len ∧ Lies Tryz.prog W e.lcs cs := by
  intro fuel
  induction fuel using Nat.strongRecOn with
  | _ fuel ih =>
    intro cs x h
    obtain ⟨xs, n, hf, hx, hl, hxs, hfs⟩ := DataW.trod_struct Tryz.underlying70 h
    rw [cellsOf70] at hl
    match cs, hl with
    | [c0, c1, c2, c3, c4], _ =>
      have h0 := hfs 0 _ rfl
      have h1 := hfs 1 _ rfl
      have h2 := hfs 2 _ rfl
      have h3 := hfs 3 _ rfl
      have l0 : (0 : Nat) < xs.length := by rw [hxs]; decide
      have l1 : (1 : Nat) < xs.length := by rw [hxs]; decide
      have l2 : (2 : Nat) < xs.length := by rw [hxs]; decide
      have l3 : (3 : Nat) < xs.length := by rw [hxs]; decide
      rw [List.getElem?_eq_getElem l0] at h0
      rw [List.getElem?_eq_getElem l1] at h1
      rw [List.getElem?_eq_getElem l2] at h2
      rw [List.getElem?_eq_getElem l3] at h3
      obtain ⟨k, hk, _⟩ := open_int Tryz.underlying3 h0
      obtain ⟨m, hm, _⟩ := open_int Tryz.underlying3 h1
      obtain ⟨a, ha⟩ := open_ad h2
      obtain ⟨l, hl1, hl2, hl3⟩ := open_slice Tryz.underlying68 (by rw [cellsOf70]; decide) Ex.lcs Ex.Len (fun e => by rw [cellsOf70, Ex.lcs_eq]; rfl) lcs_pure lcs_cell (fun j cs' x' hj h' => ih j (by omega) cs' x' h') h3
      simp [cellsOf3] at hk hm
      simp [cellsOf67] at ha
      simp [cellsOf68] at hl3
      obtain ⟨hl4, hl5⟩ := hl3
      refine ⟨.mk k m a l, ⟨hl2, (Ex.LenL_iff l).2 fun e he => ?_⟩, rfl, fun j hj => ?_⟩
      · obtain ⟨i, hi, rfl⟩ := List.getElem_of_mem he
        have := hl1 i hi
        simpa [List.getD, hi] using this
      · have hr := hl5 0 (by simp)
        match j, hj with
        | 0, _ => simp only [Ex.lcs, List.getElem_cons_zero]; rw [hk]; exact .int _ _
        | 1, _ => simp only [Ex.lcs]; rw [hm]; exact .int _ _
        | 2, _ => simp only [Ex.lcs]; rw [ha.1]; exact .int _ _
        | 3, _ => simp only [Ex.lcs]; rw [ha.2]; exact .int _ _
        | 4, _ => simp only [Ex.lcs, Ex.lcsL_map]; exact hr
end
end Go.Proofs.YtnmfmeehmieifaaGreat
namespace Go.Proofs.YtnmfmeehmieifaaGreat
open Go Sg
set_option maxRecDepth 100000
set_option linter.unusedSimpArgs false
set_option linter.unusedVariables false
set_option linter.unusedSectionVars false
set_option maxHeartbeats 4000000
variable [Glob]
section
variable {X : Type} [Inhabited X] (csX : X → List PV) (z : List PV)
def fillC (l : List X) (i : Nat) : List PV := ((l.take i).map csX).flatten ++ rep (l.length - i) z
theorem flat_len {w : Nat} (hw : ∀ x, (csX x).length = w) (l : List X) : ((l.map csX).flatten).length = l.length * w := by
  induction l with
  | nil => simp
  | cons x l ih => simp only [List.map_cons, List.flatten_cons, List.length_append, ih, hw, List.length_cons, Nat.succ_mul]; omega
theorem fillC_len {w : Nat} (hw : ∀ x, (csX x).length = w) (hz : z.length = w) (l : List X) (i : Nat) (h : i ≤ l.length) : (fillC csX z l i).length = l.length * w := by
  rw [fillC, List.length_append, flat_len csX hw, rep_length, hz, List.length_take, ← Nat.add_mul]
  congr 1; omega
theorem fillC_zero (l : List X) : fillC csX z l 0 = rep l.length z := by simp [fillC]
theorem fillC_all (l : List X) : fillC csX z l l.length = (l.map csX).flatten := by
  rw [fillC, List.take_of_length_le (Nat.le_refl _), Nat.sub_self, rep, List.replicate_zero, List.flatten_nil, List.append_nil]
theorem fillC_set {w : Nat} (hw : ∀ x, (csX x).length = w) (hz : z.length = w) (l : List X) (i : Nat) (h : i < l.length) : splice (fillC csX z l i) (i * w) (csX (l.getD i default)) = fillC csX z l (i + 1) := by
  have h1 : (((l.take i).map csX).flatten).length = i * w := by rw [flat_len csX hw, List.length_take, Nat.min_eq_left (by omega)]
  have h2 : rep (l.length - i) z = z ++ rep (l.length - (i + 1)) z := by
    rw [show l.length - i = l.length - (i + 1) + 1 from by omega, rep, List.replicate_succ, List.flatten_cons]; rfl
  rw [fillC, fillC, splice, h2, hw, List.take_succ_eq_append_getElem h, List.map_append, List.flatten_append]
  rw [List.take_append_of_le_length (by omega), List.take_of_length_le (by omega), List.drop_append, List.drop_of_length_le (by omega), h1, Nat.add_sub_cancel_left, ← hz, List.drop_left, List.nil_append]
  simp [List.getD, h]
theorem rowsOf_map {e : TypeId} (he : 0 < Tryz.prog.cellsOf e) (hw : ∀ x, (csX x).length = Tryz.prog.cellsOf e) (hp : ∀ x, PV.pureL (csX x) = true) {f : Nat → Option AObj} {id : Nat} {T : TypeId} {l : List X} (h : f id = some (.cells T ((l.map csX).flatten))) : RowsOf Tryz.prog f e id 0 l.length (l.map csX) := by
  refine ⟨he, by simp, ?_, T, _, h, ?_, ?_⟩
  · intro c hc
    obtain ⟨x, _, rfl⟩ := List.mem_map.1 hc
    exact ⟨hw x, hp x⟩
  · rw [flat_len csX hw]; omega
  · rw [List.drop_zero, List.take_of_length_le (by rw [flat_len csX hw]; omega)]
end
theorem frzF {r : Option Nat} {N : Nat} {c : Code} {s : MS} {Q : ExitA → MS → Prop} {X : Type} [Inhabited X] (csX : X → List PV) (e : TypeId) (he : 0 < Tryz.prog.cellsOf e) (hw : ∀ x, (csX x).length = Tryz.prog.cellsOf e) (hp : ∀ x, PV.pureL (csX x) = true) (x : Nat) (l : List X) (hx : s.B ≤ x) (T : TypeId) (h1 : s.f x = some (.cells T ((l.map csX).flatten)))
    (h : wpM Tryz.prog r N c (s.frz [x] [(e, x, 0, l.length, l.map csX)]) Q) : wpM Tryz.prog r N c s Q := by
  refine wpM_frz [x] _ (by intro q hq; simp at hq; subst hq; assumption) (by
      intro q hq
      simp only [List.mem_cons, List.not_mem_nil, or_false] at hq
      subst hq
      exact ⟨by simp, rowsOf_map csX he hw hp h1⟩) h
end Go.Proofs.YtnmfmeehmieifaaGreat
namespace Go.Proofs.YtnmfmeehmieifaaGreat
open Go Sg
set_option maxRecDepth 100000
set_option linter.unusedSimpArgs false
set_option linter.unusedVariables false
set_option linter.unusedSectionVars false
set_option maxHeartbeats 4000000
variable [Glob]
theorem toAddr_ok (a : AD) : PureF Tryz.prog 86 [.agg [.int .i64 a.kind, .int .i64 a.at']] [.agg [.int .i64 a.kind, .int .i64 a.at']] := by
  refine pureF_of Tryz.func86 rfl Tryz.ntmps86 (by simp) T_ ?_
  intro f0 B Q hQ
  refine g_ [1,2] ?_
  refine g_ [1,2,3] ?_
  refine g_ [1,2,3] ?_
  refine g_ [2,3] ?_
  refine g_ [2] ?_
  exact e_ Tryz.results86 True.intro
def ToX (l : List Ex) : Prop := PureF Tryz.prog 133 [.rows 70 (Ex.lcsL l)] [.rows 77 (Ex.csL l)]
theorem toExpr_ok' (e : Ex) (ih : ToX e.kids) : PureF Tryz.prog 87 [.agg e.lcs] [.agg e.cs] := by
  refine pureF_of Tryz.func87 rfl Tryz.ntmps87 (by simp) T_ ?_
  intro f0 B Q hQ
  refine g_ [1,2] ?_
  refine g_ [1,2,3] ?_
  refine g_ [1,2,3] ?_
  refine g_ [1,2,3] ?_
  refine n_ ?_
  refine wpM_regionK [1,2,3] rfl fun Q1 hQ1 => ?_
  refine S_ ?_
  refine cp_ (toAddr_ok e.a) Tryz.call86 ?_
  refine hQ1 _ _ (S_ ?_);clear hQ1 Q1
  refine n_ ?_
  refine wpM_regionK [2,3] rfl fun Q1 hQ1 => ?_
  refine S_ ?_
  refine cp_ (ih) Tryz.call133 ?_
  refine hQ1 _ _ (S_ ?_);clear hQ1 Q1
  refine g_ [2] ?_
  exact e_ Tryz.results87 True.intro
abbrev xZ : List PV := [.int .i64 0, .int .i64 0, .int .i64 0, .int .i64 0, .emp]
theorem cs_len (e : Ex) : e.cs.length = 5 := by rw [Ex.cs_eq]; rfl
theorem cs_pureL (e : Ex) : PV.pureL e.cs = true := by rw [Ex.cs_eq]; rfl
theorem toExprS_ok : ∀ (N : Nat) (l : List Ex), Ex.szL l ≤ N → Ex.szL l ≤ 1048576 → ToX l := by
  intro N
  induction N using Nat.strongRecOn with
  | _ N ih =>
    intro l hN hs
    have hll := Ex.len_szL l
    refine pureF_of Tryz.func133 rfl Tryz.ntmps133 (by simp) T_ ?_
    intro f0 B Q hQ
    refine g_ [0] ?_
    refine g_ [0,3] ?_
    rw [← fillC_zero Ex.cs xZ l]
    refine g_ [0,3,4] ?_
    refine n_ ?_
    refine wpM_loopS (fun s n s' => ∃ (i0 M0 : Nat) , i0 + n = l.length ∧ s.M ≤ M0 ∧ (Tr i0) ∧ s' = { s with env := setE 4 (.int .i64 (i0 : Nat)) s.env, l := [(B, .cells 77 (fillC Ex.cs xZ l i0))], M := M0 }) (l.length) ?_ ?_
    ·
      refine .of' _ _ ⟨0, _, by omega, Nat.le_refl _, trivial, rfl⟩ ?_ ?_ ?_ <;> exact L_
    rintro n0 s' ⟨i0, M0, hi0, hM0, hv0, rfl⟩
    try dsimp only at hM0
    try refine S_ ?_
    refine g_ [0,3,4,11] ?_
    refine c_ (fun hc0 => ?_) fun hc0 => ?_
    ·
      have hl0 : i0 < l.length := by omega
      have hfl := fillC_len Ex.cs xZ (w := 5) cs_len rfl l i0 (by omega)
      have hfs := fillC_set Ex.cs xZ (w := 5) cs_len rfl l i0 hl0
      rw [Ex.cs_eq] at hfs
      have hg := Ex.get_szL l i0 hl0
      rw [Ex.sz_eq] at hg
      refine n_ ?_
      refine wpM_regionK [0,3,4] rfl fun Q1 hQ1 => ?_
      simp -implicitDefEqProofs (disch := omega) only [go_sem, hfl, hfs]
      refine call_p (toExpr_ok' (l.getD i0 default) (ih (Ex.szL (l.getD i0 default).kids) (by omega) _ (Nat.le_refl _) (by omega))) Tryz.call87 rfl rfl rfl (by first | rfl | (simp -implicitDefEqProofs (disch := omega) only [go_sem] <;> rfl)) ?_
      simp -implicitDefEqProofs (disch := omega) only [go_sem, hfl, hfs]
      refine hQ1 _ _ (S_ ?_);clear hQ1 Q1
      refine g_ [0,3,4] ?_
      refine .of' _ _ ⟨n0 - 1, by omega, i0 + 1, _, by omega, M_, ?_, rfl⟩ L_ L_ L_
      first | trivial | omega
    refine n_ ?_
    have hie : i0 = l.length := by omega
    rw [hie, fillC_all]
    refine frzF Ex.cs 77 (by rw [cellsOf77]; decide) (fun e => by rw [cellsOf77]; exact cs_len e) cs_pureL B l T_ 77 T_ ?_
    rw [← Ex.csL_map]
    refine S_ ?_
    refine g_ [2] ?_
    refine e_ Tryz.results133 ?_
    first
    | exact True.intro
    | rfl
theorem toExpr_ok (e : Ex) (h : Ex.szL e.kids ≤ 1048576) : PureF Tryz.prog 87 [.agg e.lcs] [.agg e.cs] := toExpr_ok' e (toExprS_ok _ _ (Nat.le_refl _) h)
end Go.Proofs.YtnmfmeehmieifaaGreat
namespace Go.Proofs.YtnmfmeehmieifaaGreat
open Go Sg
set_option maxRecDepth 100000
set_option linter.unusedSimpArgs false
set_option linter.unusedVariables false
set_option linter.unusedSectionVars false
set_option maxHeartbeats 4000000
variable [Glob]
mutual
def Ex.nS : Ex → Nat | .mk _ _ _ l => 1 + Ex.nSL l
def Ex.nSL : List Ex → Nat | [] => 0 | e :: l => e.nS + Ex.nSL l
end
theorem Ex.nS_eq (e : Ex) : e.nS = 1 + Ex.nSL e.kids := by cases e; simp only [Ex.nS, Ex.kids]
theorem Ex.nSL_take (l : List Ex) (i : Nat) (h : i < l.length) : Ex.nSL (l.take (i + 1)) = Ex.nSL (l.take i) + (l.getD i default).nS := by
  have key : ∀ l : List Ex, Ex.nSL l = (l.map Ex.nS).sum := by
    intro l
    induction l with
    | nil => rfl
    | cons e l ih => simp [Ex.nSL, ih]
  rw [key, key, List.take_succ_eq_append_getElem h, List.map_append, List.sum_append]
  simp [List.getD, h]
def TxS (l : List Ex) : Prop := CallF Tryz.prog 133 [.rows 70 (Ex.lcsL l)] [] (1 + Ex.nSL l) (OwnR Tryz.prog id [.rows 77 (Ex.csL l)])
theorem own_ex {e : Ex} {cs : List PV} {T : List (Nat × AObj)} (h : Owns Tryz.prog cs e.cs T) : ∃ id, cs = [.int .i64 e.kind, .int .i64 e.n, .int .i64 e.a.kind, .int .i64 e.a.at', .sl 77 id 0 e.kids.length] := by
  rw [Ex.cs_eq] at h
  obtain ⟨c1, rfl, h1⟩ := h.lit rfl
  obtain ⟨c2, rfl, h2⟩ := h1.lit rfl
  obtain ⟨c3, rfl, h3⟩ := h2.lit rfl
  obtain ⟨c4, rfl, h4⟩ := h3.lit rfl
  obtain ⟨id, c0, T0, cs', T', rfl, rfl, h0, h5, _, _⟩ := h4.rows
  obtain ⟨rfl, rfl⟩ := h5.none
  exact ⟨id, by rw [Ex.csL_len]⟩
theorem own_exL {l : List Ex} {cs : List PV} {T : List (Nat × AObj)} (h : Owns Tryz.prog cs [.rows 77 (Ex.csL l)] T) : ∃ id c0 T0, cs = [.sl 77 id 0 l.length] ∧ T = (id, .cells 77 c0) :: T0 ∧ Owns Tryz.prog c0 (Ex.csL l).flatten T0 := by
  obtain ⟨id, c0, T0, cs', T', rfl, rfl, h0, h1, _, _⟩ := h.rows
  obtain ⟨rfl, rfl⟩ := h1.none
  exact ⟨id, c0, T0, by rw [Ex.csL_len], by rw [List.append_nil], h0⟩
theorem toExprT' (e : Ex) (ih : TxS e.kids) : CallF Tryz.prog 87 [.agg e.lcs] [] e.nS (OwnR Tryz.prog wA e.cs) := by
  rw [Ex.nS_eq]
  refine callF_of' Tryz.func87 rfl Tryz.ntmps87 (by simp) ?_
  intro f0 B ns Q hB hns hQ
  refine g_ [1,2] ?_
  refine g_ [1,2,3] ?_
  refine g_ [1,2,3] ?_
  refine g_ [1,2,3] ?_
  refine n_ ?_
  refine wpM_regionK [1,2,3] rfl fun Q1 hQ1 => ?_
  refine S_ ?_
  refine cp_ (toAddr_ok e.a) Tryz.call86 ?_
  refine hQ1 _ _ (S_ ?_);clear hQ1 Q1
  refine n_ ?_
  refine wpM_regionK [2,3] rfl fun Q1 hQ1 => ?_
  refine S_ ?_
  refine call_own (ps := [.rows 70 (Ex.lcsL e.kids)]) ih Tryz.call133 rfl rfl rfl F_ (by simp [inR_cons, inR_nil] <;> omega) (by show B ≤ B + 3; omega) ?_
  intro cs T hO hI hk
  obtain ⟨id, c0, T0, rfl, rfl, h0⟩ := own_exL hO
  dsimp only at hI hk
  refine S_ ?_
  refine hQ1 _ _ (S_ ?_);clear hQ1 Q1
  refine g_ [2] ?_
  refine wpM_ret ?_
  try refine S_ ?_
  refine hQ _ _ (retOwnI (M := B + 3 + (1 + Ex.nSL e.kids)) (.inr rfl) ((id, .cells 77 c0) :: T0) (cs := [.int .i64 e.kind, .int .i64 e.n, .int .i64 e.a.kind, .int .i64 e.a.at', .sl 77 id 0 e.kids.length]) ?_ rfl rfl rfl (by rw [Tryz.results87] <;> simp (maxSteps := 1000000) -implicitDefEqProofs (disch := omega) only [go_sem] <;> rfl) ?_ ?_ ?_ ?_)
  · rw [Ex.cs_eq]
    exact .sc _ _ _ _ rfl (.sc _ _ _ _ rfl (.sc _ _ _ _ rfl (.sc _ _ _ _ rfl hO)))
  · rw [hk, hns]
  · exact InR.app (l := [_, _, _]) (M := B + 3) (by simp [inR_cons, inR_nil] <;> omega) hI (by show B ≤ B + 3; omega) (by omega)
  · exact fun q hq => List.mem_cons_of_mem _ (List.mem_cons_of_mem _ (List.mem_cons_of_mem _ hq))
  · exact hI.nd
theorem toExprST : ∀ (N : Nat) (l : List Ex), Ex.szL l ≤ N → Ex.szL l ≤ 1048576 → TxS l := by
  intro N
  induction N using Nat.strongRecOn with
  | _ N ih =>
    intro l hN hs
    have hll := Ex.len_szL l
    unfold TxS
    refine callF_of' Tryz.func133 rfl Tryz.ntmps133 (by simp) ?_
    intro f0 B ns Q hB hns hQ
    refine g_ [0] ?_
    refine g_ [0,3] ?_
    refine g_ [0,3,4] ?_
    refine n_ ?_
    refine wpM_loopS (fun s r s' => ∃ (i0 M0 : Nat) (C : List PV) (D : List (Nat × AObj)), i0 + r = l.length ∧ Owns Tryz.prog C ((l.take i0).map Ex.cs).flatten D ∧ B + 1 ≤ M0 ∧ InR (B + 1) M0 D ∧ (ksL D).length = Ex.nSL (l.take i0) ∧ s' = { s with env := setE 4 (.int .i64 (i0 : Nat)) s.env, l := (B, .cells 77 (C ++ rep (l.length - i0) xZ)) :: D, M := M0 }) (l.length) ?_ ?_
    ·
      refine .of' _ _ ⟨0, B + 1, [], [], by omega, .nil, Nat.le_refl _, inR_nil, rfl, rfl⟩ ?_ ?_ ?_ <;> exact L_
    rintro r s' ⟨i0, M0, C, D, hir, hO, hM, hI, hk, rfl⟩
    try refine S_ ?_
    refine g_ [0,3,4,11] ?_
    refine c_ (fun hc0 => ?_) fun hc0 => ?_
    ·
      have hl0 : i0 < l.length := by omega
      have hCl : C.length = i0 * 5 := by rw [hO.len]; exact flat_take_len cs_len (by omega)
      have hfl := fill_len (z := xZ) (n := l.length) hCl rfl (by omega)
      have hg := Ex.get_szL l i0 hl0
      rw [Ex.sz_eq] at hg
      refine n_ ?_
      refine wpM_regionK [0,3,4] rfl fun Q1 hQ1 => ?_
      simp -implicitDefEqProofs (disch := omega) only [go_sem, hfl]
      refine call_own (ps := [.agg (l.getD i0 default).lcs]) (toExprT' (l.getD i0 default) (ih (Ex.szL (l.getD i0 default).kids) (by omega) _ (Nat.le_refl _) (by omega))) Tryz.call87 rfl rfl rfl F_ (hI.push (Nat.le_refl _) hM) (by show B ≤ M0; omega) ?_
      intro cs T hO2 hI2 hk2
      obtain ⟨id, rfl⟩ := own_ex hO2
      dsimp only at hI2 hk2
      simp -implicitDefEqProofs (disch := omega) only [go_sem, hfl]
      refine hQ1 _ _ (S_ ?_);clear hQ1 Q1
      refine g_ [0,3,4] ?_
      have hsp := splice_fill (z := xZ) (v := [PV.int .i64 (l.getD i0 default).kind, .int .i64 (l.getD i0 default).n, .int .i64 (l.getD i0 default).a.kind, .int .i64 (l.getD i0 default).a.at', .sl 77 id 0 (l.getD i0 default).kids.length]) hCl rfl rfl hl0
      have hI3 := hI.app hI2 hM (by omega)
      rw [hsp]
      refine .of' _ _ ⟨r - 1, by omega, i0 + 1, _, _, D ++ T, by omega, hO.snoc hl0 hO2, by omega, hI3, by rw [ksL_app, List.length_append, hk, hk2, Ex.nSL_take l i0 hl0], rfl⟩ ?_ ?_ ?_
      · exact L_
      · exact subL_of (hI3.push (k := B) (Nat.le_refl _) (by omega)).nd (fun p hp => hp)
      · exact (hI3.push (k := B) (Nat.le_refl _) (by omega)).keep
    refine g_ [2] ?_
    refine wpM_ret ?_
    try refine S_ ?_
    obtain rfl : i0 = l.length := by omega
    rw [List.take_of_length_le (Nat.le_refl _)] at hO hk
    refine hQ _ _ (retOwnI (M := M0) (.inl rfl) ((B, .cells 77 (C ++ rep (l.length - l.length) xZ)) :: D) ?_ rfl rfl rfl (by rw [Tryz.results133] <;> simp (maxSteps := 1000000) -implicitDefEqProofs (disch := omega) only [go_sem] <;> rfl) ?_ (hI.push (k := B) (Nat.le_refl _) hM) (fun q hq => hq) (hI.push (k := B) (Nat.le_refl _) hM).nd)
    · rw [← Ex.csL_map] at hO
      refine ownsSl B l.length (Ex.csL_len l) (by rw [cellsOf77]; decide) (fun x hx => ?_) (by simpa [rep] using hO)
      rw [Ex.csL_map, List.mem_map] at hx
      obtain ⟨e, _, rfl⟩ := hx
      rw [cellsOf77]; exact ⟨cs_len e, cs_pureL e⟩
    · rw [hns]; simp only [ksL, List.map_cons, List.length_cons] at hk ⊢; omega
theorem toExprT_ok (e : Ex) (h : Ex.szL e.kids ≤ 1048576) : CallF Tryz.prog 87 [.agg e.lcs] [] e.nS (OwnR Tryz.prog wA e.cs) := toExprT' e (toExprST _ _ (Nat.le_refl _) h)
end Go.Proofs.YtnmfmeehmieifaaGreat
namespace Go.Proofs.YtnmfmeehmieifaaGreat
open Go Sg
set_option maxRecDepth 100000
set_option linter.unusedSimpArgs false
set_option linter.unusedVariables false
set_option linter.unusedSectionVars false
set_option maxHeartbeats 4000000
variable [Glob]
structure Trn.Len (t : Trn) : Prop where
  fr : t.fr.length ≤ maxLen
  to' : t.to'.length ≤ maxLen
  w : t.w.Len
structure Cht.Len (c : Cht) : Prop where
  ts : c.ts.length ≤ maxLen
  as' : c.as'.length ≤ maxLen
  t : ∀ i, i < c.ts.length → (c.ts.getD i default).Len
theorem tlcs_pure (t : Trn) : PV.pureL t.lcs = true := rfl
theorem acs_pure (t : GAct) : PV.pureL t.cs = true := rfl
section
variable {H : Type} {enc : TypeId × Value → H} {W : World} {base : Nat} {spare : Nat → Bool} {held : Bool}
theorem lies_one {p : PV} {c : Value} (h : Lies Tryz.prog W [p] [c]) : R Tryz.prog (ghOf W) p c := h.2 0 (by simp)
end
end Go.Proofs.YtnmfmeehmieifaaGreat
namespace Go.Proofs.YtnmfmeehmieifaaGreat
open Go Sg
set_option maxRecDepth 100000
set_option linter.unusedSimpArgs false
set_option linter.unusedVariables false
set_option linter.unusedSectionVars false
set_option maxHeartbeats 4000000
variable [Glob]
def szR (left : Int) (m : Nat) : Int := if (m : Int) ≤ left then left - m else -1
theorem szR_pos {L : Int} {m : Nat} (h : ¬ szR L m < 0) : (m : Int) ≤ L ∧ szR L m = L - m := by
  unfold szR at *
  split at h
  · rename_i h1; rw [if_pos h1]; exact ⟨h1, rfl⟩
  · omega
theorem szR_neg {L : Int} {m : Nat} (h : szR L m < 0) : L < m := by
  unfold szR at h
  split at h <;> omega
theorem szR_no {L : Int} {m : Nat} (h : L < m) : szR L m = -1 := if_neg (by omega)
theorem szR_yes {L : Int} {m : Nat} (h : (m : Int) ≤ L) : szR L m = L - m := if_pos h
theorem sum_take {α : Type} [Inhabited α] (f : α → Nat) (l : List α) (i : Nat) (h : i < l.length) : ((l.take (i + 1)).map f).sum = ((l.take i).map f).sum + f (l.getD i default) := by
  rw [List.take_succ_eq_append_getElem h, List.map_append, List.sum_append]
  simp [List.getD, h]
theorem sum_le {α : Type} (f : α → Nat) (l : List α) (i : Nat) : ((l.take i).map f).sum ≤ (l.map f).sum := by
  have h : (l.map f).sum = ((l.take i ++ l.drop i).map f).sum := by rw [List.take_append_drop]
  rw [h, List.map_append, List.sum_append]; omega
def kz (e : Ex) : Nat := Ex.szL e.kids
theorem szL_kz (l : List Ex) : Ex.szL l = l.length + (l.map kz).sum := by
  induction l with
  | nil => rfl
  | cons e l ih => simp only [Ex.szL, Ex.sz_eq, ih, List.length_cons, List.map_cons, List.sum_cons, kz]; omega
theorem max_eq : maxLen = 9223372036854775807 := rfl
def SzE (l : List Ex) : Prop := ∀ left : Int, 0 ≤ left → left ≤ 1048576 → PureF Tryz.prog 130 [.rows 70 (Ex.lcsL l), .int .i64 left] [.int .i64 (szR left (Ex.szL l))]
theorem szExpr_ok' (e : Ex) (ih : SzE e.kids) (left : Int) (h0 : 0 ≤ left) (h1 : left ≤ 1048576) : PureF Tryz.prog 78 [.agg e.lcs, .int .i64 left] [.int .i64 (szR left (kz e))] := by
  refine pureF_of Tryz.func78 rfl Tryz.ntmps78 (by simp) T_ ?_
  intro f0 B Q hQ
  refine g_ [1,2] ?_
  refine n_ ?_
  refine wpM_regionK [1] rfl fun Q1 hQ1 => ?_
  refine S_ ?_
  refine cp_ (ih left h0 h1) Tryz.call130 ?_
  refine hQ1 _ _ (S_ ?_);clear hQ1 Q1
  refine g_ [1,10] ?_
  refine c_ (fun hc0 => ?_) fun hc0 => ?_
  ·
    have hz := szR_no (szR_neg (L := left) (m := Ex.szL e.kids) hc0)
    refine g_ [4] ?_
    refine e_ Tryz.results78 ?_
    first
    | exact True.intro
    | first | exact hz.symm | rfl
  refine g_ [4] ?_
  refine e_ Tryz.results78 ?_
  first
  | exact True.intro
  | first | exact hz.symm | rfl
theorem szExprS_ok : ∀ (N : Nat) (l : List Ex), Ex.szL l ≤ N → l.length ≤ maxLen → Ex.LenL l → SzE l := by
  intro N
  induction N using Nat.strongRecOn with
  | _ N ih =>
    intro l hN hl hL left h0 h1
    rw [max_eq] at hl
    refine pureF_of Tryz.func130 rfl Tryz.ntmps130 (by simp) T_ ?_
    intro f0 B Q hQ
    refine g_ [0,1] ?_
    refine g_ [0,1] ?_
    refine g_ [0,1,11] ?_
    refine c_ (fun hc0 => ?_) fun hc0 => ?_
    ·
      have hz := szR_no (L := left) (m := Ex.szL l) (by rw [szL_kz]; omega)
      refine g_ [4] ?_
      refine e_ Tryz.results130 ?_
      first
      | exact True.intro
      | rw [hz]
    have hle : (l.length : Int) ≤ left := by omega
    refine g_ [0,1,5] ?_
    refine n_ ?_
    refine wpM_loopS (fun s n s' => ∃ (i0 M0 : Nat) (L : Int), i0 + n = l.length ∧ s.M ≤ M0 ∧ (0 ≤ L ∧ L + l.length + (((l.take i0).map kz).sum : Nat) = left) ∧ s' = { s with env := setE 5 (.int .i64 (i0 : Nat)) (setE 1 (.int .i64 L) s.env) , M := M0 }) (l.length) ?_ ?_
    ·
      refine .of' _ _ ⟨0, _, left - l.length, by omega, Nat.le_refl _, ⟨by omega, by simp⟩, rfl⟩ ?_ ?_ ?_ <;> exact L_
    rintro n0 s' ⟨i0, M0, L, hi0, hM0, hv0, rfl⟩
    try dsimp only at hM0
    try refine S_ ?_
    refine g_ [0,1,5,15] ?_
    refine c_ (fun hc1 => ?_) fun hc1 => ?_
    ·
      have hl0 : i0 < l.length := by omega
      have hmem : l.getD i0 default ∈ l := by rw [List.getD_eq_getElem?_getD, List.getElem?_eq_getElem hl0]; exact List.getElem_mem hl0
      have hLe := (Ex.LenL_iff l).1 hL _ hmem
      have hst := sum_take kz l i0 hl0
      have hsl := sum_le kz l (i0 + 1)
      have hkl : kz (l.getD i0 default) < N := by
        have := szL_kz l
        omega
      refine n_ ?_
      refine wpM_regionK [0,1,5] rfl fun Q1 hQ1 => ?_
      refine S_ ?_
      refine cp_ (szExpr_ok' (l.getD i0 default) (ih _ hkl _ (Nat.le_refl _) (by cases h : l.getD i0 default; rw [h] at hLe; exact hLe.1) (by cases h : l.getD i0 default; rw [h] at hLe; exact hLe.2)) L hv0.1 (by omega)) Tryz.call78 ?_
      refine hQ1 _ _ (S_ ?_);clear hQ1 Q1
      refine g_ [0,1,5,25] ?_
      refine c_ (fun hc2 => ?_) fun hc2 => ?_
      ·
        have hn := szR_neg (L := L) (m := kz (l.getD i0 default)) hc2
        have hz := szR_no (L := left) (m := Ex.szL l) (by rw [szL_kz]; omega)
        refine g_ [4] ?_
        refine e_ Tryz.results130 ?_
        first
        | exact True.intro
        | rw [hz]
      have hp := szR_pos (L := L) (m := kz (l.getD i0 default)) hc2
      refine g_ [0,1,5] ?_
      refine .of' _ _ ⟨n0 - 1, by omega, i0 + 1, _, szR L (kz (l.getD i0 default)), by omega, M_, ?_, rfl⟩ L_ L_ L_
      rw [hst, hp.2]
      omega
    refine n_ ?_
    have hi : i0 = l.length := by omega
    have hz : szR left (Ex.szL l) = L := by
      rw [hi, List.take_of_length_le (Nat.le_refl _)] at hv0
      rw [szL_kz, szR_yes (by omega)]; omega
    refine g_ [4] ?_
    refine e_ Tryz.results130 ?_
    first
    | exact True.intro
    | rw [hz]
end Go.Proofs.YtnmfmeehmieifaaGreat
namespace Go.Proofs.YtnmfmeehmieifaaGreat
open Go Sg
set_option maxRecDepth 100000
set_option linter.unusedSimpArgs false
set_option linter.unusedVariables false
set_option linter.unusedSectionVars false
set_option maxHeartbeats 4000000
variable [Glob]
theorem Ex.kids_Len {e : Ex} (h : e.Len) : e.kids.length ≤ maxLen ∧ Ex.LenL e.kids := by cases e; exact h
theorem sum_get {α : Type} [Inhabited α] (f : α → Nat) (l : List α) (i : Nat) (h : i < l.length) : f (l.getD i default) ≤ (l.map f).sum := by
  have h1 := sum_take f l i h
  have h2 := sum_le f l (i + 1)
  omega
end Go.Proofs.YtnmfmeehmieifaaGreat
namespace Go.Proofs.YtnmfmeehmieifaaGreat
open Go Sg Go.WideShapes
set_option linter.unusedVariables false
set_option linter.unusedSectionVars false
variable [Glob]
end Go.Proofs.YtnmfmeehmieifaaGreat
namespace Go.Proofs.YtnmfmeehmieifaaGreat
open Go Sg
set_option maxRecDepth 100000
set_option linter.unusedSimpArgs false
set_option linter.unusedVariables false
set_option linter.unusedSectionVars false
set_option maxHeartbeats 4000000
variable [Glob]
theorem eqAddr_ok (a b : AD) : PureF Tryz.prog 92 [.agg [.int .i64 a.kind, .int .i64 a.at'], .agg [.int .i64 b.kind, .int .i64 b.at']] [.bool (a.kind == b.kind && a.at' == b.at')] := by
  refine pureF_of Tryz.func92 rfl Tryz.ntmps92 (by simp) T_ ?_
  intro f0 B Q hQ
  refine g_ [2,3] ?_
  refine g_ [2,3,9] ?_
  refine c_ (fun hc0 => ?_) fun hc0 => ?_
  ·
    refine g_ [4] ?_
    refine e_ Tryz.results92 ?_
    first
    | exact True.intro
    | simp_all
  refine g_ [14] ?_
  refine c_ (fun hc1 => ?_) fun hc1 => ?_
  ·
    refine g_ [4] ?_
    refine e_ Tryz.results92 ?_
    first
    | exact True.intro
    | simp_all
  refine g_ [4] ?_
  refine e_ Tryz.results92 ?_
  first
  | exact True.intro
  | simp_all
def EqX (a b : List Ex) : Prop := PureF Tryz.prog 136 [.rows 77 (Ex.csL a), .rows 77 (Ex.csL b)] [.bool (same a b)]
theorem same_ex' (a b : Ex) : (a.kind == b.kind && a.n == b.n && (a.a.kind == b.a.kind && a.a.at' == b.a.at') && same a.kids b.kids) = same a b := by
  rw [← same_ex]
  congr 1
  exact (len_same _ _).symm
theorem eqExpr_ok' (a b : Ex) (ih : EqX a.kids b.kids) : PureF Tryz.prog 93 [.agg a.cs, .agg b.cs] [.bool (same a b)] := by
  refine pureF_of Tryz.func93 rfl Tryz.ntmps93 (by simp) T_ ?_
  intro f0 B Q hQ
  refine g_ [2,3] ?_
  refine g_ [2,3,9] ?_
  refine c_ (fun hc0 => ?_) fun hc0 => ?_
  ·
    refine g_ [4] ?_
    refine e_ Tryz.results93 ?_
    first
    | exact True.intro
    | rw [← same_ex']
      first | (simp_all; done) | (simp_all; intro h1 h2; rcases hc2 with h | h <;> contradiction)
  refine g_ [2,3,14] ?_
  refine c_ (fun hc1 => ?_) fun hc1 => ?_
  ·
    refine g_ [4] ?_
    refine e_ Tryz.results93 ?_
    first
    | exact True.intro
    | rw [← same_ex']
      first | (simp_all; done) | (simp_all; intro h1 h2; rcases hc2 with h | h <;> contradiction)
  refine n_ ?_
  refine wpM_regionK [2,3,20] rfl fun Q1 hQ1 => ?_
  refine S_ ?_
  refine cp_ (eqAddr_ok a.a b.a) Tryz.call92 ?_
  refine hQ1 _ _ (S_ ?_);clear hQ1 Q1
  refine c_ (fun hc2 => ?_) fun hc2 => ?_
  ·
    refine g_ [4] ?_
    refine e_ Tryz.results93 ?_
    first
    | exact True.intro
    | rw [← same_ex']
      first | (simp_all; done) | (simp_all; intro h1 h2; rcases hc2 with h | h <;> contradiction)
  refine n_ ?_
  refine wpM_regionK [26] rfl fun Q1 hQ1 => ?_
  refine S_ ?_
  refine cp_ (ih) Tryz.call136 ?_
  refine hQ1 _ _ (S_ ?_);clear hQ1 Q1
  refine c_ (fun hc3 => ?_) fun hc3 => ?_
  ·
    refine g_ [4] ?_
    refine e_ Tryz.results93 ?_
    first
    | exact True.intro
    | rw [← same_ex']
      first | (simp_all; done) | (simp_all; intro h1 h2; rcases hc2 with h | h <;> contradiction)
  refine g_ [4] ?_
  refine e_ Tryz.results93 ?_
  first
  | exact True.intro
  | rw [← same_ex']
    first | (simp_all; done) | (simp_all; intro h1 h2; rcases hc2 with h | h <;> contradiction)
theorem eqExprS_ok : ∀ (N : Nat) (a b : List Ex), Ex.szL a ≤ N → Ex.szL a ≤ 1099511627776 → EqX a b := by
  intro N
  induction N using Nat.strongRecOn with
  | _ N ih =>
    intro a b hN hs
    have hll := Ex.len_szL a
    refine pureF_of Tryz.func136 rfl Tryz.ntmps136 (by simp) T_ ?_
    intro f0 B Q hQ
    refine g_ [0,1] ?_
    refine g_ [0,1,10] ?_
    refine c_ (fun hc0 => ?_) fun hc0 => ?_
    ·
      refine g_ [4] ?_
      refine e_ Tryz.results136 ?_
      first
      | exact True.intro
      | simp at hc0
        exact (same_no (fun h => by rw [h] at hc0; exact hc0 rfl)).symm
    have hab : a.length = b.length := by simp at hc0; omega
    refine g_ [0,1,5] ?_
    refine n_ ?_
    refine wpM_loopS (fun s n s' => ∃ (i0 M0 : Nat) , i0 + n = a.length ∧ s.M ≤ M0 ∧ ((List.range i0).all (fun i => same (a.getD i default) (b.getD i default)) = true) ∧ s' = { s with env := setE 5 (.int .i64 (i0 : Nat)) s.env, M := M0 }) (a.length) ?_ ?_
    ·
      refine .of' _ _ ⟨0, _, by omega, Nat.le_refl _, by simp, rfl⟩ ?_ ?_ ?_ <;> exact L_
    rintro n0 s' ⟨i0, M0, hi0, hM0, hv0, rfl⟩
    try dsimp only at hM0
    try refine S_ ?_
    refine g_ [0,1,5,14] ?_
    refine c_ (fun hc1 => ?_) fun hc1 => ?_
    ·
      have hl0 : i0 < a.length := by omega
      have hg := Ex.get_szL a i0 hl0
      rw [Ex.sz_eq] at hg
      refine n_ ?_
      refine dr_ mixed [0,1,5,26] 0 0 [] [⟨[0],[],[],[],false⟩,⟨[5],[],[],[],false⟩,⟨[17,18],[],[],[],false⟩,⟨[19],[],[],[],false⟩,⟨[1],[],[],[],false⟩,⟨[5],[],[],[],false⟩,⟨[21,22],[],[],[],false⟩,⟨[23],[],[],[],false⟩,⟨[20,24],[],[],[],true⟩,⟨[25],[],[],[],false⟩] [0,1,2,3,4,5,6,7,8,9] [[],[],[0,1],[0,1,2],[],[],[4,5],[4,5,6],[0,1,2,3,4,5,6,7],[0,1,2,3,4,5,6,7,8]] 0 ?_
      intro O A K hO hA hK;simp only [atL_cons,atL_nil,Nat.reduceAdd,Nat.zero_add] at hO hA
      refine SO_ ?_
      refine lp_ (eqExpr_ok' (a.getD i0 default) (b.getD i0 default) (ih (Ex.szL (a.getD i0 default).kids) (by omega) _ _ (Nat.le_refl _) (by omega))) Tryz.call93 ?_
      refine hK _ (S_ ?_);clear hK K hO hA O A
      refine c_ (fun hc2 => ?_) fun hc2 => ?_
      ·
        refine g_ [4] ?_
        refine e_ Tryz.results136 ?_
        first
        | exact True.intro
        | have h2 : (!same (a.getD i0 default) (b.getD i0 default)) = true := hc2
          rw [← range_ext hab same (fun i _ => rfl), range_no hl0 (by simpa using h2)]
      refine g_ [0,1,5] ?_
      refine .of' _ _ ⟨n0 - 1, by omega, i0 + 1, _, by omega, M_, ?_, rfl⟩ L_ L_ L_
      have h2 : (!same (a.getD i0 default) (b.getD i0 default)) = false := hc2
      rw [range_all, hv0]; simpa using h2
    refine g_ [4] ?_
    refine e_ Tryz.results136 ?_
    first
    | exact True.intro
    | have : i0 = a.length := by omega
      rw [← range_ext hab same (fun i _ => rfl), ← this, hv0]
theorem eqExpr_ok (a b : Ex) (h : a.sz ≤ 1099511627776) : PureF Tryz.prog 93 [.agg a.cs, .agg b.cs] [.bool (same a b)] := eqExpr_ok' a b (eqExprS_ok _ _ _ (Nat.le_refl _) (by rw [Ex.sz_eq] at h; omega))
end Go.Proofs.YtnmfmeehmieifaaGreat
namespace Go.Proofs.YtnmfmeehmieifaaGreat
open Go Sg Go.WideShapes
set_option maxRecDepth 100000
set_option linter.unusedSimpArgs false
set_option linter.unusedVariables false
set_option linter.unusedSectionVars false
set_option maxHeartbeats 4000000
variable [Glob]
structure MM.Len (m : MM) : Prop where
  i : m.i.length ≤ maxLen
  o : m.o.length ≤ maxLen
  v : m.v.length ≤ maxLen
structure Mrk.Len (k : Mrk) : Prop where
  on : k.on.length ≤ maxLen
  kept : k.kept.length ≤ maxLen
section
variable {H : Type} {enc : TypeId × Value → H} {W : World} {base : Nat} {spare : Nat → Bool} {held : Bool}
end
end Go.Proofs.YtnmfmeehmieifaaGreat
namespace Go.Proofs.YtnmfmeehmieifaaGreat
open Go Sg
set_option maxRecDepth 100000
set_option linter.unusedSimpArgs false
set_option linter.unusedVariables false
set_option linter.unusedSectionVars false
set_option maxHeartbeats 4000000
variable [Glob]
def mkI (k : Int) (n : Nat) : List Int := (List.range n).map fun i => k + (i : Nat)
@[go_sem] theorem mkI_zero (k : Int) : mkI k 0 = [] := rfl
def mkB (k : Int) (n : Nat) : List Bool := (List.range n).map fun i => Int.tmod (k + (i : Nat)) 3 == 0
@[go_sem] theorem mkB_zero (k : Int) : mkB k 0 = [] := rfl
theorem splice_one {a b : List PV} {x y : PV} {i : Nat} (h : a.length = i) : splice (a ++ x :: b) i [y] = a ++ y :: b := by
  subst h
  simp [splice]
def MM.oc (m : MM) (x y z : Nat) : List PV := [.sl 3 x 0 m.i.length, .sl 3 y 0 m.o.length, .sl 3 z 0 m.v.length]
end Go.Proofs.YtnmfmeehmieifaaGreat
namespace Go.Proofs.YtnmfmeehmieifaaGreat
open Go Sg
set_option maxRecDepth 100000
set_option linter.unusedSimpArgs false
set_option linter.unusedVariables false
set_option linter.unusedSectionVars false
set_option maxHeartbeats 4000000
variable [Glob]
end Go.Proofs.YtnmfmeehmieifaaGreat
namespace Go.Proofs.YtnmfmeehmieifaaGreat
open Go Sg Go.WideShapes
set_option maxRecDepth 100000
set_option linter.unusedSimpArgs false
set_option linter.unusedVariables false
set_option linter.unusedSectionVars false
set_option maxHeartbeats 4000000
variable [Glob]
mutual
def Sm.lcs : Sm → List PV
  | .mk k a e th el => [.int .i64 k, .int .i64 a.kind, .int .i64 a.at', .int .i64 e.kind, .int .i64 e.n, .int .i64 e.a.kind, .int .i64 e.a.at', .rows 70 (Ex.lcsL e.kids), .rows 72 (Sm.lcsL th), .rows 72 (Sm.lcsL el)]
def Sm.lcsL : List Sm → List (List PV)
  | [] => []
  | s :: l => s.lcs :: Sm.lcsL l
end
@[go_sem] theorem Sm.lcs_eq (s : Sm) : s.lcs = [.int .i64 s.kind, .int .i64 s.to'.kind, .int .i64 s.to'.at', .int .i64 s.e.kind, .int .i64 s.e.n, .int .i64 s.e.a.kind, .int .i64 s.e.a.at', .rows 70 (Ex.lcsL s.e.kids), .rows 72 (Sm.lcsL s.th), .rows 72 (Sm.lcsL s.el)] := by cases s; simp only [Sm.lcs, Sm.kind, Sm.to', Sm.e, Sm.th, Sm.el]
theorem Sm.lcsL_map (l : List Sm) : Sm.lcsL l = l.map Sm.lcs := by
  induction l with
  | nil => rfl
  | cons e l ih => simp [Sm.lcsL, ih]
@[go_sem] theorem Sm.lcsL_len (l : List Sm) : (Sm.lcsL l).length = l.length := by simp [Sm.lcsL_map]
@[go_sem] theorem Sm.lcsL_get (l : List Sm) (k : Nat) (h : k < l.length) : (Sm.lcsL l).getD k [] = (l.getD k default).lcs := by simp [Sm.lcsL_map, List.getD, h]
mutual
def Sm.Len : Sm → Prop | .mk _ _ e th el => e.Len ∧ (th.length ≤ maxLen ∧ Sm.LenL th) ∧ (el.length ≤ maxLen ∧ Sm.LenL el)
def Sm.LenL : List Sm → Prop
  | [] => True
  | e :: l => e.Len ∧ Sm.LenL l
end
theorem Sm.LenL_iff (l : List Sm) : Sm.LenL l ↔ ∀ e ∈ l, e.Len := by
  induction l with
  | nil => simp [Sm.LenL]
  | cons e l ih => simp [Sm.LenL, ih]
theorem Sm.Len_inv {s : Sm} (h : s.Len) : s.e.Len ∧ (s.th.length ≤ maxLen ∧ Sm.LenL s.th) ∧ (s.el.length ≤ maxLen ∧ Sm.LenL s.el) := by cases s; exact h
theorem slcs_pure (e : Sm) : PV.pureL e.lcs = true := by rw [Sm.lcs_eq]; rfl
theorem slcs_cell (e : Sm) : ∀ y ∈ e.lcs, y.cell = true := by
  rw [Sm.lcs_eq]
  intro y hy
  simp only [List.mem_cons, List.not_mem_nil, or_false] at hy
  rcases hy with rfl | rfl | rfl | rfl | rfl | rfl | rfl | rfl | rfl | rfl <;> rfl
section
variable {H : Type} {enc : TypeId × Value → H} {W : World} {base : Nat} {spare : Nat → Bool} {held : Bool}
theorem open_stm : ∀ (fuel : Nat) (cs : List Value) (x : DataW H × List MemPlace), DataW.trod enc Tryz.prog W base spare held fuel 72 cs = some x → ∃ e : Sm, e.Len ∧ Lies Tryz.prog W e.lcs cs := by
  intro fuel
  induction fuel using Nat.strongRecOn with
  | _ fuel ih =>
    intro cs x h
    obtain ⟨xs, n, hf, hx, hl, hxs, hfs⟩ := DataW.trod_struct Tryz.underlying72 h
    rw [cellsOf72] at hl
    match cs, hl with
    | [c0, c1, c2, c3, c4, c5, c6, c7, c8, c9], _ =>
      have h0 := hfs 0 _ rfl
      have h1 := hfs 1 _ rfl
      have h2 := hfs 2 _ rfl
      have h3 := hfs 3 _ rfl
      have h4 := hfs 4 _ rfl
      have l0 : (0 : Nat) < xs.length := by rw [hxs]; decide
      have l1 : (1 : Nat) < xs.length := by rw [hxs]; decide
      have l2 : (2 : Nat) < xs.length := by rw [hxs]; decide
      have l3 : (3 : Nat) < xs.length := by rw [hxs]; decide
      have l4 : (4 : Nat) < xs.length := by rw [hxs]; decide
      rw [List.getElem?_eq_getElem l0] at h0
      rw [List.getElem?_eq_getElem l1] at h1
      rw [List.getElem?_eq_getElem l2] at h2
      rw [List.getElem?_eq_getElem l3] at h3
      rw [List.getElem?_eq_getElem l4] at h4
      obtain ⟨k, hk, _⟩ := open_int Tryz.underlying3 h0
      obtain ⟨a, ha⟩ := open_ad h1
      obtain ⟨w, hw1, hw2⟩ := open_ex _ _ _ h2
      obtain ⟨l, hl1, hl2, hl3⟩ := open_slice Tryz.underlying22 (by rw [cellsOf72]; decide) Sm.lcs Sm.Len (fun e => by rw [cellsOf72, Sm.lcs_eq]; rfl) slcs_pure slcs_cell (fun j cs' x' hj h' => ih j (by omega) cs' x' h') h3
      obtain ⟨r, hr1, hr2, hr3⟩ := open_slice Tryz.underlying22 (by rw [cellsOf72]; decide) Sm.lcs Sm.Len (fun e => by rw [cellsOf72, Sm.lcs_eq]; rfl) slcs_pure slcs_cell (fun j cs' x' hj h' => ih j (by omega) cs' x' h') h4
      simp [cellsOf3] at hk
      simp [cellsOf67] at ha
      simp [cellsOf70] at hw2
      simp [cellsOf22] at hl3 hr3
      rw [Ex.lcs_eq] at hw2
      have inL : ∀ l : List Sm, (∀ i, i < l.length → (l.getD i default).Len) → Sm.LenL l := fun l hl1 => (Sm.LenL_iff l).2 fun e he => by
        obtain ⟨i, hi, rfl⟩ := List.getElem_of_mem he
        have := hl1 i hi
        simpa [List.getD, hi] using this
      refine ⟨.mk k a w l r, ⟨hw1, ⟨hl2, inL l hl1⟩, hr2, inL r hr1⟩, rfl, fun j hj => ?_⟩
      match j, hj with
      | 0, _ => simp only [Sm.lcs, List.getElem_cons_zero]; rw [hk]; exact .int _ _
      | 1, _ => simp only [Sm.lcs]; rw [ha.1]; exact .int _ _
      | 2, _ => simp only [Sm.lcs]; rw [ha.2]; exact .int _ _
      | 3, _ => exact hw2.2 0 (by simp)
      | 4, _ => exact hw2.2 1 (by simp)
      | 5, _ => exact hw2.2 2 (by simp)
      | 6, _ => exact hw2.2 3 (by simp)
      | 7, _ => exact hw2.2 4 (by simp)
      | 8, _ => simp only [Sm.lcs, Sm.lcsL_map]; exact lies_one hl3
      | 9, _ => simp only [Sm.lcs, Sm.lcsL_map]; exact lies_one hr3
theorem open_stms {fuel : Nat} {cs : List Value} {x : DataW H × List MemPlace} (h : DataW.trod enc Tryz.prog W base spare held fuel 22 cs = some x) : ∃ l : List Sm, l.length ≤ maxLen ∧ Sm.LenL l ∧ Lies Tryz.prog W [.rows 72 (Sm.lcsL l)] cs := by
  obtain ⟨l, hl1, hl2, hl3⟩ := open_slice Tryz.underlying22 (by rw [cellsOf72]; decide) Sm.lcs Sm.Len (fun e => by rw [cellsOf72, Sm.lcs_eq]; rfl) slcs_pure slcs_cell (fun j cs' x' hj h' => open_stm j cs' x' h') h
  refine ⟨l, hl2, (Sm.LenL_iff l).2 fun e he => ?_, by rw [Sm.lcsL_map]; exact hl3⟩
  obtain ⟨i, hi, rfl⟩ := List.getElem_of_mem he
  have := hl1 i hi
  simpa [List.getD, hi] using this
end
mutual
def Sm.bz : Sm → Nat | .mk _ _ e th el => kz e + Sm.bzL th + Sm.bzL el
def Sm.bzL : List Sm → Nat | [] => 0 | s :: l => 1 + s.bz + Sm.bzL l
end
theorem Sm.bz_eq (s : Sm) : s.bz = kz s.e + Sm.bzL s.th + Sm.bzL s.el := by cases s; simp only [Sm.bz, Sm.e, Sm.th, Sm.el]
theorem Sm.bzL_sum (l : List Sm) : Sm.bzL l = l.length + (l.map Sm.bz).sum := by
  induction l with
  | nil => rfl
  | cons e l ih => simp only [Sm.bzL, ih, List.length_cons, List.map_cons, List.sum_cons]; omega
theorem Sm.bz_szL : ∀ (N : Nat) (l : List Sm), Sm.szL l ≤ N → Sm.szL l ≤ 2 * Sm.bzL l := by
  intro N
  induction N using Nat.strongRecOn with
  | _ N ih =>
    intro l
    induction l with
    | nil => intro _; simp [Sm.szL]
    | cons s l ihl =>
      intro hN
      simp only [Sm.szL] at hN ⊢
      have h1 := s.sz_eq
      have h2 := s.bz_eq
      have h3 := s.e.sz_eq
      have h4 := ih (Sm.szL s.th) (by omega) s.th (Nat.le_refl _)
      have h5 := ih (Sm.szL s.el) (by omega) s.el (Nat.le_refl _)
      have h6 := ihl (by omega)
      simp only [Sm.bzL]
      unfold kz at h2
      omega
def SzS (l : List Sm) : Prop := ∀ left : Int, 0 ≤ left → left ≤ 1048576 → PureF Tryz.prog 7 [.rows 72 (Sm.lcsL l), .int .i64 left] [.int .i64 (szR left (Sm.bzL l))]
theorem szStmt_ok' (s : Sm) (hs : s.Len) (ih1 : SzS s.th) (ih2 : SzS s.el) (left : Int) (h0 : 0 ≤ left) (h1 : left ≤ 1048576) : PureF Tryz.prog 37 [.agg s.lcs, .int .i64 left] [.int .i64 (szR left s.bz)] := by
  have hb := s.bz_eq
  have hk := Ex.kids_Len (Sm.Len_inv hs).1
  refine pureF_of Tryz.func37 rfl Tryz.ntmps37 (by simp) T_ ?_
  intro f0 B Q hQ
  refine g_ [1,2] ?_
  refine n_ ?_
  refine wpM_regionK [1,2] rfl fun Q1 hQ1 => ?_
  refine S_ ?_
  refine cp_ (szExpr_ok' s.e (szExprS_ok _ _ (Nat.le_refl _) hk.1 hk.2) left h0 h1) Tryz.call78 ?_
  refine hQ1 _ _ (S_ ?_);clear hQ1 Q1
  refine g_ [1,2,10] ?_
  refine c_ (fun hc0 => ?_) fun hc0 => ?_
  ·
    have hz := szR_no (L := left) (m := s.bz) (by have := szR_neg hc0; omega)
    refine g_ [4] ?_
    refine e_ Tryz.results37 ?_
    first
    | exact True.intro
    | first
      | exact hz.symm
      | (rw [hz, p3.2, p2.2, p1.2]; omega)
  have p1 := szR_pos hc0
  refine n_ ?_
  refine wpM_regionK [1,2] rfl fun Q1 hQ1 => ?_
  refine S_ ?_
  refine cp_ (ih1 (szR left (kz s.e)) (by omega) (by omega)) Tryz.call7 ?_
  refine hQ1 _ _ (S_ ?_);clear hQ1 Q1
  refine g_ [1,2,16] ?_
  refine c_ (fun hc1 => ?_) fun hc1 => ?_
  ·
    have hz := szR_no (L := left) (m := s.bz) (by have := szR_neg hc1; omega)
    refine g_ [4] ?_
    refine e_ Tryz.results37 ?_
    first
    | exact True.intro
    | first
      | exact hz.symm
      | (rw [hz, p3.2, p2.2, p1.2]; omega)
  have p2 := szR_pos hc1
  refine n_ ?_
  refine wpM_regionK [1] rfl fun Q1 hQ1 => ?_
  refine S_ ?_
  refine cp_ (ih2 (szR (szR left (kz s.e)) (Sm.bzL s.th)) (by omega) (by omega)) Tryz.call7 ?_
  refine hQ1 _ _ (S_ ?_);clear hQ1 Q1
  refine g_ [1,22] ?_
  refine c_ (fun hc2 => ?_) fun hc2 => ?_
  ·
    have hz := szR_no (L := left) (m := s.bz) (by have := szR_neg hc2; omega)
    refine g_ [4] ?_
    refine e_ Tryz.results37 ?_
    first
    | exact True.intro
    | first
      | exact hz.symm
      | (rw [hz, p3.2, p2.2, p1.2]; omega)
  have p3 := szR_pos hc2
  have hz := szR_yes (L := left) (m := s.bz) (by omega)
  refine g_ [4] ?_
  refine e_ Tryz.results37 ?_
  first
  | exact True.intro
  | first
    | exact hz.symm
    | (rw [hz, p3.2, p2.2, p1.2]; omega)
theorem szStmtS_ok : ∀ (N : Nat) (l : List Sm), Sm.bzL l ≤ N → l.length ≤ maxLen → Sm.LenL l → SzS l := by
  intro N
  induction N using Nat.strongRecOn with
  | _ N ih =>
    intro l hN hl hL left h0 h1
    rw [max_eq] at hl
    refine pureF_of Tryz.func7 rfl Tryz.ntmps7 (by simp) T_ ?_
    intro f0 B Q hQ
    refine g_ [0,1] ?_
    refine g_ [0,1] ?_
    refine g_ [0,1,11] ?_
    refine c_ (fun hc0 => ?_) fun hc0 => ?_
    ·
      have hz := szR_no (L := left) (m := Sm.bzL l) (by rw [Sm.bzL_sum]; omega)
      refine g_ [4] ?_
      refine e_ Tryz.results7 ?_
      first
      | exact True.intro
      | rw [hz]
    have hle : (l.length : Int) ≤ left := by omega
    refine g_ [0,1,5] ?_
    refine n_ ?_
    refine wpM_loopS (fun s n s' => ∃ (i0 M0 : Nat) (L : Int), i0 + n = l.length ∧ s.M ≤ M0 ∧ (0 ≤ L ∧ L + l.length + (((l.take i0).map Sm.bz).sum : Nat) = left) ∧ s' = { s with env := setE 5 (.int .i64 (i0 : Nat)) (setE 1 (.int .i64 L) s.env) , M := M0 }) (l.length) ?_ ?_
    ·
      refine .of' _ _ ⟨0, _, left - l.length, by omega, Nat.le_refl _, ⟨by omega, by simp⟩, rfl⟩ ?_ ?_ ?_ <;> exact L_
    rintro n0 s' ⟨i0, M0, L, hi0, hM0, hv0, rfl⟩
    try dsimp only at hM0
    try refine S_ ?_
    refine g_ [0,1,5,15] ?_
    refine c_ (fun hc1 => ?_) fun hc1 => ?_
    ·
      have hl0 : i0 < l.length := by omega
      have hmem : l.getD i0 default ∈ l := by rw [List.getD_eq_getElem?_getD, List.getElem?_eq_getElem hl0]; exact List.getElem_mem hl0
      have hLe := (Sm.LenL_iff l).1 hL _ hmem
      have hLi := Sm.Len_inv hLe
      have hst := sum_take Sm.bz l i0 hl0
      have hsl := sum_le Sm.bz l (i0 + 1)
      have hbb := (l.getD i0 default).bz_eq
      have hkl : (l.getD i0 default).bz < N := by
        have := Sm.bzL_sum l
        omega
      refine n_ ?_
      refine wpM_regionK [0,1,5] rfl fun Q1 hQ1 => ?_
      refine S_ ?_
      refine cp_ (szStmt_ok' (l.getD i0 default) hLe (ih _ (by omega) _ (Nat.le_refl _) hLi.2.1.1 hLi.2.1.2) (ih _ (by omega) _ (Nat.le_refl _) hLi.2.2.1 hLi.2.2.2) L hv0.1 (by omega)) Tryz.call37 ?_
      refine hQ1 _ _ (S_ ?_);clear hQ1 Q1
      refine g_ [0,1,5,25] ?_
      refine c_ (fun hc2 => ?_) fun hc2 => ?_
      ·
        have hn := szR_neg (L := L) (m := (l.getD i0 default).bz) hc2
        have hz := szR_no (L := left) (m := Sm.bzL l) (by rw [Sm.bzL_sum]; omega)
        refine g_ [4] ?_
        refine e_ Tryz.results7 ?_
        first
        | exact True.intro
        | rw [hz]
      have hp := szR_pos (L := L) (m := (l.getD i0 default).bz) hc2
      refine g_ [0,1,5] ?_
      refine .of' _ _ ⟨n0 - 1, by omega, i0 + 1, _, szR L (l.getD i0 default).bz, by omega, M_, ?_, rfl⟩ L_ L_ L_
      rw [hst, hp.2]
      omega
    refine n_ ?_
    have hi : i0 = l.length := by omega
    have hz : szR left (Sm.bzL l) = L := by
      rw [hi, List.take_of_length_le (Nat.le_refl _)] at hv0
      rw [Sm.bzL_sum, szR_yes (by omega)]; omega
    refine g_ [4] ?_
    refine e_ Tryz.results7 ?_
    first
    | exact True.intro
    | rw [hz]
abbrev sZ : List PV := [.int .i64 0, .int .i64 0, .int .i64 0, .int .i64 0, .int .i64 0, .int .i64 0, .int .i64 0, .emp, .emp, .emp]
theorem scs_len (e : Sm) : e.cs.length = 10 := by rw [Sm.cs_eq]; rfl
theorem scs_pureL (e : Sm) : PV.pureL e.cs = true := by rw [Sm.cs_eq]; rfl
def ToSt (l : List Sm) : Prop := PureF Tryz.prog 9 [.rows 72 (Sm.lcsL l)] [.rows 79 (Sm.csL l)]
theorem toStmt_ok' (s : Sm) (he : kz s.e ≤ 1048576) (ih1 : ToSt s.th) (ih2 : ToSt s.el) : PureF Tryz.prog 41 [.agg s.lcs] [.agg s.cs] := by
  refine pureF_of Tryz.func41 rfl Tryz.ntmps41 (by simp) T_ ?_
  intro f0 B Q hQ
  refine g_ [1,2] ?_
  refine g_ [1,2,3] ?_
  refine g_ [1,2,3] ?_
  refine n_ ?_
  refine wpM_regionK [1,2,3] rfl fun Q1 hQ1 => ?_
  refine S_ ?_
  refine cp_ (toAddr_ok s.to') Tryz.call86 ?_
  refine hQ1 _ _ (S_ ?_);clear hQ1 Q1
  refine n_ ?_
  refine wpM_regionK [1,2,3] rfl fun Q1 hQ1 => ?_
  refine S_ ?_
  refine cp_ (toExpr_ok s.e he) Tryz.call87 ?_
  refine hQ1 _ _ (S_ ?_);clear hQ1 Q1
  refine n_ ?_
  refine wpM_regionK [1,2,3] rfl fun Q1 hQ1 => ?_
  refine S_ ?_
  refine cp_ (ih1) Tryz.call9 ?_
  refine hQ1 _ _ (S_ ?_);clear hQ1 Q1
  refine n_ ?_
  refine wpM_regionK [2,3] rfl fun Q1 hQ1 => ?_
  refine S_ ?_
  refine cp_ (ih2) Tryz.call9 ?_
  refine hQ1 _ _ (S_ ?_);clear hQ1 Q1
  refine g_ [2] ?_
  exact e_ Tryz.results41 True.intro
theorem toStmtS_ok : ∀ (N : Nat) (l : List Sm), Sm.bzL l ≤ N → Sm.bzL l ≤ 1048576 → ToSt l := by
  intro N
  induction N using Nat.strongRecOn with
  | _ N ih =>
    intro l hN hs
    have hll := Sm.bzL_sum l
    refine pureF_of Tryz.func9 rfl Tryz.ntmps9 (by simp) T_ ?_
    intro f0 B Q hQ
    refine g_ [0] ?_
    refine g_ [0,3] ?_
    rw [← fillC_zero Sm.cs sZ l]
    refine g_ [0,3,4] ?_
    refine n_ ?_
    refine wpM_loopS (fun s n s' => ∃ (i0 M0 : Nat) , i0 + n = l.length ∧ s.M ≤ M0 ∧ (Tr i0) ∧ s' = { s with env := setE 4 (.int .i64 (i0 : Nat)) s.env, l := [(B, .cells 79 (fillC Sm.cs sZ l i0))], M := M0 }) (l.length) ?_ ?_
    ·
      refine .of' _ _ ⟨0, _, by omega, Nat.le_refl _, trivial, rfl⟩ ?_ ?_ ?_ <;> exact L_
    rintro n0 s' ⟨i0, M0, hi0, hM0, hv0, rfl⟩
    try dsimp only at hM0
    try refine S_ ?_
    refine g_ [0,3,4,11] ?_
    refine c_ (fun hc0 => ?_) fun hc0 => ?_
    ·
      have hl0 : i0 < l.length := by omega
      have hfl := fillC_len Sm.cs sZ (w := 10) scs_len rfl l i0 (by omega)
      have hfs := fillC_set Sm.cs sZ (w := 10) scs_len rfl l i0 hl0
      rw [Sm.cs_eq] at hfs
      have hg := sum_get Sm.bz l i0 hl0
      rw [Sm.bz_eq] at hg
      refine n_ ?_
      refine wpM_regionK [0,3,4] rfl fun Q1 hQ1 => ?_
      simp -implicitDefEqProofs (disch := omega) only [go_sem, hfl, hfs]
      refine call_p (toStmt_ok' (l.getD i0 default) (by omega) (ih _ (by omega) _ (Nat.le_refl _) (by omega)) (ih _ (by omega) _ (Nat.le_refl _) (by omega))) Tryz.call41 rfl rfl rfl (by first | rfl | (simp -implicitDefEqProofs (disch := omega) only [go_sem] <;> rfl)) ?_
      simp -implicitDefEqProofs (disch := omega) only [go_sem, hfl, hfs]
      refine hQ1 _ _ (S_ ?_);clear hQ1 Q1
      refine g_ [0,3,4] ?_
      refine .of' _ _ ⟨n0 - 1, by omega, i0 + 1, _, by omega, M_, ?_, rfl⟩ L_ L_ L_
      first | trivial | omega
    refine n_ ?_
    have hie : i0 = l.length := by omega
    rw [hie, fillC_all]
    refine frzF Sm.cs 79 (by rw [cellsOf79]; decide) (fun e => by rw [cellsOf79]; exact scs_len e) scs_pureL B l T_ 79 T_ ?_
    rw [← Sm.csL_map]
    refine S_ ?_
    refine g_ [2] ?_
    refine e_ Tryz.results9 ?_
    first
    | exact True.intro
    | rfl
theorem sm_ext {a b : Sm} (h1 : a.kind = b.kind) (h2 : a.to' = b.to') (h3 : a.e = b.e) (h4 : a.th = b.th) (h5 : a.el = b.el) : a = b := by
  cases a; cases b
  simp only [Sm.kind, Sm.to', Sm.e, Sm.th, Sm.el] at h1 h2 h3 h4 h5
  subst h1; subst h2; subst h3; subst h4; subst h5; rfl
theorem same_st (a b : Sm) : (a.kind == b.kind && (a.to'.kind == b.to'.kind && a.to'.at' == b.to'.at') && same a.e b.e && same a.th b.th && same a.el b.el) = same a b := by
  rw [Bool.eq_iff_iff]
  simp only [Bool.and_eq_true, beq_iff_eq, same_iff]
  constructor
  · rintro ⟨⟨⟨⟨h1, h2, h2'⟩, h3⟩, h4⟩, h5⟩
    refine sm_ext h1 ?_ h3 h4 h5
    cases hx : a.to'; cases hy : b.to'
    rw [hx, hy] at h2 h2'
    simp only at h2 h2'
    rw [h2, h2']
  · rintro rfl
    simp
def EqS (a b : List Sm) : Prop := PureF Tryz.prog 11 [.rows 79 (Sm.csL a), .rows 79 (Sm.csL b)] [.bool (same a b)]
theorem eqStmt_ok' (a b : Sm) (he : a.e.sz ≤ 1099511627776) (ih1 : EqS a.th b.th) (ih2 : EqS a.el b.el) : PureF Tryz.prog 45 [.agg a.cs, .agg b.cs] [.bool (same a b)] := by
  have hE : PureF Tryz.prog 93 [.agg [.int .i64 a.e.kind, .int .i64 a.e.n, .int .i64 a.e.a.kind, .int .i64 a.e.a.at', .rows 77 (Ex.csL a.e.kids)], .agg [.int .i64 b.e.kind, .int .i64 b.e.n, .int .i64 b.e.a.kind, .int .i64 b.e.a.at', .rows 77 (Ex.csL b.e.kids)]] [.bool (same a.e b.e)] := by
    rw [← Ex.cs_eq, ← Ex.cs_eq]; exact eqExpr_ok a.e b.e he
  refine pureF_of Tryz.func45 rfl Tryz.ntmps45 (by simp) T_ ?_
  intro f0 B Q hQ
  refine g_ [2,3] ?_
  refine g_ [2,3,9] ?_
  refine c_ (fun hc0 => ?_) fun hc0 => ?_
  ·
    refine g_ [4] ?_
    refine e_ Tryz.results45 ?_
    first
    | exact True.intro
    | rw [← same_st]
      first | (simp_all; done) | (simp_all; intro h1 h2; rcases hc1 with h | h <;> contradiction)
  refine n_ ?_
  refine wpM_regionK [2,3,15] rfl fun Q1 hQ1 => ?_
  refine S_ ?_
  refine cp_ (eqAddr_ok a.to' b.to') Tryz.call92 ?_
  refine hQ1 _ _ (S_ ?_);clear hQ1 Q1
  refine c_ (fun hc1 => ?_) fun hc1 => ?_
  ·
    refine g_ [4] ?_
    refine e_ Tryz.results45 ?_
    first
    | exact True.intro
    | rw [← same_st]
      first | (simp_all; done) | (simp_all; intro h1 h2; rcases hc1 with h | h <;> contradiction)
  refine n_ ?_
  refine wpM_regionK [2,3,21] rfl fun Q1 hQ1 => ?_
  refine S_ ?_
  refine cp_ (hE) Tryz.call93 ?_
  refine hQ1 _ _ (S_ ?_);clear hQ1 Q1
  refine c_ (fun hc2 => ?_) fun hc2 => ?_
  ·
    refine g_ [4] ?_
    refine e_ Tryz.results45 ?_
    first
    | exact True.intro
    | rw [← same_st]
      first | (simp_all; done) | (simp_all; intro h1 h2; rcases hc1 with h | h <;> contradiction)
  refine n_ ?_
  refine wpM_regionK [2,3,27] rfl fun Q1 hQ1 => ?_
  refine S_ ?_
  refine cp_ (ih1) Tryz.call11 ?_
  refine hQ1 _ _ (S_ ?_);clear hQ1 Q1
  refine c_ (fun hc3 => ?_) fun hc3 => ?_
  ·
    refine g_ [4] ?_
    refine e_ Tryz.results45 ?_
    first
    | exact True.intro
    | rw [← same_st]
      first | (simp_all; done) | (simp_all; intro h1 h2; rcases hc1 with h | h <;> contradiction)
  refine n_ ?_
  refine wpM_regionK [33] rfl fun Q1 hQ1 => ?_
  refine S_ ?_
  refine cp_ (ih2) Tryz.call11 ?_
  refine hQ1 _ _ (S_ ?_);clear hQ1 Q1
  refine c_ (fun hc4 => ?_) fun hc4 => ?_
  ·
    refine g_ [4] ?_
    refine e_ Tryz.results45 ?_
    first
    | exact True.intro
    | rw [← same_st]
      first | (simp_all; done) | (simp_all; intro h1 h2; rcases hc1 with h | h <;> contradiction)
  refine g_ [4] ?_
  refine e_ Tryz.results45 ?_
  first
  | exact True.intro
  | rw [← same_st]
    first | (simp_all; done) | (simp_all; intro h1 h2; rcases hc1 with h | h <;> contradiction)
theorem eqStmtS_ok : ∀ (N : Nat) (a b : List Sm), Sm.szL a ≤ N → Sm.szL a ≤ 1099511627776 → EqS a b := by
  intro N
  induction N using Nat.strongRecOn with
  | _ N ih =>
    intro a b hN hs
    have hll := Sm.len_szL a
    refine pureF_of Tryz.func11 rfl Tryz.ntmps11 (by simp) T_ ?_
    intro f0 B Q hQ
    refine g_ [0,1] ?_
    refine g_ [0,1,10] ?_
    refine c_ (fun hc0 => ?_) fun hc0 => ?_
    ·
      refine g_ [4] ?_
      refine e_ Tryz.results11 ?_
      first
      | exact True.intro
      | simp at hc0
        exact (same_no (fun h => by rw [h] at hc0; exact hc0 rfl)).symm
    have hab : a.length = b.length := by simp at hc0; omega
    refine g_ [0,1,5] ?_
    refine n_ ?_
    refine wpM_loopS (fun s n s' => ∃ (i0 M0 : Nat) , i0 + n = a.length ∧ s.M ≤ M0 ∧ ((List.range i0).all (fun i => same (a.getD i default) (b.getD i default)) = true) ∧ s' = { s with env := setE 5 (.int .i64 (i0 : Nat)) s.env, M := M0 }) (a.length) ?_ ?_
    ·
      refine .of' _ _ ⟨0, _, by omega, Nat.le_refl _, by simp, rfl⟩ ?_ ?_ ?_ <;> exact L_
    rintro n0 s' ⟨i0, M0, hi0, hM0, hv0, rfl⟩
    try dsimp only at hM0
    try refine S_ ?_
    refine g_ [0,1,5,14] ?_
    refine c_ (fun hc1 => ?_) fun hc1 => ?_
    ·
      have hl0 : i0 < a.length := by omega
      have hg := Sm.get_szL a i0 hl0
      rw [Sm.sz_eq] at hg
      refine n_ ?_
      refine dr_ mixed [0,1,5,26] 0 0 [] [⟨[0],[],[],[],false⟩,⟨[5],[],[],[],false⟩,⟨[17,18],[],[],[],false⟩,⟨[19],[],[],[],false⟩,⟨[1],[],[],[],false⟩,⟨[5],[],[],[],false⟩,⟨[21,22],[],[],[],false⟩,⟨[23],[],[],[],false⟩,⟨[20,24],[],[],[],true⟩,⟨[25],[],[],[],false⟩] [0,1,2,3,4,5,6,7,8,9] [[],[],[0,1],[0,1,2],[],[],[4,5],[4,5,6],[0,1,2,3,4,5,6,7],[0,1,2,3,4,5,6,7,8]] 0 ?_
      intro O A K hO hA hK;simp only [atL_cons,atL_nil,Nat.reduceAdd,Nat.zero_add] at hO hA
      refine SO_ ?_
      refine lp_ (eqStmt_ok' (a.getD i0 default) (b.getD i0 default) (by omega) (ih _ (by omega) _ _ (Nat.le_refl _) (by omega)) (ih _ (by omega) _ _ (Nat.le_refl _) (by omega))) Tryz.call45 ?_
      refine hK _ (S_ ?_);clear hK K hO hA O A
      refine c_ (fun hc2 => ?_) fun hc2 => ?_
      ·
        refine g_ [4] ?_
        refine e_ Tryz.results11 ?_
        first
        | exact True.intro
        | have h2 : (!same (a.getD i0 default) (b.getD i0 default)) = true := hc2
          rw [← range_ext hab same (fun i _ => rfl), range_no hl0 (by simpa using h2)]
      refine g_ [0,1,5] ?_
      refine .of' _ _ ⟨n0 - 1, by omega, i0 + 1, _, by omega, M_, ?_, rfl⟩ L_ L_ L_
      have h2 : (!same (a.getD i0 default) (b.getD i0 default)) = false := hc2
      rw [range_all, hv0]; simpa using h2
    refine g_ [4] ?_
    refine e_ Tryz.results11 ?_
    first
    | exact True.intro
    | have : i0 = a.length := by omega
      rw [← range_ext hab same (fun i _ => rfl), ← this, hv0]
end Go.Proofs.YtnmfmeehmieifaaGreat
namespace Go.Proofs.YtnmfmeehmieifaaGreat
open Go Sg
set_option maxRecDepth 100000
set_option linter.unusedSimpArgs false
set_option linter.unusedVariables false
set_option linter.unusedSectionVars false
set_option maxHeartbeats 4000000
variable [Glob]
def Mrk.oc (k : Mrk) (x y : Nat) : List PV := [.sl 4 x 0 k.on.length, .sl 4 y 0 k.kept.length]
def Mrk.ol (k : Mrk) (x y : Nat) : List (Nat × AObj) := [(x, .cells 4 (bls k.on)), (y, .cells 4 (bls k.kept))]
@[go_sem] theorem Mrk.ol_eq (k : Mrk) (x y : Nat) : k.ol x y = [(x, .cells 4 (bls k.on)), (y, .cells 4 (bls k.kept))] := rfl
theorem trn_len (t : Trn) : t.cs.length = 7 := rfl
theorem trn_pureL (t : Trn) : PV.pureL t.cs = true := rfl
theorem act_lit (a : GAct) : a.cs.all PV.lit = true := rfl
end Go.Proofs.YtnmfmeehmieifaaGreat
namespace Go.Proofs.YtnmfmeehmieifaaGreat
open Go Sg
set_option maxRecDepth 100000
set_option linter.unusedSimpArgs false
set_option linter.unusedVariables false
set_option linter.unusedSectionVars false
set_option maxHeartbeats 4000000
variable [Glob]
theorem sp0 {C r : List PV} {x y : PV} {m : Nat} (h : m = C.length + 0) : splice (C ++ x :: r) m [y] = C ++ y :: r := by
  exact splice_one (by omega)
theorem sp1 {C r : List PV} {q0 x y : PV} {m : Nat} (h : m = C.length + 1) : splice (C ++ q0 :: x :: r) m [y] = C ++ q0 :: y :: r := by
  have := splice_one (a := C ++ [q0]) (b := r) (x := x) (y := y) (i := m) (by simp [h])
  simpa using this
theorem sp2 {C r : List PV} {q0 q1 x y : PV} {m : Nat} (h : m = C.length + 2) : splice (C ++ q0 :: q1 :: x :: r) m [y] = C ++ q0 :: q1 :: y :: r := by
  have := splice_one (a := C ++ [q0, q1]) (b := r) (x := x) (y := y) (i := m) (by simp [h])
  simpa using this
theorem sp3 {C r : List PV} {q0 q1 q2 x y : PV} {m : Nat} (h : m = C.length + 3) : splice (C ++ q0 :: q1 :: q2 :: x :: r) m [y] = C ++ q0 :: q1 :: q2 :: y :: r := by
  have := splice_one (a := C ++ [q0, q1, q2]) (b := r) (x := x) (y := y) (i := m) (by simp [h])
  simpa using this
theorem sp4 {C r : List PV} {q0 q1 q2 q3 x y : PV} {m : Nat} (h : m = C.length + 4) : splice (C ++ q0 :: q1 :: q2 :: q3 :: x :: r) m [y] = C ++ q0 :: q1 :: q2 :: q3 :: y :: r := by
  have := splice_one (a := C ++ [q0, q1, q2, q3]) (b := r) (x := x) (y := y) (i := m) (by simp [h])
  simpa using this
theorem sp5 {C r : List PV} {q0 q1 q2 q3 q4 x y : PV} {m : Nat} (h : m = C.length + 5) : splice (C ++ q0 :: q1 :: q2 :: q3 :: q4 :: x :: r) m [y] = C ++ q0 :: q1 :: q2 :: q3 :: q4 :: y :: r := by
  have := splice_one (a := C ++ [q0, q1, q2, q3, q4]) (b := r) (x := x) (y := y) (i := m) (by simp [h])
  simpa using this
theorem sp6 {C r : List PV} {q0 q1 q2 q3 q4 q5 x y : PV} {m : Nat} (h : m = C.length + 6) : splice (C ++ q0 :: q1 :: q2 :: q3 :: q4 :: q5 :: x :: r) m [y] = C ++ q0 :: q1 :: q2 :: q3 :: q4 :: q5 :: y :: r := by
  have := splice_one (a := C ++ [q0, q1, q2, q3, q4, q5]) (b := r) (x := x) (y := y) (i := m) (by simp [h])
  simpa using this
theorem ld4 {C r : List PV} {q0 q1 q2 q3 x : PV} {m : Nat} (h : m = C.length + 4) : (List.drop m (C ++ q0 :: q1 :: q2 :: q3 :: x :: r))[0]? = some x := by
  subst h; simp
theorem ld7 {C r : List PV} {q0 q1 q2 q3 q4 q5 q6 x : PV} {m : Nat} (h : m = C.length + 7) : (List.drop m (C ++ q0 :: q1 :: q2 :: q3 :: q4 :: q5 :: q6 :: x :: r))[0]? = some x := by
  subst h; simp
theorem ld8 {C r : List PV} {q0 q1 q2 q3 q4 q5 q6 q7 x : PV} {m : Nat} (h : m = C.length + 8) : (List.drop m (C ++ q0 :: q1 :: q2 :: q3 :: q4 :: q5 :: q6 :: q7 :: x :: r))[0]? = some x := by
  subst h; simp
theorem ld9 {C r : List PV} {q0 q1 q2 q3 q4 q5 q6 q7 q8 x : PV} {m : Nat} (h : m = C.length + 9) : (List.drop m (C ++ q0 :: q1 :: q2 :: q3 :: q4 :: q5 :: q6 :: q7 :: q8 :: x :: r))[0]? = some x := by
  subst h; simp
theorem in5 {C r : List PV} {q0 q1 q2 q3 q4 : PV} {m : Nat} (h : m ≤ C.length + 5) : (m ≤ (C ++ q0 :: q1 :: q2 :: q3 :: q4 :: r).length) = True := by
  simp; omega
theorem in10 {C r : List PV} {q0 q1 q2 q3 q4 q5 q6 q7 q8 q9 : PV} {m : Nat} (h : m ≤ C.length + 10) : (m ≤ (C ++ q0 :: q1 :: q2 :: q3 :: q4 :: q5 :: q6 :: q7 :: q8 :: q9 :: r).length) = True := by
  simp; omega
mutual
def Ex.mk' (k : Int) : Ex → Ex | .mk _ _ _ l => .mk k (k + 1) ⟨k + 1 + 1, k + 1 + 1 + 1⟩ (Ex.mkL (k + 1 + 1 + 1 + 1) l)
def Ex.mkL (k : Int) : List Ex → List Ex | [] => [] | e :: l => Ex.mk' k e :: Ex.mkL (k + 4 * (e.sz : Nat)) l
end
theorem Ex.mk_eq (k : Int) (e : Ex) : Ex.mk' k e = .mk k (k + 1) ⟨k + 1 + 1, k + 1 + 1 + 1⟩ (Ex.mkL (k + 1 + 1 + 1 + 1) e.kids) := by cases e; simp only [Ex.mk', Ex.kids]
theorem Ex.mkL_len (l : List Ex) : ∀ k : Int, (Ex.mkL k l).length = l.length := by
  induction l with
  | nil => intro k; rfl
  | cons e l ih => intro k; simp [Ex.mkL, ih]
theorem Ex.szL_take (l : List Ex) (i : Nat) (h : i < l.length) : Ex.szL (l.take (i + 1)) = Ex.szL (l.take i) + (l.getD i default).sz := by
  induction l generalizing i with
  | nil => simp at h
  | cons e l ih =>
    cases i with
    | zero => simp [Ex.szL]
    | succ i =>
      have := ih i (by simpa using h)
      simp only [List.take_succ_cons, Ex.szL, List.getD_cons_succ] at this ⊢
      omega
theorem Ex.szL_le (l : List Ex) (i : Nat) : Ex.szL (l.take i) ≤ Ex.szL l := by
  induction l generalizing i with
  | nil => simp [Ex.szL]
  | cons e l ih =>
    cases i with
    | zero => simp [Ex.szL]
    | succ i => simp only [List.take_succ_cons, Ex.szL]; have := ih i; omega
theorem Ex.mkL_take (l : List Ex) (i : Nat) (h : i < l.length) : ∀ k : Int, Ex.mkL k (l.take (i + 1)) = Ex.mkL k (l.take i) ++ [Ex.mk' (k + 4 * (Ex.szL (l.take i) : Nat)) (l.getD i default)] := by
  induction l generalizing i with
  | nil => simp at h
  | cons e l ih =>
    intro k
    cases i with
    | zero => simp [Ex.mkL, Ex.szL]
    | succ i =>
      have := ih i (by simpa using h) (k + 4 * (e.sz : Nat))
      simp only [List.take_succ_cons, Ex.mkL, List.getD_cons_succ, List.cons_append, Ex.szL] at this ⊢
      rw [this]
      congr 4
      push_cast; omega
theorem own_ex2 {e : Ex} {cs : List PV} {T : List (Nat × AObj)} (h : Owns Tryz.prog cs e.cs T) : ∃ id, cs = [.int .i64 e.kind, .int .i64 e.n, .int .i64 e.a.kind, .int .i64 e.a.at', .sl 77 id 0 e.kids.length] ∧ Owns Tryz.prog [.sl 77 id 0 e.kids.length] [.rows 77 (Ex.csL e.kids)] T := by
  rw [Ex.cs_eq] at h
  obtain ⟨c1, rfl, h1⟩ := h.lit rfl
  obtain ⟨c2, rfl, h2⟩ := h1.lit rfl
  obtain ⟨c3, rfl, h3⟩ := h2.lit rfl
  obtain ⟨c4, rfl, h4⟩ := h3.lit rfl
  obtain ⟨id, c0, T0, rfl, rfl, h0⟩ := own_exL h4
  exact ⟨id, rfl, h4⟩
def MkX (l : List Ex) : Prop := ∀ (x : Nat) (T : List (Nat × AObj)) (k : Int), Owns Tryz.prog [.sl 77 x 0 l.length] [.rows 77 (Ex.csL l)] T → (ksL T).Nodup → 0 ≤ k → k + 4 * (Ex.szL l : Nat) ≤ 1000000000000 → CallF Tryz.prog 46 [.sl 77 x 0 l.length, .int .i64 k] T 0 (SetR Tryz.prog [.sl 77 x 0 l.length] (k + 4 * (Ex.szL l : Nat)) [.rows 77 (Ex.csL (Ex.mkL k l))] T)
theorem markExprS_ok : ∀ (N : Nat) (l : List Ex), Ex.szL l ≤ N → Ex.szL l ≤ 4194304 → MkX l := by
  intro N
  induction N using Nat.strongRecOn with
  | _ N ih =>
    intro l hN hs x T k hO hnd hk0 hk1
    have hll := Ex.len_szL l
    obtain ⟨x', c0, T0, hx, rfl, h0⟩ := own_exL hO
    obtain rfl : x = x' := by injection hx with hx _; injection hx
    rw [Ex.csL_map] at h0
    have hnd0 : x ∉ ksL T0 ∧ (ksL T0).Nodup := by simpa [ksL] using hnd
    refine callF_of' Tryz.func46 rfl Tryz.ntmps46 (by simp) ?_
    intro f0 B ns Q hB hns hQ
    obtain rfl : ns = [] := List.eq_nil_of_length_eq_zero hns
    have hkB : ∀ j, j ∈ x :: ksL T0 → j < B := fun j hj => hB j (by rw [hasKey]; exact lk_some_of (by simpa [ksL] using hj))
    refine g_ [0,1] ?_
    refine g_ [0,1,5] ?_
    refine n_ ?_
    refine wpM_loopS (fun s r s' => ∃ (i0 : Nat) (C c1 : List PV) (D T1 : List (Nat × AObj)), i0 + r = l.length ∧ Owns Tryz.prog C ((Ex.mkL k (l.take i0)).map Ex.cs).flatten D ∧ Owns Tryz.prog c1 ((l.drop i0).map Ex.cs).flatten T1 ∧ ksL D ++ ksL T1 = ksL T0 ∧ s' = { s with env := setE 5 (.int .i64 (i0 : Nat)) (setE 1 (.int .i64 (k + 4 * (Ex.szL (l.take i0) : Nat))) s.env), l := (x, .cells 77 (C ++ c1)) :: (D ++ T1) }) (l.length) ?_ ?_
    ·
      refine .of' _ _ ⟨0, [], c0, [], T0, by omega, .nil, h0, rfl, rfl⟩ ?_ ?_ ?_
      · simp [Ex.szL]; exact L_
      · exact subL_of hnd (fun p hp => hp)
      · exact keepB_of (fun p hp => .inr (.inr (ksL_mem hp)))
    rintro r s' ⟨i0, C, c1, D, T1, hir, hC, hD, hks, rfl⟩
    try refine S_ ?_
    refine g_ [0,1,5,9] ?_
    refine c_ (fun hc0 => ?_) fun hc0 => ?_
    ·
      have hl0 : i0 < l.length := by omega
      have hCl : C.length = i0 * 5 := by
        have := flat_len Ex.cs cs_len (Ex.mkL k (l.take i0))
        rw [hC.len, this, Ex.mkL_len, List.length_take]; omega
      obtain ⟨ce, c2, Te, T2, rfl, rfl, hE, hD2⟩ := hD.elem hl0
      obtain ⟨id, rfl, hE2⟩ := own_ex2 hE
      have hd2 : c2.length = (l.length - (i0 + 1)) * 5 := by
        have := flat_len Ex.cs cs_len (l.drop (i0 + 1))
        rw [hD2.len, this, List.length_drop]
      have hst := Ex.szL_take l i0 hl0
      have hsl := Ex.szL_le l (i0 + 1)
      have hsz := Ex.sz_eq (l.getD i0 default)
      obtain ⟨K, hK⟩ : ∃ K : Int, K = k + 4 * (Ex.szL (l.take i0) : Nat) := ⟨_, rfl⟩
      rw [← hK]
      refine n_ ?_
      refine wpM_regionK [0,1,5] rfl fun Q1 hQ1 => ?_
      simp -implicitDefEqProofs (disch := omega) only [go_sem, sp0, sp1, sp2, sp3, ld4, in5]
      refine hQ1 _ _ (S_ ?_);clear hQ1 Q1
      refine g_ [0,1,5] ?_
      refine n_ ?_
      refine wpM_regionK [0,1,5] rfl fun Q1 hQ1 => ?_
      simp -implicitDefEqProofs (disch := omega) only [go_sem, sp0, sp1, sp2, sp3, ld4, in5]
      refine hQ1 _ _ (S_ ?_);clear hQ1 Q1
      refine g_ [0,1,5] ?_
      refine n_ ?_
      refine wpM_regionK [0,1,5] rfl fun Q1 hQ1 => ?_
      simp -implicitDefEqProofs (disch := omega) only [go_sem, sp0, sp1, sp2, sp3, ld4, in5]
      refine hQ1 _ _ (S_ ?_);clear hQ1 Q1
      refine g_ [0,1,5] ?_
      refine n_ ?_
      refine wpM_regionK [0,1,5] rfl fun Q1 hQ1 => ?_
      simp -implicitDefEqProofs (disch := omega) only [go_sem, sp0, sp1, sp2, sp3, ld4, in5]
      refine hQ1 _ _ (S_ ?_);clear hQ1 Q1
      refine g_ [0,1,5] ?_
      refine wpM_regionK [0,1,5] rfl fun Q1 hQ1 => ?_
      simp -implicitDefEqProofs (disch := omega) only [go_sem, sp0, sp1, sp2, sp3, ld4, in5]
      have hks2 : ksL D ++ (ksL Te ++ ksL T2) = ksL T0 := by rw [← ksL_app]; exact hks
      have hnd2 : (x :: (ksL D ++ (ksL Te ++ ksL T2))).Nodup := by rw [hks2]; exact List.nodup_cons.2 hnd0
      have hndE : (ksL Te).Nodup := (hnd2.sublist (by
        refine List.Sublist.cons _ ((List.sublist_append_left _ _).trans (List.sublist_append_right _ _)))).sublist (List.Sublist.refl _)
      refine call_set (ps := [.sl 77 id 0 (l.getD i0 default).kids.length, .int .i64 (K + 1 + 1 + 1 + 1)]) ((x, _) :: D) T2 (ih (Ex.szL (l.getD i0 default).kids) (by omega) _ (Nat.le_refl _) (by omega) id Te (K + 1 + 1 + 1 + 1) hE2 hndE (by omega) (by omega)) Tryz.call46 rfl rfl rfl F_ rfl (by simpa [ksL] using hnd2) ?_
      intro T' hO' hksT
      simp -implicitDefEqProofs (disch := omega) only [go_sem, sp0, sp1, sp2, sp3, ld4, in5]
      refine hQ1 _ _ (S_ ?_);clear hQ1 Q1
      refine g_ [0,1,5] ?_
      have hcat : K + 1 + 1 + 1 + 1 + 4 * (Ex.szL (l.getD i0 default).kids : Nat) = k + 4 * (Ex.szL (l.take (i0 + 1)) : Nat) := by omega
      have hE3 : Owns Tryz.prog [.int .i64 K, .int .i64 (K + 1), .int .i64 (K + 1 + 1), .int .i64 (K + 1 + 1 + 1), .sl 77 id 0 (l.getD i0 default).kids.length] (Ex.mk' K (l.getD i0 default)).cs T' := by
        rw [Ex.mk_eq, Ex.cs_eq]
        exact .sc _ _ _ _ rfl (.sc _ _ _ _ rfl (.sc _ _ _ _ rfl (.sc _ _ _ _ rfl hO')))
      have hC3 := hC.snocL hE3
      rw [hK, ← Ex.mkL_take l i0 hl0 k] at hC3
      rw [← hK] at hC3
      have hks3 : ksL (D ++ T') ++ ksL T2 = ksL T0 := by rw [ksL_app, hksT, List.append_assoc]; exact hks2
      have hndl : ∀ (o : AObj) (c : List PV), (ksL ((x, o) :: (D ++ (T' ++ T2)))).Nodup := by
        intro o c
        simp only [ksL, List.map_cons, List.map_append] at hnd2 hksT ⊢
        rw [hksT]; exact hnd2
      rw [hcat]
      refine .of' _ _ ⟨r - 1, by omega, i0 + 1, _, c2, D ++ T', T2, by omega, hC3, hD2, hks3, rfl⟩ ?_ ?_ ?_
      · exact L_
      · refine subL_of (hndl _ c2) (fun p hp => ?_)
        simpa using hp
      · refine keepB_of (fun p hp => .inr (.inr (ksL_mem ?_)))
        simpa using hp
    refine g_ [4] ?_
    refine wpM_ret ?_
    try refine S_ ?_
    obtain rfl : i0 = l.length := by omega
    rw [List.drop_length] at hD
    obtain ⟨rfl, rfl⟩ := Owns.none hD
    rw [List.take_of_length_le (Nat.le_refl _)] at hC ⊢
    rw [← Ex.csL_map] at hC
    have hks' : ksL D = ksL T0 := by simpa [ksL] using hks
    have hnd' : (ksL ((x, AObj.cells 77 (C ++ [])) :: (D ++ []))).Nodup := by
      rw [List.append_nil D]
      show (x :: ksL D).Nodup
      rw [hks']; exact List.nodup_cons.2 hnd0
    refine hQ _ _ (retSet (T' := (x, .cells 77 (C ++ [])) :: (D ++ [])) rfl ?_ ?_ rfl rfl rfl (by rw [Tryz.results46] <;> simp (maxSteps := 1000000) -implicitDefEqProofs (disch := omega) only [go_sem] <;> rfl) (fun q hq => by simp only [MS.f, lk_nd hnd' hq]) (keysIn_of fun p hp => .inr ?_))
    · refine ownsSl x l.length (by rw [Ex.csL_len, Ex.mkL_len]) (by rw [cellsOf77]; decide) (fun y hy => ?_) (by simpa using hC)
      rw [Ex.csL_map, List.mem_map] at hy
      obtain ⟨e, _, rfl⟩ := hy
      rw [cellsOf77]; exact ⟨cs_len e, cs_pureL e⟩
    · show x :: ksL (D ++ []) = x :: ksL T0; rw [List.append_nil D, hks']
    · have := ksL_mem hp
      rw [List.append_nil D] at this
      change p.1 ∈ x :: ksL D at this
      rw [hks'] at this; exact this
end Go.Proofs.YtnmfmeehmieifaaGreat
namespace Go.Proofs.YtnmfmeehmieifaaGreat
open Go Sg
set_option maxRecDepth 100000
set_option linter.unusedSimpArgs false
set_option linter.unusedVariables false
set_option linter.unusedSectionVars false
set_option maxHeartbeats 4000000
variable [Glob]
section
variable {α : Type} [Inhabited α] (mk : Int → α → α) (sz : α → Nat)
def mkG (k : Int) : List α → List α | [] => [] | x :: l => mk k x :: mkG (k + (sz x : Nat)) l
@[go_sem] theorem mkG_nil (k : Int) : mkG mk sz k [] = [] := rfl
end
attribute [go_sem] List.map_nil List.flatten_nil
end Go.Proofs.YtnmfmeehmieifaaGreat
namespace Go.Proofs.YtnmfmeehmieifaaGreat
open Go Sg
set_option maxRecDepth 100000
set_option linter.unusedSimpArgs false
set_option linter.unusedVariables false
set_option linter.unusedSectionVars false
set_option maxHeartbeats 4000000
variable [Glob]
end Go.Proofs.YtnmfmeehmieifaaGreat
namespace Go.Proofs.YtnmfmeehmieifaaGreat
open Go Sg
set_option maxRecDepth 100000
set_option linter.unusedSimpArgs false
set_option linter.unusedVariables false
set_option linter.unusedSectionVars false
set_option maxHeartbeats 4000000
variable [Glob]
theorem dell_out : {l : List (Nat × AObj)} → {i : Nat} → i ∉ ksL l → dell i l = l
  | [], _, _ => rfl
  | (k, v) :: r, i, h => by
    simp only [ksL, List.map_cons, List.mem_cons, not_or] at h
    simp only [dell]
    rw [if_neg (fun e => h.1 e.symm), dell_out h.2]
theorem icopyET_ok : ∀ (N : Nat) (e : Ex), e.sz ≤ N → e.sz ≤ 1099511627776 → CallF Tryz.prog 89 [.agg e.cs] [] e.nS (OwnR Tryz.prog wA e.cs) := by
  intro N
  induction N with
  | zero => intro e h; have := e.sz_pos; omega
  | succ N ih =>
    intro e hN hs
    have hlen := e.kids_len
    rw [Ex.nS_eq]
    refine callF_of' Tryz.func89 rfl Tryz.ntmps89 (by simp) ?_
    intro f0 B ns Q hB hns hQ
    refine g_ [1,2] ?_
    refine g_ [1,2,3] ?_
    refine g_ [1,2,3] ?_
    refine g_ [1,2,9,10,11] ?_
    refine wpM_nil 77 [(1, .ptr B 0), (2, .ptr (B + 1) 0), (9, .rows 77 (Ex.csL e.kids)), (10, .int .i64 (e.kids.length : Nat)), (11, .int .i64 0)] [(B + 1, .cells 77 [.int .i64 0, .int .i64 0, .int .i64 0, .int .i64 0, .emp]), (B, .cells 77 [.int .i64 e.kind, .int .i64 e.n, .int .i64 e.a.kind, .int .i64 e.a.at', .sl 77 (B + 2) 0 0])] T_ T_ T_ ?_
    refine S_ ?_
    refine n_ ?_
    refine wpM_loopS (fun s r s' => ∃ (i0 M0 y : Nat) (C : List PV) (D : List (Nat × AObj)), i0 + r = e.kids.length ∧ Owns Tryz.prog C ((e.kids.take i0).map Ex.cs).flatten D ∧ B + 2 ≤ y ∧ y < M0 ∧ B + 3 ≤ M0 ∧ InR (B + 2) M0 ((y, .dfr 0) :: D) ∧ (ksL D).length = Ex.nSL (e.kids.take i0) ∧ s' = { s with env := setE 11 (.int .i64 (i0 : Nat)) s.env, l := (y, .cells 77 C) :: (B + 1, .cells 77 [.int .i64 0, .int .i64 0, .int .i64 0, .int .i64 0, .emp]) :: (B, .cells 77 [.int .i64 e.kind, .int .i64 e.n, .int .i64 e.a.kind, .int .i64 e.a.at', .sl 77 y 0 i0]) :: D, M := M0 }) (e.kids.length) ?_ ?_
    ·
      refine .of' _ _ ⟨0, B + 3, B + 2, [], [], by omega, .nil, by omega, by omega, by omega, by simp [inR_cons, inR_nil], rfl, rfl⟩ ?_ ?_ ?_ <;> exact L_
    rintro r s' ⟨i0, M0, y, C, D, hir, hO1, hy, hyM, hM0, hI, hk, rfl⟩
    try refine S_ ?_
    refine g_ [1,2,9,10,11,12] ?_
    refine c_ (fun hc0 => ?_) fun hc0 => ?_
    ·
      have hl0 : i0 < e.kids.length := by omega
      have hks := Ex.kid_sz (e := e) (k := i0) (by omega)
      have hCl : C.length = i0 * 5 := by rw [hO1.len]; exact flat_take_len cs_len (by omega)
      obtain ⟨nk, hnk⟩ : ∃ nk, nk = (e.kids.getD i0 default).nS := ⟨_, rfl⟩
      have h1 : ∀ j, j ∈ List.map Prod.fst D → B + 2 ≤ j ∧ j < M0 ∧ j ≠ y := fun j hj => by
        obtain ⟨q, hq, rfl⟩ := List.mem_map.1 hj
        have h9 := inR_cons.1 hI
        have := h9.2.2.at' q hq
        exact ⟨this.1, this.2, h9.2.1 q hq⟩
      have hDn : (List.map Prod.fst D).Nodup := (inR_cons.1 hI).2.2.nd
      refine g_ [1,2,5,9,10,11] ?_
      refine drG_ mixed [1,2,9,10,11] (nk + 2) 3 3 [] [] (List.range' (M0 + 1) nk) [B, M0, y, M0 + 1 + nk, M0 + 1 + nk + 1] [⟨[1],[],[],[],false⟩,⟨[15],[0],[],[],false⟩,⟨[5],[1],[],[],false⟩,⟨[17],[],[],[],true⟩,⟨[18],[],[],[3],false⟩,⟨[16,19],[2,3],[2],[4],false⟩,⟨[1],[],[],[],false⟩,⟨[20,21],[0],[0],[],false⟩] [0,1,2] [4,5,6,7] [[],[0],[],[2],[2,3],[0,1,2,3,4],[0,1,2,3,4,5],[0,1,2,3,4,5,6]] 5 ?_ ?_ ?_ ?_ ?_ ?_
      · simp; omega
      · intro n hn
        simp at hn
        show M0 + 1 ≤ n ∧ n < M0 + 1 + (nk + 2)
        omega
      · exact List.nodup_range'
      · intro n hn
        have := List.mem_range'_1.1 hn
        show M0 + 1 ≤ n ∧ n < M0 + 1 + (nk + 2)
        omega
      · intro j hj hjt
        have hj : j ∈ List.range' (M0 + 1) nk := by simpa using hj
        have := List.mem_range'_1.1 hj
        simp at hjt
        omega
      intro O A K hO hA hK;simp only [atL_cons,atL_nil,Nat.reduceAdd,Nat.zero_add] at hO hA
      simp -implicitDefEqProofs (disch := omega) only [go_sem, hCl, hO, hA]
      refine kG2_new (first := []) (cap := []) (ps := [.agg (e.kids.getD i0 default).cs]) (Ω := OwnR Tryz.prog wA (e.kids.getD i0 default).cs) (by rw [List.length_range', hnk]; exact ih (e.kids.getD i0 default) (by omega) (by omega)) Tryz.call89 rfl rfl ⟨rfl, rfl, rfl⟩ T_ rfl F_ ?_ ?_ ?_
      · simp only [ksL, List.map_cons, List.nodup_cons, List.mem_cons, not_or]
        repeat' apply And.intro
        all_goals first | omega | exact hDn | (intro hj; have := h1 _ hj; omega)
      · intro g hg
        have := List.mem_range'_1.1 hg
        refine ⟨fun hx => ?_, by show B ≤ g; omega⟩
        simp only [ksL, List.map_cons, List.mem_cons] at hx
        rcases hx with h | h | h | h | h
        · omega
        · omega
        · omega
        · omega
        · have := h1 _ h; omega
      rintro out ⟨ci, T, hO2, hkT, rfl⟩
      refine ⟨_, _, rfl, fun p hp => hkT ▸ ksL_mem hp, ?_⟩
      obtain ⟨id, rfl, hO3⟩ := own_ex2 hO2
      unfold contG
      simp -implicitDefEqProofs (disch := omega) only [go_sem, hO, hA, hCl]
      refine hK _ (S_ ?_);clear hK K hO hA O A
      refine g_ [1,2,9,10,11] ?_
      have h2 : ∀ j, j ∈ List.map Prod.fst T → M0 + 1 ≤ j ∧ j < M0 + 1 + nk := fun j hj => by
        have hj : j ∈ ksL T := hj
        rw [hkT] at hj
        exact List.mem_range'_1.1 hj
      have h3 : (List.map Prod.fst T).Nodup := by show (ksL T).Nodup; rw [hkT]; exact List.nodup_range'
      have h4 : (List.map Prod.fst D ++ List.map Prod.fst T).Nodup := List.nodup_append.2 ⟨hDn, h3, fun a ha b hb e => by have := h1 a ha; have := h2 b hb; omega⟩
      have hdel : dell y (D ++ T) = D ++ T := dell_out (by
        rw [ksL_app]
        intro hx
        rcases List.mem_append.1 hx with hx | hx
        · exact (h1 y hx).2.2 rfl
        · have := h2 y hx; omega)
      rw [hdel]
      have hID : InR (B + 2) (M0 + 1 + nk) (D ++ T) := (inR_cons.1 hI).2.2.app ((inR_range hkT).mono (by omega) (Nat.le_refl _)) (by omega) (by omega)
      have hIN : InR (B + 2) (M0 + 1 + nk + 1 + 1) ((M0 + 1 + nk + 1, .dfr 0) :: (D ++ T)) := (hID.mono (Nat.le_refl _) (by omega)).top (by omega)
      refine .of' _ _ ⟨r - 1, by omega, i0 + 1, _, M0 + 1 + nk + 1, _, D ++ T, by omega, hO1.snoc hl0 hO2, by omega, ?_, ?_, hIN.mono (Nat.le_refl _) ?_, ?_, rfl⟩ ?_ ?_ ?_
      · show M0 + 1 + nk + 1 < M0 + 1 + (nk + 2); omega
      · show B + 3 ≤ M0 + 1 + (nk + 2); omega
      · show M0 + 1 + nk + 1 + 1 ≤ M0 + 1 + (nk + 2); omega
      · rw [ksL_app, List.length_append, hk, hkT, List.length_range', Ex.nSL_take _ _ hl0, hnk]
      · exact L_
      · refine subL_of ?_ ?_
        · simp only [ksL, List.map_cons, List.map_append, List.nodup_cons, List.mem_cons, List.mem_append, not_or]
          repeat' apply And.intro
          all_goals first | omega | exact h4 | (intro hj; have := h1 _ hj; omega) | (intro hj; have := h2 _ hj; omega)
        · intro p hp
          simp only [List.mem_cons, List.cons_append, List.nil_append, List.mem_append] at hp ⊢
          rcases hp with h | h | h | h | h <;> simp [h]
      · refine keepB_of (fun p hp => ?_)
        left
        show B ≤ p.1
        simp only [List.mem_cons, List.mem_append] at hp
        have hk : ∀ q : Nat × AObj, q ∈ D → B ≤ q.1 := fun q hq => by have := h1 q.1 (List.mem_map_of_mem hq); omega
        have hk2 : ∀ q : Nat × AObj, q ∈ T → B ≤ q.1 := fun q hq => by have := h2 q.1 (List.mem_map_of_mem hq); omega
        repeat' (rcases hp with rfl | hp)
        all_goals first | (dsimp only; omega) | exact hk _ hp | exact hk2 _ hp | (rcases hp with hp | hp <;> first | exact hk _ hp | exact hk2 _ hp)
    refine g_ [2] ?_
    refine wpM_ret ?_
    try refine S_ ?_
    obtain rfl : i0 = e.kids.length := by omega
    rw [List.take_length] at hO1 hk
    obtain ⟨g1, g2, g3⟩ := inR_cons.1 hI
    have hyD : ∀ q ∈ D, q.1 ≠ y ∧ B + 2 ≤ q.1 := fun q hq => ⟨g2 q hq, (g3.at' q hq).1⟩
    refine hQ _ _ (retOwnI (M := M0) (.inr rfl) ((y, .cells 77 C) :: D) (cs := [.int .i64 e.kind, .int .i64 e.n, .int .i64 e.a.kind, .int .i64 e.a.at', .sl 77 y 0 e.kids.length]) ?_ rfl rfl rfl (by rw [Tryz.results89] <;> simp (maxSteps := 1000000) -implicitDefEqProofs (disch := omega) only [go_sem] <;> rfl) ?_ ?_ ?_ ?_)
    · rw [Ex.cs_eq]
      refine Owns.lits [.int .i64 e.kind, .int .i64 e.n, .int .i64 e.a.kind, .int .i64 e.a.at'] rfl (ownsSl y e.kids.length (Ex.csL_len _) (by rw [cellsOf77]; decide) (fun x hx => ?_) (by rw [← Ex.csL_map] at hO1; exact hO1))
      rw [Ex.csL_map, List.mem_map] at hx
      obtain ⟨e', _, rfl⟩ := hx
      rw [cellsOf77]; exact ⟨cs_len e', cs_pureL e'⟩
    · rw [hns]; simp only [ksL, List.map_cons, List.length_cons] at hk ⊢; omega
    · show InR B M0 ((y, _) :: (B + 1, _) :: (B, _) :: D)
      refine inR_cons.2 ⟨⟨by omega, by omega⟩, fun q hq => ?_, inR_cons.2 ⟨⟨by omega, by omega⟩, fun q hq => ?_, inR_cons.2 ⟨⟨by omega, by omega⟩, fun q hq => ?_, g3.mono (by omega) (Nat.le_refl _)⟩⟩⟩
      · simp only [List.mem_cons] at hq
        rcases hq with rfl | rfl | hq
        · show B + 1 ≠ y; omega
        · show B ≠ y; omega
        · exact (hyD q hq).1
      · simp only [List.mem_cons] at hq
        rcases hq with rfl | hq
        · show B ≠ B + 1; omega
        · have := (hyD q hq).2; omega
      · have := (hyD q hq).2; omega
    · intro q hq
      simp only [List.mem_cons] at hq ⊢
      rcases hq with rfl | hq <;> simp_all
    · simp only [ksL, List.map_cons, List.nodup_cons]
      refine ⟨fun hx => ?_, g3.nd⟩
      obtain ⟨q, hq, e2⟩ := List.mem_map.1 hx
      exact g2 q hq e2
end Go.Proofs.YtnmfmeehmieifaaGreat
namespace Go.Proofs.YtnmfmeehmieifaaGreat
open Go Sg
set_option maxRecDepth 100000
set_option linter.unusedSimpArgs false
set_option linter.unusedVariables false
set_option linter.unusedSectionVars false
set_option maxHeartbeats 4000000
variable [Glob]
mutual
def Sm.nS : Sm → Nat | .mk _ _ e th el => e.nS + (1 + Sm.nSL th) + (1 + Sm.nSL el)
def Sm.nSL : List Sm → Nat | [] => 0 | s :: l => s.nS + Sm.nSL l
end
theorem Sm.nS_eq (s : Sm) : s.nS = s.e.nS + (1 + Sm.nSL s.th) + (1 + Sm.nSL s.el) := by cases s; simp only [Sm.nS, Sm.e, Sm.th, Sm.el]
theorem Sm.nSL_take (l : List Sm) (i : Nat) (h : i < l.length) : Sm.nSL (l.take (i + 1)) = Sm.nSL (l.take i) + (l.getD i default).nS := by
  have key : ∀ l : List Sm, Sm.nSL l = (l.map Sm.nS).sum := by
    intro l
    induction l with
    | nil => rfl
    | cons e l ih => simp [Sm.nSL, ih]
  rw [key, key, List.take_succ_eq_append_getElem h, List.map_append, List.sum_append]
  simp [List.getD, h]
def TyS (l : List Sm) : Prop := CallF Tryz.prog 9 [.rows 72 (Sm.lcsL l)] [] (1 + Sm.nSL l) (OwnR Tryz.prog id [.rows 79 (Sm.csL l)])
theorem own_stmL {l : List Sm} {cs : List PV} {T : List (Nat × AObj)} (h : Owns Tryz.prog cs [.rows 79 (Sm.csL l)] T) : ∃ id c0 T0, cs = [.sl 79 id 0 l.length] ∧ T = (id, .cells 79 c0) :: T0 ∧ Owns Tryz.prog c0 (Sm.csL l).flatten T0 := by
  obtain ⟨id, c0, T0, cs', T', rfl, rfl, h0, h1, _, _⟩ := h.rows
  obtain ⟨rfl, rfl⟩ := h1.none
  exact ⟨id, c0, T0, by rw [Sm.csL_len], by rw [List.append_nil], h0⟩
theorem own_stm {s : Sm} {cs : List PV} {T : List (Nat × AObj)} (h : Owns Tryz.prog cs s.cs T) : ∃ z p q Tryz' Tp Tq, cs = [.int .i64 s.kind, .int .i64 s.to'.kind, .int .i64 s.to'.at', .int .i64 s.e.kind, .int .i64 s.e.n, .int .i64 s.e.a.kind, .int .i64 s.e.a.at', .sl 77 z 0 s.e.kids.length, .sl 79 p 0 s.th.length, .sl 79 q 0 s.el.length] ∧ T = Tryz' ++ (Tp ++ Tq) ∧ Owns Tryz.prog [.sl 77 z 0 s.e.kids.length] [.rows 77 (Ex.csL s.e.kids)] Tryz' ∧ Owns Tryz.prog [.sl 79 p 0 s.th.length] [.rows 79 (Sm.csL s.th)] Tp ∧ Owns Tryz.prog [.sl 79 q 0 s.el.length] [.rows 79 (Sm.csL s.el)] Tq := by
  rw [Sm.cs_eq] at h
  obtain ⟨c1, rfl, g1⟩ := h.lit rfl
  obtain ⟨c2, rfl, g2⟩ := g1.lit rfl
  obtain ⟨c3, rfl, g3⟩ := g2.lit rfl
  obtain ⟨c4, rfl, g4⟩ := g3.lit rfl
  obtain ⟨c5, rfl, g5⟩ := g4.lit rfl
  obtain ⟨c6, rfl, g6⟩ := g5.lit rfl
  obtain ⟨c7, rfl, g7⟩ := g6.lit rfl
  obtain ⟨d1, d2, T1, T2, rfl, rfl, h1, h2⟩ := Owns.split (q1 := [.rows 77 (Ex.csL s.e.kids)]) (q2 := [.rows 79 (Sm.csL s.th), .rows 79 (Sm.csL s.el)]) g7
  obtain ⟨d3, d4, T3, T4, rfl, rfl, h3, h4⟩ := Owns.split (q1 := [.rows 79 (Sm.csL s.th)]) (q2 := [.rows 79 (Sm.csL s.el)]) h2
  obtain ⟨z, _, _, rfl, _, _⟩ := own_exL h1
  obtain ⟨p, _, _, rfl, _, _⟩ := own_stmL h3
  obtain ⟨q, _, _, rfl, _, _⟩ := own_stmL h4
  exact ⟨z, p, q, T1, T3, T4, rfl, rfl, h1, h3, h4⟩
theorem own_stmC {s : Sm} {z p q : Nat} {T1 T2 T3 : List (Nat × AObj)} (h1 : Owns Tryz.prog [.sl 77 z 0 s.e.kids.length] [.rows 77 (Ex.csL s.e.kids)] T1) (h2 : Owns Tryz.prog [.sl 79 p 0 s.th.length] [.rows 79 (Sm.csL s.th)] T2) (h3 : Owns Tryz.prog [.sl 79 q 0 s.el.length] [.rows 79 (Sm.csL s.el)] T3) :
    Owns Tryz.prog [.int .i64 s.kind, .int .i64 s.to'.kind, .int .i64 s.to'.at', .int .i64 s.e.kind, .int .i64 s.e.n, .int .i64 s.e.a.kind, .int .i64 s.e.a.at', .sl 77 z 0 s.e.kids.length, .sl 79 p 0 s.th.length, .sl 79 q 0 s.el.length] s.cs (T1 ++ (T2 ++ T3)) := by
  rw [Sm.cs_eq]
  exact Owns.lits [.int .i64 s.kind, .int .i64 s.to'.kind, .int .i64 s.to'.at', .int .i64 s.e.kind, .int .i64 s.e.n, .int .i64 s.e.a.kind, .int .i64 s.e.a.at'] rfl (h1.app (h2.app h3))
theorem toStmtT' (s : Sm) (he : kz s.e ≤ 1048576) (ih1 : TyS s.th) (ih2 : TyS s.el) : CallF Tryz.prog 41 [.agg s.lcs] [] s.nS (OwnR Tryz.prog wA s.cs) := by
  have hE : CallF Tryz.prog 87 [.agg [.int .i64 s.e.kind, .int .i64 s.e.n, .int .i64 s.e.a.kind, .int .i64 s.e.a.at', .rows 70 (Ex.lcsL s.e.kids)]] [] s.e.nS (OwnR Tryz.prog wA s.e.cs) := by
    rw [← Ex.lcs_eq]; exact toExprT_ok s.e he
  rw [Sm.nS_eq]
  refine callF_of' Tryz.func41 rfl Tryz.ntmps41 (by simp) ?_
  intro f0 B ns Q hB hns hQ
  refine g_ [1,2] ?_
  refine g_ [1,2,3] ?_
  refine g_ [1,2,3] ?_
  refine n_ ?_
  refine wpM_regionK [1,2,3] rfl fun Q1 hQ1 => ?_
  refine S_ ?_
  refine cp_ (toAddr_ok s.to') Tryz.call86 ?_
  refine hQ1 _ _ (S_ ?_);clear hQ1 Q1
  refine n_ ?_
  refine wpM_regionK [1,2,3] rfl fun Q1 hQ1 => ?_
  refine S_ ?_
  refine call_own hE Tryz.call87 rfl rfl rfl F_ (by simp [inR_cons, inR_nil] <;> omega) (by show B ≤ B + 3; omega) ?_
  intro cs1 T1 hO1 hI1 hk1
  obtain ⟨z, rfl, hO1'⟩ := own_ex2 hO1
  dsimp only at hI1 hk1
  refine S_ ?_
  refine hQ1 _ _ (S_ ?_);clear hQ1 Q1
  refine n_ ?_
  refine wpM_regionK [1,2,3] rfl fun Q1 hQ1 => ?_
  refine S_ ?_
  refine call_own (ps := [.rows 72 (Sm.lcsL s.th)]) ih1 Tryz.call9 rfl rfl rfl F_ (InR.app (l := [_, _, _]) (M := B + 3) (by simp [inR_cons, inR_nil] <;> omega) hI1 (by show B ≤ B + 3; omega) (by first | omega | (dsimp only; omega))) (by show B ≤ B + 3 + s.e.nS; omega) ?_
  intro cs2 T2 hO2 hI2 hk2
  obtain ⟨p, _, _, rfl, _, _⟩ := own_stmL hO2
  dsimp only at hI2 hk2
  have hI12 := hI1.app hI2 (by omega) (by omega)
  refine S_ ?_
  refine hQ1 _ _ (S_ ?_);clear hQ1 Q1
  refine n_ ?_
  refine wpM_regionK [2,3] rfl fun Q1 hQ1 => ?_
  refine S_ ?_
  refine call_own (ps := [.rows 72 (Sm.lcsL s.el)]) ih2 Tryz.call9 rfl rfl rfl F_ (InR.app (l := [_, _, _]) (M := B + 3) (by simp [inR_cons, inR_nil] <;> omega) hI12 (by show B ≤ B + 3; omega) (by first | omega | (dsimp only; omega))) (by show B ≤ B + 3 + s.e.nS + (1 + Sm.nSL s.th); omega) ?_
  intro cs3 T3 hO3 hI3 hk3
  obtain ⟨q, _, _, rfl, _, _⟩ := own_stmL hO3
  dsimp only at hI3 hk3
  have hI123 := hI12.app hI3 (by omega) (by omega)
  refine S_ ?_
  refine hQ1 _ _ (S_ ?_);clear hQ1 Q1
  refine g_ [2] ?_
  refine wpM_ret ?_
  try refine S_ ?_
  refine hQ _ _ (retOwnI (M := B + 3 + s.e.nS + (1 + Sm.nSL s.th) + (1 + Sm.nSL s.el)) (.inr rfl) (T1 ++ (T2 ++ T3)) (own_stmC hO1' hO2 hO3) rfl rfl rfl (by rw [Tryz.results41] <;> simp (maxSteps := 1000000) -implicitDefEqProofs (disch := omega) only [go_sem] <;> rfl) ?_ ?_ ?_ (by rw [← List.append_assoc]; exact hI123.nd))
  · rw [hns, ksL_app, ksL_app, List.length_append, List.length_append]; omega
  · exact InR.app (l := [_, _, _]) (M := B + 3) (by simp [inR_cons, inR_nil] <;> omega) hI123 (by show B ≤ B + 3; omega) (by first | omega | (dsimp only; omega))
  · intro t ht
    rw [← List.append_assoc] at ht
    exact List.mem_cons_of_mem _ (List.mem_cons_of_mem _ (List.mem_cons_of_mem _ ht))
theorem toStmtST_ok : ∀ (N : Nat) (l : List Sm), Sm.bzL l ≤ N → Sm.bzL l ≤ 1048576 → TyS l := by
  intro N
  induction N using Nat.strongRecOn with
  | _ N ih =>
    intro l hN hs
    have hll := Sm.bzL_sum l
    unfold TyS
    refine callF_of' Tryz.func9 rfl Tryz.ntmps9 (by simp) ?_
    intro f0 B ns Q hB hns hQ
    refine g_ [0] ?_
    refine g_ [0,3] ?_
    refine g_ [0,3,4] ?_
    refine n_ ?_
    refine wpM_loopS (fun s r s' => ∃ (i0 M0 : Nat) (C : List PV) (D : List (Nat × AObj)), i0 + r = l.length ∧ Owns Tryz.prog C ((l.take i0).map Sm.cs).flatten D ∧ B + 1 ≤ M0 ∧ InR (B + 1) M0 D ∧ (ksL D).length = Sm.nSL (l.take i0) ∧ s' = { s with env := setE 4 (.int .i64 (i0 : Nat)) s.env, l := (B, .cells 79 (C ++ rep (l.length - i0) sZ)) :: D, M := M0 }) (l.length) ?_ ?_
    ·
      refine .of' _ _ ⟨0, B + 1, [], [], by omega, .nil, Nat.le_refl _, inR_nil, rfl, rfl⟩ ?_ ?_ ?_ <;> exact L_
    rintro r s' ⟨i0, M0, C, D, hir, hO, hM, hI, hk, rfl⟩
    try refine S_ ?_
    refine g_ [0,3,4,11] ?_
    refine c_ (fun hc0 => ?_) fun hc0 => ?_
    ·
      have hl0 : i0 < l.length := by omega
      have hCl : C.length = i0 * 10 := by rw [hO.len]; exact flat_take_len scs_len (by omega)
      have hfl := fill_len (z := sZ) (n := l.length) hCl rfl (by omega)
      have hg := sum_get Sm.bz l i0 hl0
      rw [Sm.bz_eq] at hg
      refine n_ ?_
      refine wpM_regionK [0,3,4] rfl fun Q1 hQ1 => ?_
      simp -implicitDefEqProofs (disch := omega) only [go_sem, hfl]
      refine call_own (ps := [.agg (l.getD i0 default).lcs]) (toStmtT' (l.getD i0 default) (by omega) (ih _ (by omega) _ (Nat.le_refl _) (by omega)) (ih _ (by omega) _ (Nat.le_refl _) (by omega))) Tryz.call41 rfl rfl rfl F_ (hI.push (Nat.le_refl _) hM) (by show B ≤ M0; omega) ?_
      intro cs T hO2 hI2 hk2
      obtain ⟨z, p, q, Tryz', Tp, Tq, rfl, hT, _, _, _⟩ := own_stm hO2
      dsimp only at hI2 hk2
      simp -implicitDefEqProofs (disch := omega) only [go_sem, hfl]
      refine hQ1 _ _ (S_ ?_);clear hQ1 Q1
      refine g_ [0,3,4] ?_
      have hsp := splice_fill (z := sZ) (v := [PV.int .i64 (l.getD i0 default).kind, .int .i64 (l.getD i0 default).to'.kind, .int .i64 (l.getD i0 default).to'.at', .int .i64 (l.getD i0 default).e.kind, .int .i64 (l.getD i0 default).e.n, .int .i64 (l.getD i0 default).e.a.kind, .int .i64 (l.getD i0 default).e.a.at', .sl 77 z 0 (l.getD i0 default).e.kids.length, .sl 79 p 0 (l.getD i0 default).th.length, .sl 79 q 0 (l.getD i0 default).el.length]) hCl rfl rfl hl0
      have hI3 := hI.app hI2 hM (by omega)
      rw [hsp]
      refine .of' _ _ ⟨r - 1, by omega, i0 + 1, _, _, D ++ T, by omega, hO.snoc hl0 hO2, by omega, hI3, by rw [ksL_app, List.length_append, hk, hk2, Sm.nSL_take l i0 hl0], rfl⟩ ?_ ?_ ?_
      · exact L_
      · exact subL_of (hI3.push (k := B) (Nat.le_refl _) (by omega)).nd (fun p hp => hp)
      · exact (hI3.push (k := B) (Nat.le_refl _) (by omega)).keep
    refine g_ [2] ?_
    refine wpM_ret ?_
    try refine S_ ?_
    obtain rfl : i0 = l.length := by omega
    rw [List.take_of_length_le (Nat.le_refl _)] at hO hk
    refine hQ _ _ (retOwnI (M := M0) (.inl rfl) ((B, .cells 79 (C ++ rep (l.length - l.length) sZ)) :: D) ?_ rfl rfl rfl (by rw [Tryz.results9] <;> simp (maxSteps := 1000000) -implicitDefEqProofs (disch := omega) only [go_sem] <;> rfl) ?_ (hI.push (k := B) (Nat.le_refl _) hM) (fun q hq => hq) (hI.push (k := B) (Nat.le_refl _) hM).nd)
    · rw [← Sm.csL_map] at hO
      refine ownsSl B l.length (Sm.csL_len l) (by rw [cellsOf79]; decide) (fun x hx => ?_) (by simpa [rep] using hO)
      rw [Sm.csL_map, List.mem_map] at hx
      obtain ⟨e, _, rfl⟩ := hx
      rw [cellsOf79]; exact ⟨scs_len e, scs_pureL e⟩
    · rw [hns]; simp only [ksL, List.map_cons, List.length_cons] at hk ⊢; omega
mutual
def Sm.wS : Sm → Nat | .mk _ _ e th el => 7 + 4 * Ex.szL e.kids + Sm.wSL th + Sm.wSL el
def Sm.wSL : List Sm → Nat | [] => 0 | s :: l => s.wS + Sm.wSL l
end
theorem Sm.wS_eq (s : Sm) : s.wS = 7 + 4 * Ex.szL s.e.kids + Sm.wSL s.th + Sm.wSL s.el := by cases s; simp only [Sm.wS, Sm.e, Sm.th, Sm.el]
theorem Sm.wSL_sum (l : List Sm) : Sm.wSL l = (l.map Sm.wS).sum := by
  induction l with
  | nil => rfl
  | cons e l ih => simp only [Sm.wSL, ih, List.map_cons, List.sum_cons]
theorem Sm.wSL_le : ∀ (N : Nat) (l : List Sm), Sm.bzL l ≤ N → Sm.wSL l ≤ 7 * Sm.bzL l := by
  intro N
  induction N using Nat.strongRecOn with
  | _ N ih =>
    intro l
    induction l with
    | nil => intro _; simp [Sm.wSL]
    | cons s l ihl =>
      intro hN
      simp only [Sm.bzL] at hN ⊢
      have h1 := s.wS_eq
      have h2 := s.bz_eq
      have h4 := ih (Sm.bzL s.th) (by omega) s.th (Nat.le_refl _)
      have h5 := ih (Sm.bzL s.el) (by omega) s.el (Nat.le_refl _)
      have h6 := ihl (by omega)
      simp only [Sm.wSL]
      unfold kz at h2
      omega
mutual
def Sm.mk' (k : Int) : Sm → Sm | .mk _ _ e th el => .mk k ⟨k + 1, k + 1 + 1⟩ (Ex.mk' (k + 1 + 1 + 1) e) (Sm.mkL (k + 1 + 1 + 1 + 1 + 1 + 1 + 1 + 4 * (Ex.szL e.kids : Nat)) th) (Sm.mkL (k + 1 + 1 + 1 + 1 + 1 + 1 + 1 + 4 * (Ex.szL e.kids : Nat) + (Sm.wSL th : Nat)) el)
def Sm.mkL (k : Int) : List Sm → List Sm | [] => [] | s :: l => Sm.mk' k s :: Sm.mkL (k + (s.wS : Nat)) l
end
theorem Sm.mk_eq (k : Int) (s : Sm) : Sm.mk' k s = .mk k ⟨k + 1, k + 1 + 1⟩ (Ex.mk' (k + 1 + 1 + 1) s.e) (Sm.mkL (k + 1 + 1 + 1 + 1 + 1 + 1 + 1 + 4 * (Ex.szL s.e.kids : Nat)) s.th) (Sm.mkL (k + 1 + 1 + 1 + 1 + 1 + 1 + 1 + 4 * (Ex.szL s.e.kids : Nat) + (Sm.wSL s.th : Nat)) s.el) := by cases s; simp only [Sm.mk', Sm.e, Sm.th, Sm.el]
theorem Sm.mkL_len (l : List Sm) : ∀ k : Int, (Sm.mkL k l).length = l.length := by
  induction l with
  | nil => intro k; rfl
  | cons e l ih => intro k; simp [Sm.mkL, ih]
theorem Sm.wSL_take (l : List Sm) (i : Nat) (h : i < l.length) : Sm.wSL (l.take (i + 1)) = Sm.wSL (l.take i) + (l.getD i default).wS := by
  rw [Sm.wSL_sum, Sm.wSL_sum]; exact sum_take Sm.wS l i h
theorem Sm.mkL_take (l : List Sm) (i : Nat) (h : i < l.length) : ∀ k : Int, Sm.mkL k (l.take (i + 1)) = Sm.mkL k (l.take i) ++ [Sm.mk' (k + (Sm.wSL (l.take i) : Nat)) (l.getD i default)] := by
  induction l generalizing i with
  | nil => simp at h
  | cons e l ih =>
    intro k
    cases i with
    | zero => simp [Sm.mkL, Sm.wSL]
    | succ i =>
      have := ih i (by simpa using h) (k + (e.wS : Nat))
      simp only [List.take_succ_cons, Sm.mkL, List.getD_cons_succ, List.cons_append, Sm.wSL] at this ⊢
      rw [this]
      congr 4
      push_cast; omega
end Go.Proofs.YtnmfmeehmieifaaGreat
namespace Go.Proofs.YtnmfmeehmieifaaGreat
open Go Sg
set_option maxRecDepth 100000
set_option linter.unusedSimpArgs false
set_option linter.unusedVariables false
set_option linter.unusedSectionVars false
set_option maxHeartbeats 4000000
variable [Glob]
theorem range3 (a b c d : Nat) : List.range' a b ++ (List.range' (a + b) c ++ List.range' (a + b + c) d) = List.range' a (b + (c + d)) := by
  rw [List.range'_append_1, List.range'_append_1]
theorem icopyST_ok : ∀ (N : Nat) (l : List Sm), Sm.szL l = N → Sm.szL l ≤ 1099511627776 → CallF Tryz.prog 43 [.rows 79 (Sm.csL l)] [] (1 + Sm.nSL l) (OwnR Tryz.prog id [.rows 79 (Sm.csL l)]) := by
  intro N
  induction N using Nat.strongRecOn with
  | _ N ih =>
    intro l hN hs
    have hlen := Sm.len_szL l
    refine callF_of' Tryz.func43 rfl Tryz.ntmps43 (by simp) ?_
    intro f0 B ns Q hB hns hQ
    refine g_ [0] ?_
    refine g_ [0,3] ?_
    refine g_ [3,6,7,8] ?_
    refine wpM_nil 79 [(3, .sl 79 B 0 0), (6, .rows 79 (Sm.csL l)), (7, .int .i64 (l.length : Nat)), (8, .int .i64 0)] [] T_ T_ T_ ?_
    refine S_ ?_
    refine n_ ?_
    refine wpM_loopS (fun q r s' => ∃ (i M Y : Nat) (C : List PV) (D : List (Nat × AObj)), i + r = l.length ∧ Owns Tryz.prog C ((l.take i).map Sm.cs).flatten D ∧ B ≤ Y ∧ Y < M ∧ InR B M ((Y, .dfr 0) :: D) ∧ (ksL D).length = Sm.nSL (l.take i) ∧ s' = { q with env := setE 8 (.int .i64 (i : Nat)) (setE 3 (.sl 79 Y 0 i) q.env), l := (Y, .cells 79 C) :: D, M := M }) (l.length) ?_ ?_
    ·
      refine .of' _ _ ⟨0, B + 1, B, [], [], by omega, .nil, Nat.le_refl _, by omega, by simp [inR_cons, inR_nil], rfl, rfl⟩ ?_ ?_ ?_ <;> exact L_
    rintro r s' ⟨i, M, Y, C, D, hir, hO, hBY, hYM, hI, hk, rfl⟩
    try refine S_ ?_
    refine g_ [3,6,7,8,9] ?_
    refine c_ (fun hc0 => ?_) fun hc0 => ?_
    ·
      have hil : i < l.length := by simpa using hc0
      have hin := Sm.get_in hil
      have hCl : C.length = i * 10 := by rw [hO.len]; exact flat_take_len scs_len (by omega)
      have hDn : (List.map Prod.fst D).Nodup := (inR_cons.1 hI).2.2.nd
      have h1 : ∀ j, j ∈ List.map Prod.fst D → B ≤ j ∧ j < M ∧ j ≠ Y := fun j hj => by
        obtain ⟨q, hq, rfl⟩ := List.mem_map.1 hj
        have h9 := inR_cons.1 hI
        have := h9.2.2.at' q hq
        exact ⟨this.1, this.2, h9.2.1 q hq⟩
      have ce : (l.getD i default).e.sz ≤ 1099511627776 := by omega
      have hE := icopyET_ok (l.getD i default).e.sz (l.getD i default).e (Nat.le_refl _) ce
      rw [Ex.cs_eq] at hE
      have hT := ih _ (by omega) (l.getD i default).th rfl (by omega)
      have hL := ih _ (by omega) (l.getD i default).el rfl (by omega)
      obtain ⟨n1, hn1⟩ : ∃ n, n = (l.getD i default).e.nS := ⟨_, rfl⟩
      obtain ⟨n2, hn2⟩ : ∃ n, n = 1 + Sm.nSL (l.getD i default).th := ⟨_, rfl⟩
      obtain ⟨n3, hn3⟩ : ∃ n, n = 1 + Sm.nSL (l.getD i default).el := ⟨_, rfl⟩
      rw [← hn1] at hE
      rw [← hn2] at hT
      rw [← hn3] at hL
      refine g_ [3,5,6,7,8] ?_
      refine n_ ?_
      refine drG3_ mixed [3,5,6,7,8] (n1 + (n2 + n3)) 1 2 5 8 (List.range' (M + 1) n1) (List.range' (M + 1 + n1) n2) (List.range' (M + 1 + n1 + n2) n3) [M] [⟨[5],[],[],[],false⟩,⟨[12],[0],[],[],false⟩,⟨[13],[],[],[],true⟩,⟨[5],[],[],[],false⟩,⟨[15],[0],[],[],false⟩,⟨[16],[],[],[],true⟩,⟨[5],[],[],[],false⟩,⟨[18],[0],[],[],false⟩,⟨[19],[],[],[],true⟩,⟨[5],[],[],[],false⟩,⟨[14,21],[0],[0],[],false⟩,⟨[5],[],[],[],false⟩,⟨[17,22],[0],[0],[],false⟩,⟨[5],[],[],[],false⟩,⟨[20,23],[0],[0],[],false⟩] [0,1,3,4,6,7] [9] [] [10,11,12,13,14] [[],[0],[0,1],[],[3],[0,1,2,3,4],[],[6],[0,1,2,3,4,5,6,7],[0,1,2,3,4,6,7],[0,1,2,3,4,5,6,7,8,9],[0,1,2,3,4,5,6,7,8,9,10],[0,1,2,3,4,5,6,7,8,9,10,11],[0,1,2,3,4,5,6,7,8,9,10,11,12],[0,1,2,3,4,5,6,7,8,9,10,11,12,13]] 1 ?_ ?_ ?_ ?_ ?_ ?_
      · simp
      · simp
      · rw [range3]; exact List.nodup_range'
      · intro n hn
        rw [range3] at hn
        have := List.mem_range'_1.1 hn
        show M + 1 ≤ n ∧ n < M + 1 + (n1 + (n2 + n3))
        omega
      · intro j hj hjt
        rw [range3] at hj
        have := List.mem_range'_1.1 hj
        simp at hjt
        omega
      intro O A K hO hA hK;simp only [atL_cons,atL_nil,Nat.reduceAdd,Nat.zero_add] at hO hA
      refine SO_ ?_
      refine kG2_new (first := []) (cap := []) (ps := [.agg [.int .i64 (l.getD i default).e.kind, .int .i64 (l.getD i default).e.n, .int .i64 (l.getD i default).e.a.kind, .int .i64 (l.getD i default).e.a.at', .rows 77 (Ex.csL (l.getD i default).e.kids)]]) (by rw [List.length_range']; exact hE) Tryz.call89 rfl rfl ⟨rfl, rfl, rfl⟩ T_ rfl F_ ?_ ?_ ?_
      · simp only [ksL, List.map_cons, List.nodup_cons, List.mem_cons, not_or]
        repeat' apply And.intro
        all_goals first | omega | exact hDn | (intro hj; have := h1 _ hj; omega)
      · intro g hg
        have := List.mem_range'_1.1 hg
        refine ⟨fun hx => ?_, by show B ≤ g; omega⟩
        simp only [ksL, List.map_cons, List.mem_cons] at hx
        rcases hx with h | h | h
        · omega
        · omega
        · have := h1 _ h; omega
      rintro out ⟨c1, T1, hO1, hk1, rfl⟩
      refine ⟨_, _, rfl, fun p hp => hk1 ▸ ksL_mem hp, ?_⟩
      rw [← Ex.cs_eq] at hO1
      obtain ⟨z, rfl, hO1'⟩ := own_ex2 hO1
      have t1 : ∀ j, j ∈ List.map Prod.fst T1 → M + 1 ≤ j ∧ j < M + 1 + n1 := fun j hj => by
        have hj : j ∈ ksL T1 := hj
        rw [hk1] at hj
        exact List.mem_range'_1.1 hj
      have d1 : (List.map Prod.fst T1).Nodup := by show (ksL T1).Nodup; rw [hk1]; exact List.nodup_range'
      have e1 : (List.map Prod.fst D ++ List.map Prod.fst T1).Nodup := List.nodup_append.2 ⟨hDn, d1, fun a ha b hb e => by have := h1 a ha; have := t1 b hb; omega⟩
      unfold restG
      simp -implicitDefEqProofs (disch := omega) only [go_sem, hO, hA]
      refine kG2_new (first := []) (cap := []) (ps := [.rows 79 (Sm.csL (l.getD i default).th)]) (by rw [List.length_range']; exact hT) Tryz.call43 rfl rfl ⟨rfl, rfl, rfl⟩ T_ rfl F_ ?_ ?_ ?_
      · simp only [ksL, List.map_cons, List.map_append, List.nodup_cons, List.mem_cons, List.mem_append, not_or]
        repeat' apply And.intro
        all_goals first | omega | exact e1 | (intro hj; have := h1 _ hj; omega) | (intro hj; have := t1 _ hj; omega)
      · intro g hg
        have := List.mem_range'_1.1 hg
        refine ⟨fun hx => ?_, by show B ≤ g; omega⟩
        simp only [ksL, List.map_cons, List.map_append, List.mem_cons, List.mem_append] at hx
        rcases hx with h | h | h | h
        · omega
        · omega
        · have := h1 _ h; omega
        · have := t1 _ h; omega
      rintro out ⟨c2, T2, hO2, hk2, rfl⟩
      refine ⟨_, _, rfl, fun p hp => hk2 ▸ ksL_mem hp, ?_⟩
      obtain ⟨p, _, _, rfl, _, _⟩ := own_stmL hO2
      have t2 : ∀ j, j ∈ List.map Prod.fst T2 → M + 1 + n1 ≤ j ∧ j < M + 1 + n1 + n2 := fun j hj => by
        have hj : j ∈ ksL T2 := hj
        rw [hk2] at hj
        exact List.mem_range'_1.1 hj
      have d2 : (List.map Prod.fst T2).Nodup := by show (ksL T2).Nodup; rw [hk2]; exact List.nodup_range'
      have e2 : (List.map Prod.fst D ++ List.map Prod.fst T1 ++ List.map Prod.fst T2).Nodup := List.nodup_append.2 ⟨e1, d2, fun a ha b hb e => by
        have h9 := t2 b hb
        rcases List.mem_append.1 ha with ha | ha
        · have := h1 a ha; omega
        · have := t1 a ha; omega⟩
      simp -implicitDefEqProofs (disch := omega) only [go_sem, hO, hA]
      refine kG2_new (first := []) (cap := []) (ps := [.rows 79 (Sm.csL (l.getD i default).el)]) (by rw [List.length_range']; exact hL) Tryz.call43 rfl rfl ⟨rfl, rfl, rfl⟩ T_ rfl F_ ?_ ?_ ?_
      · simp only [ksL, List.map_cons, List.map_append, List.nodup_cons, List.mem_cons, List.mem_append, not_or]
        repeat' apply And.intro
        all_goals first | omega | exact e2 | (intro hj; have := h1 _ hj; omega) | (intro hj; have := t1 _ hj; omega) | (intro hj; have := t2 _ hj; omega)
      · intro g hg
        have := List.mem_range'_1.1 hg
        refine ⟨fun hx => ?_, by show B ≤ g; omega⟩
        simp only [ksL, List.map_cons, List.map_append, List.mem_cons, List.mem_append] at hx
        rcases hx with h | h | (h | h) | h
        · omega
        · omega
        · have := h1 _ h; omega
        · have := t1 _ h; omega
        · have := t2 _ h; omega
      rintro out ⟨c3, T3, hO3, hk3, rfl⟩
      refine ⟨_, _, rfl, fun p hp => hk3 ▸ ksL_mem hp, ?_⟩
      obtain ⟨q, _, _, rfl, _, _⟩ := own_stmL hO3
      have t3 : ∀ j, j ∈ List.map Prod.fst T3 → M + 1 + n1 + n2 ≤ j ∧ j < M + 1 + n1 + n2 + n3 := fun j hj => by
        have hj : j ∈ ksL T3 := hj
        rw [hk3] at hj
        exact List.mem_range'_1.1 hj
      have d3 : (List.map Prod.fst T3).Nodup := by show (ksL T3).Nodup; rw [hk3]; exact List.nodup_range'
      unfold contG
      simp -implicitDefEqProofs (disch := omega) only [go_sem, hO, hA]
      refine hK _ (S_ ?_);clear hK K hO hA O A
      refine wpM_regionK [3,6,7,8] rfl fun Q1 hQ1 => ?_
      simp -implicitDefEqProofs (disch := omega) only [go_sem, hCl]
      refine hQ1 _ _ (S_ ?_);clear hQ1 Q1
      refine g_ [3,6,7,8] ?_
      have hkT : ksL (T1 ++ (T2 ++ T3)) = List.range' (M + 1) (n1 + (n2 + n3)) := by rw [ksL_app, ksL_app, hk1, hk2, hk3, range3]
      have hIT := inR_range hkT
      have hIall : InR B (M + 1 + (n1 + (n2 + n3))) (D ++ (T1 ++ (T2 ++ T3))) := (inR_cons.1 hI).2.2.app (hIT.mono (by omega) (Nat.le_refl _)) (by omega) (by omega)
      have hMo : ∀ p ∈ D ++ (T1 ++ (T2 ++ T3)), p.1 ≠ M := fun p hp e => by
        rcases List.mem_append.1 hp with hp | hp
        · have := h1 p.1 (List.mem_map_of_mem hp); omega
        · have := (hIT.at' p hp).1; omega
      have hold : ∀ a b d : AObj, InR B (M + 1 + (n1 + (n2 + n3)) + 1 + 1) ((M + 1 + (n1 + (n2 + n3)) + 1, a) :: (M + 1 + (n1 + (n2 + n3)), b) :: (M, d) :: (D ++ (T1 ++ (T2 ++ T3)))) := fun a b d =>
        ((inR_cons.2 ⟨⟨by omega, by omega⟩, hMo, hIall⟩ : InR B (M + 1 + (n1 + (n2 + n3))) ((M, d) :: (D ++ (T1 ++ (T2 ++ T3))))).top (by omega)).top (by omega)
      have hYo : Y ∉ ksL (D ++ (T1 ++ (T2 ++ T3))) := fun hx => by
        rw [ksL_app] at hx
        rcases List.mem_append.1 hx with hx | hx
        · exact (h1 Y hx).2.2 rfl
        · rw [hkT] at hx
          have := List.mem_range'_1.1 hx; omega
      rw [List.append_assoc (D ++ T1) T2 T3, List.append_assoc D T1 (T2 ++ T3), dell_out hYo]
      have hE4 := own_stmC hO1' hO2 hO3
      refine .of' _ _ ⟨r - 1, by omega, i + 1, _, M + 1 + (n1 + (n2 + n3)) + 1, _, D ++ (T1 ++ (T2 ++ T3)), by omega, hO.snoc hil hE4, by omega, ?_, (hIall.mono (Nat.le_refl _) (Nat.le_succ _)).top (by omega), ?_, rfl⟩ ?_ ?_ ?_
      · show M + 1 + (n1 + (n2 + n3)) + 1 < M + 1 + (n1 + (n2 + n3)) + 1 + 1; omega
      · rw [ksL_app, List.length_append, hk, hkT, List.length_range', Sm.nSL_take _ _ hil, Sm.nS_eq, hn1, hn2, hn3]; omega
      · exact L_
      · refine subL_of (hold _ _ _).nd (fun p hp => ?_)
        simp only [List.mem_cons] at hp ⊢
        rcases hp with h | h <;> simp [h]
      · exact (hold _ _ _).keep
    refine g_ [2] ?_
    refine wpM_ret ?_
    try refine S_ ?_
    have hie : i = l.length := by simp at hc0; omega
    subst hie
    rw [List.take_length] at hO hk
    obtain ⟨g1, g2, g3⟩ := inR_cons.1 hI
    refine hQ _ _ (retOwnI (M := M) (.inl rfl) ((Y, .cells 79 C) :: D) (cs := [.sl 79 Y 0 l.length]) ?_ rfl rfl rfl (by rw [Tryz.results43] <;> simp (maxSteps := 1000000) -implicitDefEqProofs (disch := omega) only [go_sem] <;> rfl) ?_ (hI.ks rfl) (fun q hq => hq) (hI.ks rfl).nd)
    · refine ownsSl Y l.length (Sm.csL_len _) (by rw [cellsOf79]; decide) (fun x hx => ?_) (by rw [← Sm.csL_map] at hO; exact hO)
      rw [Sm.csL_map, List.mem_map] at hx
      obtain ⟨e', _, rfl⟩ := hx
      rw [cellsOf79]; exact ⟨scs_len e', scs_pureL e'⟩
    · rw [hns]; simp only [ksL, List.map_cons, List.length_cons] at hk ⊢; omega
end Go.Proofs.YtnmfmeehmieifaaGreat
namespace Go.Proofs.YtnmfmeehmieifaaGreat
open Go Sg
set_option maxRecDepth 100000
set_option linter.unusedSimpArgs false
set_option linter.unusedVariables false
set_option linter.unusedSectionVars false
set_option maxHeartbeats 4000000
variable [Glob]
def MkS (l : List Sm) : Prop := ∀ (x : Nat) (T : List (Nat × AObj)) (k : Int), Owns Tryz.prog [.sl 79 x 0 l.length] [.rows 79 (Sm.csL l)] T → (ksL T).Nodup → 0 ≤ k → k + (Sm.wSL l : Nat) ≤ 1000000000 → CallF Tryz.prog 12 [.sl 79 x 0 l.length, .int .i64 k] T 0 (SetR Tryz.prog [.sl 79 x 0 l.length] (k + (Sm.wSL l : Nat)) [.rows 79 (Sm.csL (Sm.mkL k l))] T)
theorem markStmtS_ok : ∀ (N : Nat) (l : List Sm), Sm.bzL l ≤ N → Sm.bzL l ≤ 4194304 → MkS l := by
  intro N
  induction N using Nat.strongRecOn with
  | _ N ih =>
    intro l hN hs x T k hO hnd hk0 hk1
    have hll := Sm.bzL_sum l
    obtain ⟨x', c0, T0, hx, rfl, h0⟩ := own_stmL hO
    obtain rfl : x = x' := by injection hx with hx _; injection hx
    rw [Sm.csL_map] at h0
    have hnd0 : x ∉ ksL T0 ∧ (ksL T0).Nodup := by simpa [ksL] using hnd
    refine callF_of' Tryz.func12 rfl Tryz.ntmps12 (by simp) ?_
    intro f0 B ns Q hB hns hQ
    obtain rfl : ns = [] := List.eq_nil_of_length_eq_zero hns
    have hkB : ∀ j, j ∈ x :: ksL T0 → j < B := fun j hj => hB j (by rw [hasKey]; exact lk_some_of (by simpa [ksL] using hj))
    refine g_ [0,1] ?_
    refine g_ [0,1,5] ?_
    refine n_ ?_
    refine wpM_loopS (fun s r s' => ∃ (i0 : Nat) (C c1 : List PV) (D T1 : List (Nat × AObj)), i0 + r = l.length ∧ Owns Tryz.prog C ((Sm.mkL k (l.take i0)).map Sm.cs).flatten D ∧ Owns Tryz.prog c1 ((l.drop i0).map Sm.cs).flatten T1 ∧ ksL D ++ ksL T1 = ksL T0 ∧ s' = { s with env := setE 5 (.int .i64 (i0 : Nat)) (setE 1 (.int .i64 (k + (Sm.wSL (l.take i0) : Nat))) s.env), l := (x, .cells 79 (C ++ c1)) :: (D ++ T1) }) (l.length) ?_ ?_
    ·
      refine .of' _ _ ⟨0, [], c0, [], T0, by omega, .nil, h0, rfl, rfl⟩ ?_ ?_ ?_
      · simp [Sm.wSL]; exact L_
      · exact subL_of hnd (fun p hp => hp)
      · exact keepB_of (fun p hp => .inr (.inr (ksL_mem hp)))
    rintro r s' ⟨i0, C, c1, D, T1, hir, hC, hD, hks, rfl⟩
    try refine S_ ?_
    refine g_ [0,1,5,9] ?_
    refine c_ (fun hc0 => ?_) fun hc0 => ?_
    ·
      have hl0 : i0 < l.length := by omega
      have hCl : C.length = i0 * 10 := by
        have := flat_len Sm.cs scs_len (Sm.mkL k (l.take i0))
        rw [hC.len, this, Sm.mkL_len, List.length_take]; omega
      obtain ⟨ce, c2, Te, T2, rfl, rfl, hE, hD2⟩ := hD.elem hl0
      obtain ⟨z, p, q, T3, T4, T5, rfl, rfl, hE1, hE2, hE3⟩ := own_stm hE
      have hst := Sm.wSL_take l i0 hl0
      have hsl := sum_le Sm.wS l (i0 + 1)
      rw [← Sm.wSL_sum, ← Sm.wSL_sum] at hsl
      have hsz := Sm.wS_eq (l.getD i0 default)
      have hbg := sum_get Sm.bz l i0 hl0
      have hbe := Sm.bz_eq (l.getD i0 default)
      have hks2 : ksL D ++ (ksL T3 ++ (ksL T4 ++ (ksL T5 ++ ksL T2))) = ksL T0 := by rw [← hks]; simp [ksL]
      have hnd2 : (x :: (ksL D ++ (ksL T3 ++ (ksL T4 ++ (ksL T5 ++ ksL T2))))).Nodup := by rw [hks2]; exact List.nodup_cons.2 hnd0
      have hn3 : (ksL T3).Nodup := hnd2.sublist (List.Sublist.cons _ ((List.sublist_append_left _ _).trans (List.sublist_append_right _ _)))
      have hn4 : (ksL T4).Nodup := hnd2.sublist (List.Sublist.cons _ (((List.sublist_append_left _ _).trans (List.sublist_append_right _ _)).trans (List.sublist_append_right _ _)))
      have hn5 : (ksL T5).Nodup := hnd2.sublist (List.Sublist.cons _ ((((List.sublist_append_left _ _).trans (List.sublist_append_right _ _)).trans (List.sublist_append_right _ _)).trans (List.sublist_append_right _ _)))
      obtain ⟨K, hK⟩ : ∃ K : Int, K = k + (Sm.wSL (l.take i0) : Nat) := ⟨_, rfl⟩
      rw [← hK]
      generalize ht : l.getD i0 default = t at *
      unfold kz at hbe
      rw [List.append_assoc T3, List.append_assoc T4]
      refine n_ ?_
      refine wpM_regionK [0,1,5] rfl fun Q1 hQ1 => ?_
      simp -implicitDefEqProofs (disch := omega) only [go_sem, sp0, sp1, sp2, sp3, sp4, sp5, sp6, in10]
      refine hQ1 _ _ (S_ ?_);clear hQ1 Q1
      refine g_ [0,1,5] ?_
      refine n_ ?_
      refine wpM_regionK [0,1,5] rfl fun Q1 hQ1 => ?_
      simp -implicitDefEqProofs (disch := omega) only [go_sem, sp0, sp1, sp2, sp3, sp4, sp5, sp6, in10]
      refine hQ1 _ _ (S_ ?_);clear hQ1 Q1
      refine g_ [0,1,5] ?_
      refine n_ ?_
      refine wpM_regionK [0,1,5] rfl fun Q1 hQ1 => ?_
      simp -implicitDefEqProofs (disch := omega) only [go_sem, sp0, sp1, sp2, sp3, sp4, sp5, sp6, in10]
      refine hQ1 _ _ (S_ ?_);clear hQ1 Q1
      refine g_ [0,1,5] ?_
      refine n_ ?_
      refine wpM_regionK [0,1,5] rfl fun Q1 hQ1 => ?_
      simp -implicitDefEqProofs (disch := omega) only [go_sem, sp0, sp1, sp2, sp3, sp4, sp5, sp6, in10]
      refine hQ1 _ _ (S_ ?_);clear hQ1 Q1
      refine g_ [0,1,5] ?_
      refine n_ ?_
      refine wpM_regionK [0,1,5] rfl fun Q1 hQ1 => ?_
      simp -implicitDefEqProofs (disch := omega) only [go_sem, sp0, sp1, sp2, sp3, sp4, sp5, sp6, in10]
      refine hQ1 _ _ (S_ ?_);clear hQ1 Q1
      refine g_ [0,1,5] ?_
      refine n_ ?_
      refine wpM_regionK [0,1,5] rfl fun Q1 hQ1 => ?_
      simp -implicitDefEqProofs (disch := omega) only [go_sem, sp0, sp1, sp2, sp3, sp4, sp5, sp6, in10]
      refine hQ1 _ _ (S_ ?_);clear hQ1 Q1
      refine g_ [0,1,5] ?_
      refine n_ ?_
      refine wpM_regionK [0,1,5] rfl fun Q1 hQ1 => ?_
      simp -implicitDefEqProofs (disch := omega) only [go_sem, sp0, sp1, sp2, sp3, sp4, sp5, sp6, in10]
      refine hQ1 _ _ (S_ ?_);clear hQ1 Q1
      refine g_ [0,1,5] ?_
      refine n_ ?_
      refine wpM_regionK [0,1,5] rfl fun Q1 hQ1 => ?_
      simp -implicitDefEqProofs (disch := omega) only [go_sem, ld7, ld8, ld9, in10]
      refine call_set (ps := [.sl 77 z 0 t.e.kids.length, .int .i64 (K + 1 + 1 + 1 + 1 + 1 + 1 + 1)]) ((x, _) :: D) (T4 ++ (T5 ++ T2)) (markExprS_ok _ t.e.kids (Nat.le_refl _) (by omega) z T3 (K + 1 + 1 + 1 + 1 + 1 + 1 + 1) hE1 hn3 (by omega) (by omega)) Tryz.call46 rfl rfl rfl F_ rfl (by simpa [ksL] using hnd2) ?_
      intro T6 hO6 hk6
      have hnd3 : (x :: (ksL D ++ (ksL T6 ++ (ksL T4 ++ (ksL T5 ++ ksL T2))))).Nodup := by rw [hk6]; exact hnd2
      simp -implicitDefEqProofs (disch := omega) only [go_sem, ld7, ld8, ld9, in10]
      refine hQ1 _ _ (S_ ?_);clear hQ1 Q1
      refine n_ ?_
      refine wpM_regionK [0,1,5] rfl fun Q1 hQ1 => ?_
      simp -implicitDefEqProofs (disch := omega) only [go_sem, ld7, ld8, ld9, in10]
      refine call_set (ps := [.sl 79 p 0 t.th.length, .int .i64 (K + 1 + 1 + 1 + 1 + 1 + 1 + 1 + 4 * (Ex.szL t.e.kids : Nat))]) ((x, _) :: (D ++ T6)) (T5 ++ T2) (ih _ (by omega) t.th (Nat.le_refl _) (by omega) p T4 (K + 1 + 1 + 1 + 1 + 1 + 1 + 1 + 4 * (Ex.szL t.e.kids : Nat)) hE2 hn4 (by omega) (by omega)) Tryz.call12 rfl rfl rfl F_ (congrArg (List.cons _) (List.append_assoc D T6 _).symm) (by simpa [ksL] using hnd3) ?_
      intro T7 hO7 hk7
      have hnd4 : (x :: (ksL D ++ (ksL T6 ++ (ksL T7 ++ (ksL T5 ++ ksL T2))))).Nodup := by rw [hk7]; exact hnd3
      rw [List.cons_append, List.append_assoc D T6]
      simp -implicitDefEqProofs (disch := omega) only [go_sem, ld7, ld8, ld9, in10]
      refine hQ1 _ _ (S_ ?_);clear hQ1 Q1
      refine wpM_regionK [0,1,5] rfl fun Q1 hQ1 => ?_
      simp -implicitDefEqProofs (disch := omega) only [go_sem, ld7, ld8, ld9, in10]
      refine call_set (ps := [.sl 79 q 0 t.el.length, .int .i64 (K + 1 + 1 + 1 + 1 + 1 + 1 + 1 + 4 * (Ex.szL t.e.kids : Nat) + (Sm.wSL t.th : Nat))]) ((x, _) :: (D ++ (T6 ++ T7))) T2 (ih _ (by omega) t.el (Nat.le_refl _) (by omega) q T5 (K + 1 + 1 + 1 + 1 + 1 + 1 + 1 + 4 * (Ex.szL t.e.kids : Nat) + (Sm.wSL t.th : Nat)) hE3 hn5 (by omega) (by omega)) Tryz.call12 rfl rfl rfl F_ (by rw [List.cons_append, List.append_assoc D, List.append_assoc T6]) (by simpa [ksL] using hnd4) ?_
      intro T8 hO8 hk8
      rw [List.cons_append, List.append_assoc D, List.append_assoc T6]
      simp -implicitDefEqProofs (disch := omega) only [go_sem, ld7, ld8, ld9, in10]
      refine hQ1 _ _ (S_ ?_);clear hQ1 Q1
      refine g_ [0,1,5] ?_
      have hcat : K + 1 + 1 + 1 + 1 + 1 + 1 + 1 + 4 * (Ex.szL t.e.kids : Nat) + (Sm.wSL t.th : Nat) + (Sm.wSL t.el : Nat) = k + (Sm.wSL (l.take (i0 + 1)) : Nat) := by omega
      have hE4 : Owns Tryz.prog [.int .i64 K, .int .i64 (K + 1), .int .i64 (K + 1 + 1), .int .i64 (K + 1 + 1 + 1), .int .i64 (K + 1 + 1 + 1 + 1), .int .i64 (K + 1 + 1 + 1 + 1 + 1), .int .i64 (K + 1 + 1 + 1 + 1 + 1 + 1), .sl 77 z 0 t.e.kids.length, .sl 79 p 0 t.th.length, .sl 79 q 0 t.el.length] (Sm.mk' K t).cs (T6 ++ (T7 ++ T8)) := by
        rw [Sm.cs_eq, Sm.mk_eq]
        simp only [Sm.kind, Sm.to', Sm.e, Sm.th, Sm.el, Ex.mk_eq, Ex.kind, Ex.n, Ex.a, Ex.kids]
        exact Owns.lits [.int .i64 K, .int .i64 (K + 1), .int .i64 (K + 1 + 1), .int .i64 (K + 1 + 1 + 1), .int .i64 (K + 1 + 1 + 1 + 1), .int .i64 (K + 1 + 1 + 1 + 1 + 1), .int .i64 (K + 1 + 1 + 1 + 1 + 1 + 1)] rfl (hO6.app (hO7.app hO8))
      have hC3 := hC.snocL hE4
      rw [hK, ← ht, ← Sm.mkL_take l i0 hl0 k] at hC3
      rw [← hK, ht] at hC3
      have hks3 : ksL (D ++ (T6 ++ (T7 ++ T8))) ++ ksL T2 = ksL T0 := by rw [← hks2, ← hk6, ← hk7, ← hk8]; simp [ksL]
      have hndl : ∀ (o : AObj) (T1 : List (Nat × AObj)), ksL T1 = ksL T0 → (ksL ((x, o) :: T1)).Nodup := by
        intro o T1 h
        show (x :: ksL T1).Nodup
        rw [h]; exact List.nodup_cons.2 hnd0
      rw [hcat]
      refine .of' _ _ ⟨r - 1, by omega, i0 + 1, _, c2, _, T2, by omega, hC3, hD2, hks3, rfl⟩ ?_ ?_ ?_
      · exact L_
      · refine subL_of (hndl _ _ (by rw [← hks3]; simp [ksL])) (fun p hp => ?_)
        simpa using hp
      · refine keepB_of (fun p hp => .inr (.inr (ksL_mem ?_)))
        simpa using hp
    refine g_ [4] ?_
    refine wpM_ret ?_
    try refine S_ ?_
    obtain rfl : i0 = l.length := by omega
    rw [List.drop_length] at hD
    obtain ⟨rfl, rfl⟩ := Owns.none hD
    rw [List.take_of_length_le (Nat.le_refl _)] at hC ⊢
    rw [← Sm.csL_map] at hC
    have hks' : ksL D = ksL T0 := by simpa [ksL] using hks
    have hnd' : (ksL ((x, AObj.cells 79 (C ++ [])) :: (D ++ []))).Nodup := by
      rw [List.append_nil D]
      show (x :: ksL D).Nodup
      rw [hks']; exact List.nodup_cons.2 hnd0
    refine hQ _ _ (retSet (T' := (x, .cells 79 (C ++ [])) :: (D ++ [])) rfl ?_ ?_ rfl rfl rfl (by rw [Tryz.results12] <;> simp (maxSteps := 1000000) -implicitDefEqProofs (disch := omega) only [go_sem] <;> rfl) (fun q hq => by simp only [MS.f, lk_nd hnd' hq]) (keysIn_of fun p hp => .inr ?_))
    · refine ownsSl x l.length (by rw [Sm.csL_len, Sm.mkL_len]) (by rw [cellsOf79]; decide) (fun y hy => ?_) (by simpa using hC)
      rw [Sm.csL_map, List.mem_map] at hy
      obtain ⟨e, _, rfl⟩ := hy
      rw [cellsOf79]; exact ⟨scs_len e, scs_pureL e⟩
    · show x :: ksL (D ++ []) = x :: ksL T0; rw [List.append_nil D, hks']
    · have := ksL_mem hp
      rw [List.append_nil D] at this
      change p.1 ∈ x :: ksL D at this
      rw [hks'] at this; exact this
end Go.Proofs.YtnmfmeehmieifaaGreat
namespace Go.Proofs.YtnmfmeehmieifaaGreat
open Go Sg
set_option maxRecDepth 100000
set_option linter.unusedSimpArgs false
set_option linter.unusedVariables false
set_option linter.unusedSectionVars false
set_option maxHeartbeats 4000000
variable [Glob]
theorem Ex.mkL_get (l : List Ex) (i : Nat) (h : i < l.length) : ∀ k : Int, (Ex.mkL k l).getD i default = Ex.mk' (k + 4 * (Ex.szL (l.take i) : Nat)) (l.getD i default) := by
  induction l generalizing i with
  | nil => simp at h
  | cons e l ih =>
    intro k
    cases i with
    | zero => simp [Ex.mkL, Ex.szL]
    | succ i =>
      simp only [Ex.mkL, List.getD_cons_succ, List.take_succ_cons, Ex.szL]
      rw [ih i (by simpa using h)]
      congr 1
      push_cast; omega
theorem Sm.mkL_get (l : List Sm) (i : Nat) (h : i < l.length) : ∀ k : Int, (Sm.mkL k l).getD i default = Sm.mk' (k + (Sm.wSL (l.take i) : Nat)) (l.getD i default) := by
  induction l generalizing i with
  | nil => simp at h
  | cons e l ih =>
    intro k
    cases i with
    | zero => simp [Sm.mkL, Sm.wSL]
    | succ i =>
      simp only [Sm.mkL, List.getD_cons_succ, List.take_succ_cons, Sm.wSL]
      rw [ih i (by simpa using h)]
      congr 1
      push_cast; omega
def HdX (l : List Ex) : Prop := ∀ k : Int, 0 ≤ k → k + 4 * (Ex.szL l : Nat) ≤ 1000000000000 → PureF Tryz.prog 47 [.rows 77 (Ex.csL (Ex.mkL k l)), .int .i64 k] [.int .i64 (k + 4 * (Ex.szL l : Nat))]
theorem heldExprS_ok : ∀ (N : Nat) (l : List Ex), Ex.szL l ≤ N → Ex.szL l ≤ 4194304 → HdX l := by
  intro N
  induction N using Nat.strongRecOn with
  | _ N ih =>
    intro l hN hs k hk0 hk1
    have hll := Ex.len_szL l
    have hml := Ex.mkL_len l k
    refine pureF_of Tryz.func47 rfl Tryz.ntmps47 (by simp) T_ ?_
    intro f0 B Q hQ
    refine g_ [0,1] ?_
    refine g_ [0,1,5] ?_
    refine n_ ?_
    refine wpM_loopS (fun s n s' => ∃ (i0 M0 : Nat) (K : Int), i0 + n = l.length ∧ s.M ≤ M0 ∧ (K = k + 4 * (Ex.szL (l.take i0) : Nat)) ∧ s' = { s with env := setE 5 (.int .i64 (i0 : Nat)) (setE 1 (.int .i64 K) s.env), M := M0 }) (l.length) ?_ ?_
    ·
      refine .of' _ _ ⟨0, _, k, by omega, Nat.le_refl _, by simp [Ex.szL], rfl⟩ ?_ ?_ ?_ <;> exact L_
    rintro n0 s' ⟨i0, M0, K, hi0, hM0, hv0, rfl⟩
    try dsimp only at hM0
    try refine S_ ?_
    refine g_ [0,1,5,9] ?_
    refine c_ (fun hc0 => ?_) fun hc0 => ?_
    ·
      have hl0 : i0 < l.length := by omega
      have hg := Ex.mkL_get l i0 hl0 k
      rw [← hv0, Ex.mk_eq] at hg
      have hst := Ex.szL_take l i0 hl0
      have hsl := Ex.szL_le l (i0 + 1)
      have hsz := Ex.sz_eq (l.getD i0 default)
      have hE : PureF Tryz.prog 47 [.rows 77 (Ex.csL ((Ex.mkL k l).getD i0 default).kids), .int .i64 (K + 1 + 1 + 1 + 1)] [.int .i64 (K + 1 + 1 + 1 + 1 + 4 * (Ex.szL (l.getD i0 default).kids : Nat))] := by
        rw [hg]
        exact ih _ (by omega) (l.getD i0 default).kids (Nat.le_refl _) (by omega) _ (by omega) (by omega)
      have hneg : ¬ (K + 1 + 1 + 1 + 1 + 4 * (Ex.szL (l.getD i0 default).kids : Nat) < 0) := by omega
      refine g_ [0,1,5,18] ?_
      refine c_ (fun hc1 => ?_) fun hc1 => ?_
      · exfalso; rw [hg] at hc1; simp [Ex.kind] at hc1
      refine g_ [0,1,5] ?_
      refine g_ [0,1,5,27] ?_
      refine c_ (fun hc2 => ?_) fun hc2 => ?_
      · exfalso; rw [hg] at hc2; simp [Ex.n] at hc2
      refine g_ [0,1,5] ?_
      refine g_ [0,1,5,37] ?_
      refine c_ (fun hc3 => ?_) fun hc3 => ?_
      · exfalso; rw [hg] at hc3; simp [Ex.a] at hc3
      refine g_ [0,1,5] ?_
      refine g_ [0,1,5,47] ?_
      refine c_ (fun hc4 => ?_) fun hc4 => ?_
      · exfalso; rw [hg] at hc4; simp [Ex.a] at hc4
      refine g_ [0,1,5] ?_
      refine n_ ?_
      refine wpM_regionK [0,1,5] rfl fun Q1 hQ1 => ?_
      refine S_ ?_
      refine cp_ (hE) Tryz.call47 ?_
      refine hQ1 _ _ (S_ ?_);clear hQ1 Q1
      refine n_ ?_
      refine wpM_regionK [0,1,5,58] rfl fun Q1 hQ1 => ?_
      simp -implicitDefEqProofs (disch := omega) only [go_sem, hneg, decide_false]
      refine hQ1 _ _ (S_ ?_);clear hQ1 Q1
      refine c1_ ?_
      refine g_ [0,1,5] ?_
      refine .of' _ _ ⟨n0 - 1, by omega, i0 + 1, _, K + 1 + 1 + 1 + 1 + 4 * (Ex.szL (l.getD i0 default).kids : Nat), by omega, M_, ?_, rfl⟩ L_ L_ L_
      omega
    refine n_ ?_
    have hi : i0 = l.length := by omega
    rw [hi, List.take_of_length_le (Nat.le_refl _)] at hv0
    refine g_ [4] ?_
    refine e_ Tryz.results47 ?_
    first
    | exact True.intro
    | rw [hv0]
def HdS (l : List Sm) : Prop := ∀ k : Int, 0 ≤ k → k + (Sm.wSL l : Nat) ≤ 1000000000 → PureF Tryz.prog 13 [.rows 79 (Sm.csL (Sm.mkL k l)), .int .i64 k] [.int .i64 (k + (Sm.wSL l : Nat))]
theorem heldStmtS_ok : ∀ (N : Nat) (l : List Sm), Sm.bzL l ≤ N → Sm.bzL l ≤ 4194304 → HdS l := by
  intro N
  induction N using Nat.strongRecOn with
  | _ N ih =>
    intro l hN hs k hk0 hk1
    have hll := Sm.bzL_sum l
    have hml := Sm.mkL_len l k
    refine pureF_of Tryz.func13 rfl Tryz.ntmps13 (by simp) T_ ?_
    intro f0 B Q hQ
    refine g_ [0,1] ?_
    refine g_ [0,1,5] ?_
    refine n_ ?_
    refine wpM_loopS (fun s n s' => ∃ (i0 M0 : Nat) (K : Int), i0 + n = l.length ∧ s.M ≤ M0 ∧ (K = k + (Sm.wSL (l.take i0) : Nat)) ∧ s' = { s with env := setE 5 (.int .i64 (i0 : Nat)) (setE 1 (.int .i64 K) s.env), M := M0 }) (l.length) ?_ ?_
    ·
      refine .of' _ _ ⟨0, _, k, by omega, Nat.le_refl _, by simp [Sm.wSL], rfl⟩ ?_ ?_ ?_ <;> exact L_
    rintro n0 s' ⟨i0, M0, K, hi0, hM0, hv0, rfl⟩
    try dsimp only at hM0
    try refine S_ ?_
    refine g_ [0,1,5,9] ?_
    refine c_ (fun hc0 => ?_) fun hc0 => ?_
    ·
      have hl0 : i0 < l.length := by omega
      have hg := Sm.mkL_get l i0 hl0 k
      rw [← hv0, Sm.mk_eq, Ex.mk_eq] at hg
      have hst := Sm.wSL_take l i0 hl0
      have hsl := sum_le Sm.wS l (i0 + 1)
      rw [← Sm.wSL_sum, ← Sm.wSL_sum] at hsl
      have hsz := Sm.wS_eq (l.getD i0 default)
      have hbg := sum_get Sm.bz l i0 hl0
      have hbe := Sm.bz_eq (l.getD i0 default)
      unfold kz at hbe
      have hE : PureF Tryz.prog 47 [.rows 77 (Ex.csL ((Sm.mkL k l).getD i0 default).e.kids), .int .i64 (K + 1 + 1 + 1 + 1 + 1 + 1 + 1)] [.int .i64 (K + 1 + 1 + 1 + 1 + 1 + 1 + 1 + 4 * (Ex.szL (l.getD i0 default).e.kids : Nat))] := by
        rw [hg]
        exact heldExprS_ok _ (l.getD i0 default).e.kids (Nat.le_refl _) (by omega) _ (by omega) (by omega)
      have hT : PureF Tryz.prog 13 [.rows 79 (Sm.csL ((Sm.mkL k l).getD i0 default).th), .int .i64 (K + 1 + 1 + 1 + 1 + 1 + 1 + 1 + 4 * (Ex.szL (l.getD i0 default).e.kids : Nat))] [.int .i64 (K + 1 + 1 + 1 + 1 + 1 + 1 + 1 + 4 * (Ex.szL (l.getD i0 default).e.kids : Nat) + (Sm.wSL (l.getD i0 default).th : Nat))] := by
        rw [hg]
        exact ih _ (by omega) (l.getD i0 default).th (Nat.le_refl _) (by omega) _ (by omega) (by omega)
      have hL : PureF Tryz.prog 13 [.rows 79 (Sm.csL ((Sm.mkL k l).getD i0 default).el), .int .i64 (K + 1 + 1 + 1 + 1 + 1 + 1 + 1 + 4 * (Ex.szL (l.getD i0 default).e.kids : Nat) + (Sm.wSL (l.getD i0 default).th : Nat))] [.int .i64 (K + 1 + 1 + 1 + 1 + 1 + 1 + 1 + 4 * (Ex.szL (l.getD i0 default).e.kids : Nat) + (Sm.wSL (l.getD i0 default).th : Nat) + (Sm.wSL (l.getD i0 default).el : Nat))] := by
        rw [hg]
        exact ih _ (by omega) (l.getD i0 default).el (Nat.le_refl _) (by omega) _ (by omega) (by omega)
      have hn1 : ¬ (K + 1 + 1 + 1 + 1 + 1 + 1 + 1 + 4 * (Ex.szL (l.getD i0 default).e.kids : Nat) < 0) := by omega
      have hn2 : ¬ (K + 1 + 1 + 1 + 1 + 1 + 1 + 1 + 4 * (Ex.szL (l.getD i0 default).e.kids : Nat) + (Sm.wSL (l.getD i0 default).th : Nat) < 0) := by omega
      have hn3 : ¬ (K + 1 + 1 + 1 + 1 + 1 + 1 + 1 + 4 * (Ex.szL (l.getD i0 default).e.kids : Nat) + (Sm.wSL (l.getD i0 default).th : Nat) + (Sm.wSL (l.getD i0 default).el : Nat) < 0) := by omega
      refine g_ [0,1,5,18] ?_
      refine c_ (fun hc1 => ?_) fun hc1 => ?_
      · exfalso; rw [hg] at hc1; simp [Sm.kind] at hc1
      refine g_ [0,1,5] ?_
      refine g_ [0,1,5,28] ?_
      refine c_ (fun hc2 => ?_) fun hc2 => ?_
      · exfalso; rw [hg] at hc2; simp [Sm.to'] at hc2
      refine g_ [0,1,5] ?_
      refine g_ [0,1,5,38] ?_
      refine c_ (fun hc3 => ?_) fun hc3 => ?_
      · exfalso; rw [hg] at hc3; simp [Sm.to'] at hc3
      refine g_ [0,1,5] ?_
      refine g_ [0,1,5,48] ?_
      refine c_ (fun hc4 => ?_) fun hc4 => ?_
      · exfalso; rw [hg] at hc4; simp [Sm.e, Ex.kind] at hc4
      refine g_ [0,1,5] ?_
      refine g_ [0,1,5,58] ?_
      refine c_ (fun hc5 => ?_) fun hc5 => ?_
      · exfalso; rw [hg] at hc5; simp [Sm.e, Ex.n] at hc5
      refine g_ [0,1,5] ?_
      refine g_ [0,1,5,69] ?_
      refine c_ (fun hc6 => ?_) fun hc6 => ?_
      · exfalso; rw [hg] at hc6; simp [Sm.e, Ex.a] at hc6
      refine g_ [0,1,5] ?_
      refine g_ [0,1,5,80] ?_
      refine c_ (fun hc7 => ?_) fun hc7 => ?_
      · exfalso; rw [hg] at hc7; simp [Sm.e, Ex.a] at hc7
      refine g_ [0,1,5] ?_
      refine n_ ?_
      refine wpM_regionK [0,1,5] rfl fun Q1 hQ1 => ?_
      refine S_ ?_
      refine cp_ (hE) Tryz.call47 ?_
      refine hQ1 _ _ (S_ ?_);clear hQ1 Q1
      refine g_ [0,1,5,92] ?_
      refine c_ (fun hc8 => ?_) fun hc8 => ?_
      · exfalso; omega
      refine n_ ?_
      refine wpM_regionK [0,1,5] rfl fun Q1 hQ1 => ?_
      refine S_ ?_
      refine cp_ (hT) Tryz.call13 ?_
      refine hQ1 _ _ (S_ ?_);clear hQ1 Q1
      refine g_ [0,1,5,101] ?_
      refine c_ (fun hc9 => ?_) fun hc9 => ?_
      · exfalso; omega
      refine n_ ?_
      refine wpM_regionK [0,1,5] rfl fun Q1 hQ1 => ?_
      refine S_ ?_
      refine cp_ (hL) Tryz.call13 ?_
      refine hQ1 _ _ (S_ ?_);clear hQ1 Q1
      refine g_ [0,1,5,110] ?_
      refine c_ (fun hc10 => ?_) fun hc10 => ?_
      · exfalso; omega
      refine g_ [0,1,5] ?_
      refine .of' _ _ ⟨n0 - 1, by omega, i0 + 1, _, K + 1 + 1 + 1 + 1 + 1 + 1 + 1 + 4 * (Ex.szL (l.getD i0 default).e.kids : Nat) + (Sm.wSL (l.getD i0 default).th : Nat) + (Sm.wSL (l.getD i0 default).el : Nat), by omega, M_, ?_, rfl⟩ L_ L_ L_
      omega
    refine g_ [4] ?_
    refine e_ Tryz.results13 ?_
    first
    | exact True.intro
    | have hi : i0 = l.length := by omega
      rw [hi, List.take_of_length_le (Nat.le_refl _)] at hv0
      rw [hv0]
end Go.Proofs.YtnmfmeehmieifaaGreat
namespace Go.Proofs.YtnmfmeehmieifaaGreat
open Go Sg
set_option maxRecDepth 100000
set_option linter.unusedSimpArgs false
set_option linter.unusedVariables false
set_option linter.unusedSectionVars false
set_option maxHeartbeats 4000000
variable [Glob]
theorem islimST_ok (l : List Sm) (hs : Sm.szL l ≤ 1000000000) : CallF Tryz.prog 10 [.rows 79 (Sm.csL l)] [] (1 + Sm.nSL (slimT l)) (OwnR Tryz.prog id [.rows 79 (Sm.csL (slimT l))]) := by
  refine callF_of' Tryz.func10 rfl Tryz.ntmps10 (by simp) ?_
  intro f0 B ns Q hB hns hQ
  refine g_ [0] ?_
  refine n_ ?_
  refine wpM_regionK [0,5] rfl fun Q1 hQ1 => ?_
  refine S_ ?_
  refine cp_ (istmtsOk_ok l (by omega)) Tryz.call42 ?_
  refine hQ1 _ _ (S_ ?_);clear hQ1 Q1
  refine c_ (fun hc0 => ?_) fun hc0 => ?_
  ·
    refine g_ [2] ?_
    have hcs : slimT l = [] := by rw [slimT, if_neg]; intro h; rw [h] at hc0; cases hc0
    refine wpM_nil 79 [(2, .sl 79 B 0 0)] [] T_ T_ T_ ?_
    refine wpM_ret ?_
    try refine S_ ?_
    rw [hcs] at hQ hns
    refine hQ _ _ (retOwnI (M := B + 1) (.inl rfl) [(B, .cells 79 [])] (cs := [.sl 79 B 0 0]) ?_ rfl rfl rfl (by rw [Tryz.results10] <;> simp (maxSteps := 1000000) -implicitDefEqProofs (disch := omega) only [go_sem] <;> rfl) (by rw [hns]; rfl) (by simp [inR_cons, inR_nil]) (fun q hq => hq) (by simp [ksL]))
    exact ownsSl B 0 rfl (by rw [cellsOf79]; decide) (fun x hx => by cases hx) .nil
  have hok : okS l = true := by simpa using hc0
  have hcs : slimT l = Sm.slL l := by rw [slimT, if_pos hok]
  have hf4 : formS 4 l = true := by simp only [okS, Bool.and_eq_true] at hok; exact hok.2
  have hsz := Sm.slL_sz l
  refine n_ ?_
  refine wpM_regionK [2] rfl fun Q1 hQ1 => ?_
  refine S_ ?_
  refine cp_ (slimS_ok _ l rfl (by omega) ⟨4, hf4⟩) Tryz.call44 ?_
  refine call_own (ps := [.rows 79 (Sm.csL (Sm.slL l))]) (icopyST_ok _ (Sm.slL l) rfl (by omega)) Tryz.call43 rfl rfl rfl F_ inR_nil (Nat.le_refl _) ?_
  intro cs1 T1 hO1 hI1 hk1
  dsimp only at hI1 hk1
  obtain ⟨x, _, _, rfl, _, _⟩ := own_stmL hO1
  refine S_ ?_
  refine hQ1 _ _ (S_ ?_);clear hQ1 Q1
  refine wpM_ret ?_
  try refine S_ ?_
  rw [hcs] at hQ hns
  refine hQ _ _ (retOwnI (.inl rfl) T1 hO1 rfl rfl rfl (by rw [Tryz.results10] <;> simp (maxSteps := 1000000) -implicitDefEqProofs (disch := omega) only [go_sem] <;> rfl) (by rw [hk1, hns]) hI1 (fun q hq => hq) hI1.nd)
theorem islimO_ok (l : List Sm) (hs : Sm.szL l ≤ 1000000000) {b : PV} {Tb : List (Nat × AObj)} (hb : Owns Tryz.prog [b] [.rows 79 (Sm.csL l)] Tb) (hnd : (ksL Tb).Nodup) :
    CallF Tryz.prog 10 [b] Tb (1 + Sm.nSL (slimT l)) (OwnR Tryz.prog id [.rows 79 (Sm.csL (slimT l))]) :=
  CallF.own hb hnd (fun θ h => h) (fun ns o _ h => ownR_flat (.inl rfl) h) (islimST_ok l hs)
theorem bz_le : ∀ (N : Nat) (l : List Sm), Sm.szL l ≤ N → Sm.bzL l ≤ Sm.szL l := by
  intro N
  induction N using Nat.strongRecOn with
  | _ N ih =>
    intro l
    induction l with
    | nil => intro _; simp [Sm.bzL]
    | cons s l ihl =>
      intro hN
      simp only [Sm.szL] at hN ⊢
      have h1 := s.sz_eq
      have h2 := s.bz_eq
      have h3 := s.e.sz_eq
      have h4 := ih (Sm.szL s.th) (by omega) s.th (Nat.le_refl _)
      have h5 := ih (Sm.szL s.el) (by omega) s.el (Nat.le_refl _)
      have h6 := ihl (by omega)
      simp only [Sm.bzL]
      unfold kz at h2
      omega
theorem lawSlimS_ok (l : List Sm) (hl : l.length ≤ maxLen) (hL : Sm.LenL l) : PureF Tryz.prog 3 [.rows 72 (Sm.lcsL l)] [.bool true] := by
  refine pureF_of Tryz.func3 rfl Tryz.ntmps3 (by simp) T_ ?_
  intro f0 B Q hQ
  refine g_ [0] ?_
  refine g_ [0,3] ?_
  refine n_ ?_
  refine wpM_regionK [0,3] rfl fun Q1 hQ1 => ?_
  refine S_ ?_
  refine cp_ (szStmtS_ok _ l (Nat.le_refl _) hl hL 1048576 (by omega) (by omega)) Tryz.call7 ?_
  refine hQ1 _ _ (S_ ?_);clear hQ1 Q1
  refine g_ [0,15] ?_
  refine c_ (fun hc0 => ?_) fun hc0 => ?_
  ·
    refine g_ [2] ?_
    exact e_ Tryz.results3 True.intro
  have p1 := szR_pos hc0
  have hzl : Sm.bzL l ≤ 1048576 := by omega
  have hSz0 : Sm.szL l ≤ 2097152 := by have := Sm.bz_szL _ l (Nat.le_refl _); omega
  have hSz : Sm.szL l ≤ 1000000000 := by omega
  have hto := toStmtS_ok _ l (Nat.le_refl _) hzl
  have hwl := Sm.wSL_le _ l (Nat.le_refl _)
  have hss := sslimS_ok l hSz
  have hii := islimS_ok l hSz
  have hgz : Sm.szL (slimT l) ≤ 2097152 := by
    unfold slimT
    split
    · have := Sm.slL_sz l; omega
    · simp [Sm.szL]
  have hgb : Sm.bzL (slimT l) ≤ 4194304 := by have := bz_le _ (slimT l) (Nat.le_refl _); omega
  have hwg := Sm.wSL_le _ (slimT l) (Nat.le_refl _)
  obtain ⟨g, hg⟩ : ∃ g, g = slimT l := ⟨_, rfl⟩
  have hOc := fun (b : PV) (Tb : List (Nat × AObj)) (hb : Owns Tryz.prog [b] [.rows 79 (Sm.csL l)] Tb) (hnd : (ksL Tb).Nodup) => islimO_ok l hSz hb hnd
  rw [← hg] at hss hii hgz hgb hwg
  simp only [← hg] at hOc
  clear hg
  refine n_ ?_
  refine wpM_regionK [0,4] rfl fun Q1 hQ1 => ?_
  refine S_ ?_
  refine cp_ (hto) Tryz.call9 ?_
  refine cp_ (hss) Tryz.call8 ?_
  refine hQ1 _ _ (S_ ?_);clear hQ1 Q1
  refine n_ ?_
  refine wpM_regionK [0,4,5] rfl fun Q1 hQ1 => ?_
  refine S_ ?_
  refine call_own (ps := [.rows 72 (Sm.lcsL l)]) (toStmtST_ok _ l (Nat.le_refl _) hzl) Tryz.call9 rfl rfl rfl F_ inR_nil (Nat.le_refl _) ?_
  intro cb Tb hOb hIb hkb
  dsimp only at hIb hkb
  obtain ⟨xb, _, _, hcb, _, _⟩ := own_stmL hOb
  subst hcb
  dsimp only
  generalize hN : B + (1 + Sm.nSL l) = N at *
  have hBN : B ≤ N := by omega
  refine S_ ?_
  refine hQ1 _ _ (S_ ?_);clear hQ1 Q1
  refine n_ ?_
  refine wpM_regionK [0,4,5,6] rfl fun Q1 hQ1 => ?_
  refine S_ ?_
  refine call_ownT (ps := [.sl 79 xb 0 l.length]) (S := Tb) (hOc _ _ hOb hIb.nd) Tryz.call10 rfl rfl rfl F_ (hIb.ks (by simp [ksL])) hBN (fun p hp => by simp [hp]) ?_
  intro cg Tg hOg hIg hkg
  dsimp only at hIg hkg
  have hA1 := hIb.app hIg hBN (by omega)
  obtain ⟨xg, _, _, hcg, _, _⟩ := own_stmL hOg
  subst hcg
  refine S_ ?_
  refine hQ1 _ _ (S_ ?_);clear hQ1 Q1
  refine n_ ?_
  refine wpM_regionK [0,4,5,6,26] rfl fun Q1 hQ1 => ?_
  refine S_ ?_
  refine call_r (own1s hOg hIg.nd (fun θ => rfl) rfl (eqStmtS_ok _ g g (Nat.le_refl _) (by omega))) (own_f (hA1.ks (by simp [ksL])) (fun p hp => by simp [hp])) Tryz.call11 rfl rfl rfl F_ ?_
  rw [same_self]
  refine S_ ?_
  refine hQ1 _ _ (S_ ?_);clear hQ1 Q1
  refine c1_ ?_
  refine n_ ?_
  refine wpM_regionK [0,4,5,6,31] rfl fun Q1 hQ1 => ?_
  refine S_ ?_
  refine cp_ (hto) Tryz.call9 ?_
  refine call_r (own1s hOb hIb.nd (fun θ => rfl) rfl (eqStmtS_ok _ l l (Nat.le_refl _) (by omega))) (own_f (hA1.ks (by simp [ksL])) (fun p hp => by simp [hp])) Tryz.call11 rfl rfl rfl F_ ?_
  rw [same_self]
  refine S_ ?_
  refine hQ1 _ _ (S_ ?_);clear hQ1 Q1
  refine c1_ ?_
  refine g_ [0,4,5,6,7] ?_
  refine n_ ?_
  refine wpM_regionK [0,4,6,7] rfl fun Q1 hQ1 => ?_
  refine S_ ?_
  refine call_setD (T := Tb) (ps := [.sl 79 xb 0 l.length, .int .i64 1]) [] Tg (markStmtS_ok _ l (Nat.le_refl _) (by omega) xb Tb 1 hOb hIb.nd (by omega) (by omega)) Tryz.call12 rfl rfl rfl F_ rfl (hA1.ks (by simp [ksL])).nd (fun p hp => by have := hIb.at' p hp; show B ≤ p.1; omega) ?_
  refine S_ ?_
  refine hQ1 _ _ (S_ ?_);clear hQ1 Q1
  refine n_ ?_
  have hneg : ¬ ((1 + (Sm.wSL l : Nat) : Int) < 0) := by omega
  refine wpM_regionK [0,4,6,42] rfl fun Q1 hQ1 => ?_
  simp (contextual := true) (maxSteps := 1000000) (implicitDefEqProofs := false) (disch := first | omega | (simp only [decide_eq_true_eq, decide_eq_false_iff_not, Bool.and_eq_true, Bool.or_eq_false_iff, Bool.not_eq_true'] at *; omega)) only [go_sem, hneg, decide_false]
  refine call_r (own1s hOg hIg.nd (fun θ => rfl) rfl (eqStmtS_ok _ g g (Nat.le_refl _) (by omega))) (own_f (hIg.ks (by simp [ksL])) (fun p hp => by simp [hp])) Tryz.call11 rfl rfl rfl F_ ?_
  rw [same_self]
  simp (contextual := true) (maxSteps := 1000000) (implicitDefEqProofs := false) (disch := first | omega | (simp only [decide_eq_true_eq, decide_eq_false_iff_not, Bool.and_eq_true, Bool.or_eq_false_iff, Bool.not_eq_true'] at *; omega)) only [go_sem, hneg, decide_false]
  refine hQ1 _ _ (S_ ?_);clear hQ1 Q1
  refine c1_ ?_
  refine g_ [0,4,6,8] ?_
  refine n_ ?_
  refine wpM_regionK [0,4,6,8] rfl fun Q1 hQ1 => ?_
  refine S_ ?_
  refine call_set (T := Tg) (ps := [.sl 79 xg 0 g.length, .int .i64 1]) [] [] (markStmtS_ok _ g (Nat.le_refl _) hgb xg Tg 1 hOg hIg.nd (by omega) (by omega)) Tryz.call12 rfl rfl rfl F_ (by simp) (hIg.ks (by simp [ksL])).nd ?_
  intro Tm hOm hksm
  have hIm := hIg.ks hksm
  refine S_ ?_
  refine hQ1 _ _ (S_ ?_);clear hQ1 Q1
  refine g_ [0,4,6,8,9] ?_
  refine n_ ?_
  refine wpM_regionK [0,4,6,8,9] rfl fun Q1 hQ1 => ?_
  refine S_ ?_
  refine call_r (own1s hOm hIm.nd (fun θ => rfl) rfl (heldStmtS_ok _ g (Nat.le_refl _) hgb 1 (by omega) (by omega))) (own_f (hIm.ks (by simp [ksL])) (fun p hp => by simp [hp])) Tryz.call13 rfl rfl rfl F_ ?_
  have hneg2 : ¬ ((1 + (Sm.wSL g : Nat) : Int) < 0) := by omega
  refine S_ ?_
  refine hQ1 _ _ (S_ ?_);clear hQ1 Q1
  refine n_ ?_
  refine wpM_regionK [0,4,6,8,9,50] rfl fun Q1 hQ1 => ?_
  simp -implicitDefEqProofs (disch := omega) only [go_sem, hneg2, decide_false]
  refine hQ1 _ _ (S_ ?_);clear hQ1 Q1
  refine c1_ ?_
  refine g_ [0,4,6,8,53] ?_
  refine c_ (fun hc5 => ?_) fun hc5 => ?_
  · exfalso; simp at hc5
  refine n_ ?_
  refine wpM_regionK [4,6,8,10] rfl fun Q1 hQ1 => ?_
  refine S_ ?_
  refine cp_ (hto) Tryz.call9 ?_
  refine cp_ (hii) Tryz.call10 ?_
  refine hQ1 _ _ (S_ ?_);clear hQ1 Q1
  refine n_ ?_
  refine wpM_regionK [6,8,60] rfl fun Q1 hQ1 => ?_
  refine S_ ?_
  refine call_p (eqStmtS_ok _ g g (Nat.le_refl _) (by omega)) Tryz.call11 rfl rfl rfl F_ ?_
  rw [same_self]
  refine S_ ?_
  refine hQ1 _ _ (S_ ?_);clear hQ1 Q1
  refine c1_ ?_
  refine g_ [6,8,9] ?_
  refine n_ ?_
  refine wpM_regionK [8,9] rfl fun Q1 hQ1 => ?_
  refine S_ ?_
  refine call_r (own1s hOm hIm.nd (fun θ => rfl) rfl (heldStmtS_ok _ g (Nat.le_refl _) hgb 1 (by omega) (by omega))) (own_f (hIm.ks (by simp [ksL])) (fun p hp => by simp [hp])) Tryz.call13 rfl rfl rfl F_ ?_
  refine S_ ?_
  refine hQ1 _ _ (S_ ?_);clear hQ1 Q1
  refine n_ ?_
  refine wpM_regionK [8,9,65] rfl fun Q1 hQ1 => ?_
  simp -implicitDefEqProofs (disch := omega) only [go_sem, hneg2, decide_false]
  refine hQ1 _ _ (S_ ?_);clear hQ1 Q1
  refine c1_ ?_
  refine g_ [68] ?_
  refine c_ (fun hc8 => ?_) fun hc8 => ?_
  · exfalso; simp at hc8
  refine n_ ?_
  refine wpM_le [] [] trivial trivial (InR.keep (hIm.mono hBN (Nat.le_refl _))) ?_
  refine g_ [2] ?_
  exact e_ Tryz.results3 True.intro
end Go.Proofs.YtnmfmeehmieifaaGreat
namespace Go.Proofs.YtnmfmeehmieifaaGreat
open Go Sg Go.ChangeShapes Go.WideShapes Go.ChangeAt Go.RowKit
set_option linter.unusedVariables false
set_option linter.unusedSectionVars false
theorem Tryz.own : ownKnob Tryz.prog.godebug = none := by kernel_rfl
theorem Tryz.laidOut : laidOutB Tryz.prog = true := by kernel_rfl
set_option maxRecDepth 100000 in
theorem open_stmsA [Glob] {H : Type} {enc : TypeId × Value → H} {W : World} {base : Nat} {v : Value} {d : DataW H} {ps : List MemPlace} (hval : Value.okWide Tryz.prog W .any base 22 v) (h : DataW.Trod enc Tryz.prog W 0 (fun _ => true) true 22 v d ps) : ∃ l : List Sm, l.length ≤ maxLen ∧ Sm.LenL l ∧ R Tryz.prog (ghOf W) (.rows 72 (Sm.lcsL l)) v := by
  obtain ⟨a, len, cap, rfl⟩ := okWide_slice Tryz.underlying22 hval
  obtain ⟨fuel, hf⟩ := h
  obtain ⟨l, h1, h2, h3⟩ := open_stms hf
  exact ⟨l, h1, h2, lies_one h3⟩
set_option maxRecDepth 100000 in
theorem fnExactSlimStmts_lifted (os : Os) (started : os.Started) (H : Type) (enc : TypeId × Value → H) :
    ReturnsInHanded {} Tryz.checked os 3 .any (Rows.fnExactSlimStmtsSpec.pre6 enc Tryz.prog Tryz.f3 Rows.fnExactSlimStmtsRow.domain false) (Rows.fnExactSlimStmtsSpec.post enc Tryz.prog Tryz.f3 false true false false) := by
  refine returnsInHanded_of_change (C := Tryz.checked) Tryz.own started (by kernel_rfl) Tryz.func3
    (ChangeSpec.witness6 (enc := enc) (C := Tryz.checked) false ⟨#[], #[.slice none 0 0], []⟩ 8 (by kernel_rfl) (by kernel_rfl) (by kernel_rfl) (by kernel_rfl)) ?_
  intro W base args ds gs before hval0 hW hcnd _
  have hval : ∀ (j : Nat) t v, Tryz.f3.params[j]? = some t → args[j]? = some v → Value.okWide Tryz.prog W .any base t v := hval0
  have hW' := hW
  obtain ⟨p, q, hA0, hV0, rfl, hfz, hnd⟩ := hW
  have hA : DataW.TrodAll enc Tryz.prog W 0 (fun _ => true) true Tryz.f3.params.toList args.toList ds p := hA0
  rw [Tryz.params3] at hA hval
  obtain ⟨v0, vs0, d0, ds0, p0, q0, hargs, rfl, rfl, h0, r0⟩ := trodAll_cons hA
  obtain ⟨rfl, rfl, rfl⟩ := trodAll_nil r0
  obtain rfl : args = #[v0] := by cases args; simp_all
  obtain ⟨rfl, rfl⟩ := trodVars_none hV0
  clear hA0 hV0 hval0
  have hlt : ∀ x ∈ (p0 ++ []), x.block < W.heap.size := fun x hx => by simpa using hW'.lt x (by simpa using hx)
  letI : Glob := noGlob
  obtain ⟨l, hl, hL2, hr0⟩ := open_stmsA (hval 0 22 v0 rfl rfl) h0
  refine (top_calls (W := W) (args := [.rows 72 (Sm.lcsL l)]) (noGlob_ok _ _) ⟨rfl, fun j hj => ?_⟩ (lawSlimS_ok l hl hL2)).mono fun e W' ⟨he, hb⟩ => ?_
  · match j, hj with
    | 0, _ => exact hr0
  subst he
  exact ⟨_, rfl, _, _, _, [], (p0 ++ []), [], hW', trodAll_cons_mk (shut_bool Tryz.underlying4 _) trodAll_mk0, (trodAll_cons_mk (WideElems.Trod_stays Tryz.laidOut (by kernel_rfl) (of_decide_eq_true (by kernel_rfl)) h0 (fun x hx => hb.same (hlt x (by simp [hx]))) (fun x hx => by simpa using hlt x (by simp [hx]))) trodAll_mk0), rfl, hb.frame _, fun h => by cases h⟩
theorem fnExactSlimStmts_holds : Rows.FnExactSlimStmtsSaid :=
  OpenClaim.holds_of_wide 3 Tryz.f3 rfl rfl rfl rfl rfl rfl rfl ⟨rfl, rfl, rfl, rfl, rfl⟩ rfl rfl rfl rfl rfl (by kernel_rfl) Tryz.func3 (by kernel_rfl)
    (of_decide_eq_true (by kernel_rfl)) (by unfold Func.isWrapper; first | (rw [if_pos (by decide +kernel)]; kernel_rfl) | (rw [if_neg (by decide +kernel)]; exact ⟨rfl, rfl⟩))
    (fun os started H enc _ => fnExactSlimStmts_lifted os started H enc)
end Go.Proofs.YtnmfmeehmieifaaGreat
