/- A part of a proof: lemmas and contracts of functions; the last text of the claim says what is proved. -/
import Derived.Test.YtnmfmeehmieifaaGreatXb4ad22c817
import Derived.ProofKit
import Derived.OpenShut
import Derived.ChangeArms
import Derived.WideShapes
set_option linter.unusedSectionVars false
set_option linter.unusedSimpArgs false
set_option linter.unusedVariables false
namespace Sg
open Go Go.ChangeShapes Go.WideShapes Go.ChangeAt Go.RowKit
set_option linter.unusedSectionVars false
variable [Glob]
def ghOf (W : World) : Gh := { io := fun _ => none, H := fun b => W.heap[b]? }
theorem top_calls {P : Program} {f : FuncId} {W : World} {vals : Array Value} {args : List PV} (hg : GlobOk P (ghOf W)) (hv : RL P (ghOf W) args vals) (hc : PureF P f args [.bool true]) :
    Calls P f vals W (fun e W' => e = .returned (.bool true) ∧ Below W.heap.size W W') := by
  rw [← callsIn_wide, ← Fe_none]
  have hi : Inv P (ghOf W) { f := fun _ => none, fr := fun _ => True } W :=
    ⟨fun _ _ h => h, fun i o h => (by cases h), fun i j o o' e e' h => (by cases h), fun i o e h => (by cases h), fun _ _ => rfl, hg⟩
  refine (hc _ [] ⟨0, fun _ _ => trivial⟩ (fun i o h => by simp [lk] at h) rfl List.nodup_nil (fun n hn => by simp at hn) (ghOf W) W vals hv hi).mono ?_
  rintro e w' ⟨g', out, k1, k2, k3, k4, rfl, k6⟩
  refine ⟨?_, ⟨k2.os, k2.tape, k2.output, k2.size, fun k hk => ?_⟩⟩
  · cases e with
    | returned v => cases k6; rfl
    | panicked ch => exact k6.elim
    | outgrown => exact k6.elim
  · have h1 : W.heap[k]? = some W.heap[k] := by rw [Array.getElem?_eq_getElem hk]
    rw [h1]
    exact k3.hH k _ (k1.H k _ h1)
abbrev noGlob : Glob := ⟨fun _ => none⟩
omit [Glob] in
theorem noGlob_ok (P : Program) (g : Gh) : @GlobOk noGlob P g := fun _ _ h => (by cases h)
section
variable {H : Type} {enc : TypeId × Value → H} {P : Program}
end
end Sg
namespace Sg
open Go Go.ChangeShapes Go.WideShapes Go.ChangeAt Go.RowKit
set_option linter.unusedSectionVars false
section
variable {H : Type} {enc : TypeId × Value → H} {P : Program}
theorem list_of {X : Type} [Inhabited X] {p : Nat → X → Prop} : ∀ n, (∀ i, i < n → ∃ y, p i y) → ∃ l : List X, l.length = n ∧ ∀ i, i < n → p i (l.getD i default)
  | 0, _ => ⟨[], rfl, fun i h => by omega⟩
  | n + 1, h => by
    obtain ⟨l, hl, hp⟩ := list_of n fun i hi => h i (by omega)
    obtain ⟨y, hy⟩ := h n (by omega)
    refine ⟨l ++ [y], by simp [hl], fun i hi => ?_⟩
    by_cases hin : i < n
    · have := hp i hin
      simpa [List.getD, List.getElem?_append_left (show i < l.length by omega)] using this
    · have : i = n := by omega
      subst this
      simpa [List.getD, ← hl] using hy
theorem cells_of {W : World} {ab ao n base : Nat} {spot : Option Nat} {cs : List Value} (h : W.cells? base ⟨ab, ao, spot⟩ n = some cs) (hn : 0 < n) : spot = none ∧ ∃ arr T fr, W.heap[ab]? = some (.cells arr T fr) ∧ cs.length = n ∧ ∀ j, j < n → arr[ao + j]? = cs[j]? := by
  unfold World.cells? at h
  split at h
  · have hl : cs.length = n := by simpa using mapM_some_length h
    have hg : ∀ j, j < n → W.cell? ((⟨ab, ao, spot⟩ : Addr).add j) = cs[j]? := fun j hj => mapM_some_get h j j (by simp [hj])
    have h0 := hg 0 hn
    rw [List.getElem?_eq_getElem (by omega)] at h0
    have hs : spot = none := by simpa [Addr.add] using World.cell?_spot h0
    subst hs
    refine ⟨rfl, ?_⟩
    rw [Addr.add_lit] at h0
    obtain ⟨arr, T, fr, hW⟩ : ∃ arr T fr, W.heap[ab]? = some (.cells arr T fr) := by
      unfold World.cell? at h0
      simp only at h0
      split at h0
      · exact ⟨_, _, _, by assumption⟩
      · cases h0
    refine ⟨arr, T, fr, hW, hl, fun j hj => ?_⟩
    have := hg j hj
    rw [Addr.add_lit] at this
    unfold World.cell? at this
    simpa [hW] using this
  · cases h
variable [Glob]
def Lies (P : Program) (W : World) (ps : List PV) (cs : List Value) : Prop := ps.length = cs.length ∧ ∀ j (hj : j < ps.length), R P (ghOf W) ps[j] (cs.getD j undef)
theorem open_slice {W : World} {base : Nat} {spare : Nat → Bool} {held : Bool} {t e : TypeId} (ht : P.underlying t = some (.slice e)) (hes : 0 < P.cellsOf e) {X : Type} [Inhabited X] (csX : X → List PV) (G : X → Prop) {fuel : Nat}
    (hl : ∀ x, (csX x).length = P.cellsOf e) (hp : ∀ x, PV.pureL (csX x) = true) (hc : ∀ x, ∀ y ∈ csX x, y.cell = true)
    (hX : ∀ n cs x, n < fuel → DataW.trod enc P W base spare held n e cs = some x → ∃ y, G y ∧ Lies P W (csX y) cs)
    {cs : List Value} {x : DataW H × List MemPlace} (h : DataW.trod enc P W base spare held fuel t cs = some x) : ∃ l : List X, (∀ i, i < l.length → G (l.getD i default)) ∧ l.length ≤ maxLen ∧ Lies P W [.rows e (l.map csX)] cs := by
  rcases DataW.trod_slice ht h with ⟨rfl, _⟩ | ⟨a, len, cap, elems, rest, n, hf, rfl, _, hb, hlc, hcm, hel, hE, _, _⟩
  · exact ⟨[], fun i h => by simp at h, by simp, rfl, fun j hj => by
      have : j = 0 := by simpa using hj
      subst this; exact .rows0 e none 0⟩
  · obtain ⟨ab, ao, spot⟩ := a
    by_cases h0 : len = 0
    · subst h0
      exact ⟨[], fun i h => by simp at h, by simp, rfl, fun j hj => by
        have : j = 0 := by simpa using hj
        subst this; exact .rows0 e _ cap⟩
    have key : ∀ i, i < len → ∃ y cs', W.cells? base ((⟨ab, ao, spot⟩ : Addr).add (i * P.cellsOf e)) (P.cellsOf e) = some cs' ∧ G y ∧ Lies P W (csX y) cs' := by
      intro i hi
      have := hE i hi
      rw [List.getElem?_eq_getElem (by omega), Option.bind_eq_some_iff] at this
      obtain ⟨cs', h1, h2⟩ := this
      obtain ⟨y, hg, hr⟩ := hX n cs' _ (by omega) h2
      exact ⟨y, cs', h1, hg, hr⟩
    obtain ⟨l, hll, hlp⟩ := list_of (p := fun i y => ∃ cs', W.cells? base ((⟨ab, ao, spot⟩ : Addr).add (i * P.cellsOf e)) (P.cellsOf e) = some cs' ∧ G y ∧ Lies P W (csX y) cs') len key
    obtain ⟨cs0, hc0, _, _⟩ := hlp 0 (by omega)
    have hs : spot = none := by
      have : (⟨ab, ao, spot⟩ : Addr).add (0 * P.cellsOf e) = ⟨ab, ao, spot⟩ := by simp [Addr.add]
      rw [this] at hc0
      exact (cells_of hc0 hes).1
    subst hs
    have hcell : ∀ i, i < len → ∃ arr T fr cs', W.heap[ab]? = some (.cells arr T fr) ∧ (∀ j, j < P.cellsOf e → arr[ao + i * P.cellsOf e + j]? = cs'[j]?) ∧ cs'.length = P.cellsOf e ∧ Lies P W (csX (l.getD i default)) cs' := by
      intro i hi
      obtain ⟨cs', h1, _, h2⟩ := hlp i hi
      have : (⟨ab, ao, none⟩ : Addr).add (i * P.cellsOf e) = ⟨ab, ao + i * P.cellsOf e, none⟩ := by rw [Addr.add_lit]
      rw [this] at h1
      obtain ⟨_, arr, T, fr, g1, g2, g3⟩ := cells_of h1 hes
      exact ⟨arr, T, fr, cs', g1, g3, g2, h2⟩
    obtain ⟨arr, T, fr, _, hW, _, _, _⟩ := hcell 0 (by omega)
    have hcell' : ∀ i, i < len → ∃ cs' : List Value, (∀ j, j < P.cellsOf e → arr[ao + i * P.cellsOf e + j]? = cs'[j]?) ∧ cs'.length = P.cellsOf e ∧ Lies P W (csX (l.getD i default)) cs' := by
      intro i hi
      obtain ⟨arr', T', fr', cs', g1, g2, g3, g4⟩ := hcell i hi
      rw [hW] at g1
      injection g1 with g1
      injection g1 with g1 _ _
      subst g1
      exact ⟨cs', g2, g3, g4⟩
    have hsz : ao + len * P.cellsOf e ≤ arr.size := by
      obtain ⟨cs', g1, g2, _⟩ := hcell' (len - 1) (by omega)
      have := g1 (P.cellsOf e - 1) (by omega)
      rw [List.getElem?_eq_getElem (by omega)] at this
      have := (Array.getElem?_eq_some_iff.1 this).1
      have e1 : (len - 1) * P.cellsOf e + P.cellsOf e = len * P.cellsOf e := by
        rw [← Nat.succ_mul]; congr 1; omega
      omega
    refine ⟨l, fun i hi => (hlp i (by omega)).choose_spec.2.1, by omega, rfl, fun j hj => ?_⟩
    have : j = 0 := by simpa using hj
    subst this
    have key := R.rows (P := P) (g := ghOf W) e (l.map csX) ab ao cap arr T fr hW hes (by rw [List.length_map]; omega) (by rw [List.length_map, hll]; exact hsz)
      (fun c hc' => by obtain ⟨y, _, rfl⟩ := List.mem_map.1 hc'; exact hl y)
      (fun c hc' => by obtain ⟨y, _, rfl⟩ := List.mem_map.1 hc'; exact hp y)
      (fun c hc' => by obtain ⟨y, _, rfl⟩ := List.mem_map.1 hc'; exact hc y)
      (fun i j hi hj => by
        have hi' : i < len := by rw [List.length_map] at hi; omega
        obtain ⟨cs', g1, g2, g3⟩ := hcell' i hi'
        have e0 : (l.map csX)[i] = csX (l.getD i default) := by simp [List.getD, show i < l.length by omega]
        have hj' : j < (csX (l.getD i default)).length := by rw [← e0]; exact hj
        have := g3.2 j hj'
        have e1 : (l.map csX)[i][j] = (csX (l.getD i default))[j] := by simp only [e0]
        rw [e1]
        have e2 : arr.getD (ao + i * P.cellsOf e + j) undef = cs'.getD j undef := by
          rw [Array.getD_eq_getD_getElem?, g1 j (by rw [← hl (l.getD i default)]; exact hj'), List.getD_eq_getElem?_getD]
        rw [e2]; exact this)
    rw [List.length_map, hll] at key
    exact key
theorem open_int {W : World} {base : Nat} {spare : Nat → Bool} {held : Bool} {t : TypeId} {k : IntKind} (ht : P.underlying t = some (.int k)) {fuel : Nat} {cs : List Value} {x : DataW H × List MemPlace} (h : DataW.trod enc P W base spare held fuel t cs = some x) :
    ∃ n, cs = [.int k n] ∧ (Lit.int k n).wf = true := by
  obtain ⟨n, h1, _, h2⟩ := DataW.trod_int ht h
  exact ⟨n, h1, h2⟩
end
end Sg
namespace Go.Proofs.YtnmfmeehmieifaaGreat
open Go Sg
set_option maxRecDepth 100000
set_option linter.unusedSimpArgs false
set_option linter.unusedVariables false
set_option linter.unusedSectionVars false
set_option maxHeartbeats 4000000
variable [Glob]
mutual
def Ex.lcs : Ex → List PV
  | .mk k n a l => [.int .i64 k, .int .i64 n, .int .i64 a.kind, .int .i64 a.at', .rows 70 (Ex.lcsL l)]
def Ex.lcsL : List Ex → List (List PV)
  | [] => []
  | e :: l => e.lcs :: Ex.lcsL l
end
@[go_sem] theorem Ex.lcs_eq (e : Ex) : e.lcs = [.int .i64 e.kind, .int .i64 e.n, .int .i64 e.a.kind, .int .i64 e.a.at', .rows 70 (Ex.lcsL e.kids)] := by cases e; simp only [Ex.lcs, Ex.kind, Ex.n, Ex.a, Ex.kids]
theorem Ex.lcsL_map (l : List Ex) : Ex.lcsL l = l.map Ex.lcs := by
  induction l with
  | nil => rfl
  | cons e l ih => simp [Ex.lcsL, ih]
@[go_sem] theorem Ex.lcsL_len (l : List Ex) : (Ex.lcsL l).length = l.length := by simp [Ex.lcsL_map]
@[go_sem] theorem Ex.lcsL_get (l : List Ex) (k : Nat) (h : k < l.length) : (Ex.lcsL l).getD k [] = (l.getD k default).lcs := by simp [Ex.lcsL_map, List.getD, h]
def Trn.lcs (t : Trn) : List PV := [.rows 3 (rowsI t.fr), .rows 3 (rowsI t.to'), .int .i64 t.w.kind, .int .i64 t.w.n, .int .i64 t.w.a.kind, .int .i64 t.w.a.at', .rows 70 (Ex.lcsL t.w.kids)]
@[go_sem] theorem Trn.lcs_eq (t : Trn) : t.lcs = [.rows 3 (rowsI t.fr), .rows 3 (rowsI t.to'), .int .i64 t.w.kind, .int .i64 t.w.n, .int .i64 t.w.a.kind, .int .i64 t.w.a.at', .rows 70 (Ex.lcsL t.w.kids)] := rfl
def rowsLT (l : List Trn) : List (List PV) := l.map Trn.lcs
@[go_sem] theorem rowsLT_len (l : List Trn) : (rowsLT l).length = l.length := by simp [rowsLT]
@[go_sem] theorem rowsLT_getD (l : List Trn) (k : Nat) (h : k < l.length) : (rowsLT l).getD k [] = (l.getD k default).lcs := by simp [rowsLT, List.getD, h]
def Cht.lcs (c : Cht) : List PV := [.int .i64 c.steps, .rows 152 (rowsLT c.ts), .rows 166 (rowsA c.as')]
@[go_sem] theorem Cht.lcs_eq (c : Cht) : c.lcs = [.int .i64 c.steps, .rows 152 (rowsLT c.ts), .rows 166 (rowsA c.as')] := rfl
mutual
def Ex.Len : Ex → Prop | .mk _ _ _ l => l.length ≤ maxLen ∧ Ex.LenL l
def Ex.LenL : List Ex → Prop
  | [] => True
  | e :: l => e.Len ∧ Ex.LenL l
end
theorem Ex.LenL_iff (l : List Ex) : Ex.LenL l ↔ ∀ e ∈ l, e.Len := by
  induction l with
  | nil => simp [Ex.LenL]
  | cons e l ih => simp [Ex.LenL, ih]
section
variable {H : Type} {enc : TypeId × Value → H} {W : World} {base : Nat} {spare : Nat → Bool} {held : Bool}
theorem open_ad {fuel : Nat} {cs : List Value} {x : DataW H × List MemPlace} (h : DataW.trod enc Tryz.prog W base spare held fuel 67 cs = some x) : ∃ a : AD, cs = [.int .i64 a.kind, .int .i64 a.at'] := by
  obtain ⟨xs, n, hf, hx, hl, hxs, hfs⟩ := DataW.trod_struct Tryz.underlying67 h
  rw [cellsOf67] at hl
  match cs, hl with
  | [c0, c1], _ =>
    have h0 := hfs 0 _ rfl
    have h1 := hfs 1 _ rfl
    have l0 : (0 : Nat) < xs.length := by rw [hxs]; decide
    have l1 : (1 : Nat) < xs.length := by rw [hxs]; decide
    rw [List.getElem?_eq_getElem l0] at h0
    rw [List.getElem?_eq_getElem l1] at h1
    obtain ⟨a, ha, _⟩ := open_int Tryz.underlying3 h0
    obtain ⟨b, hb, _⟩ := open_int Tryz.underlying3 h1
    simp [cellsOf3] at ha hb
    exact ⟨⟨a, b⟩, by rw [ha, hb]⟩
theorem lcs_pure (e : Ex) : PV.pureL e.lcs = true := by rw [Ex.lcs_eq]; rfl
theorem lcs_cell (e : Ex) : ∀ y ∈ e.lcs, y.cell = true := by
  rw [Ex.lcs_eq]
  intro y hy
  simp only [List.mem_cons, List.not_mem_nil, or_false] at hy
  rcases hy with rfl | rfl | rfl | rfl | rfl <;> rfl
theorem open_ex : ∀ (fuel : Nat) (cs : List Value) (x : DataW H × List MemPlace), DataW.trod enc Tryz.prog W base spare held fuel 70 cs = some x → ∃ e : Ex, e.Len ∧ Lies Tryz.prog W e.lcs cs := by
  intro fuel
  induction fuel using Nat.strongRecOn with
  | _ fuel ih =>
    intro cs x h
    obtain ⟨xs, n, hf, hx, hl, hxs, hfs⟩ := DataW.trod_struct Tryz.underlying70 h
    rw [cellsOf70] at hl
    match cs, hl with
    | [c0, c1, c2, c3, c4], _ =>
      have h0 := hfs 0 _ rfl
      have h1 := hfs 1 _ rfl
      have h2 := hfs 2 _ rfl
      have h3 := hfs 3 _ rfl
      have l0 : (0 : Nat) < xs.length := by rw [hxs]; decide
      have l1 : (1 : Nat) < xs.length := by rw [hxs]; decide
      have l2 : (2 : Nat) < xs.length := by rw [hxs]; decide
      have l3 : (3 : Nat) < xs.length := by rw [hxs]; decide
      rw [List.getElem?_eq_getElem l0] at h0
      rw [List.getElem?_eq_getElem l1] at h1
      rw [List.getElem?_eq_getElem l2] at h2
      rw [List.getElem?_eq_getElem l3] at h3
      obtain ⟨k, hk, _⟩ := open_int Tryz.underlying3 h0
      obtain ⟨m, hm, _⟩ := open_int Tryz.underlying3 h1
      obtain ⟨a, ha⟩ := open_ad h2
      obtain ⟨l, hl1, hl2, hl3⟩ := open_slice Tryz.underlying68 (by rw [cellsOf70]; decide) Ex.lcs Ex.Len (fun e => by rw [cellsOf70, Ex.lcs_eq]; rfl) lcs_pure lcs_cell (fun j cs' x' hj h' => ih j (by omega) cs' x' h') h3
      simp [cellsOf3] at hk hm
      simp [cellsOf67] at ha
      simp [cellsOf68] at hl3
      obtain ⟨hl4, hl5⟩ := hl3
      refine ⟨.mk k m a l, ⟨hl2, (Ex.LenL_iff l).2 fun e he => ?_⟩, rfl, fun j hj => ?_⟩
      · obtain ⟨i, hi, rfl⟩ := List.getElem_of_mem he
        have := hl1 i hi
        simpa [List.getD, hi] using this
      · have hr := hl5 0 (by simp)
        match j, hj with
        | 0, _ => simp only [Ex.lcs, List.getElem_cons_zero]; rw [hk]; exact .int _ _
        | 1, _ => simp only [Ex.lcs]; rw [hm]; exact .int _ _
        | 2, _ => simp only [Ex.lcs]; rw [ha.1]; exact .int _ _
        | 3, _ => simp only [Ex.lcs]; rw [ha.2]; exact .int _ _
        | 4, _ => simp only [Ex.lcs, Ex.lcsL_map]; exact hr
end
end Go.Proofs.YtnmfmeehmieifaaGreat
namespace Go.Proofs.YtnmfmeehmieifaaGreat
open Go Sg
set_option maxRecDepth 100000
set_option linter.unusedSimpArgs false
set_option linter.unusedVariables false
set_option linter.unusedSectionVars false
set_option maxHeartbeats 4000000
variable [Glob]
section
variable {X : Type} [Inhabited X] (csX : X → List PV) (z : List PV)
def fillC (l : List X) (i : Nat) : List PV := ((l.take i).map csX).flatten ++ rep (l.length - i) z
theorem flat_len {w : Nat} (hw : ∀ x, (csX x).length = w) (l : List X) : ((l.map csX).flatten).length = l.length * w := by
  induction l with
  | nil => simp
  | cons x l ih => simp only [List.map_cons, List.flatten_cons, List.length_append, ih, hw, List.length_cons, Nat.succ_mul]; omega
theorem fillC_len {w : Nat} (hw : ∀ x, (csX x).length = w) (hz : z.length = w) (l : List X) (i : Nat) (h : i ≤ l.length) : (fillC csX z l i).length = l.length * w := by
  rw [fillC, List.length_append, flat_len csX hw, rep_length, hz, List.length_take, ← Nat.add_mul]
  congr 1; omega
theorem fillC_zero (l : List X) : fillC csX z l 0 = rep l.length z := by simp [fillC]
theorem fillC_all (l : List X) : fillC csX z l l.length = (l.map csX).flatten := by
  rw [fillC, List.take_of_length_le (Nat.le_refl _), Nat.sub_self, rep, List.replicate_zero, List.flatten_nil, List.append_nil]
theorem fillC_set {w : Nat} (hw : ∀ x, (csX x).length = w) (hz : z.length = w) (l : List X) (i : Nat) (h : i < l.length) : splice (fillC csX z l i) (i * w) (csX (l.getD i default)) = fillC csX z l (i + 1) := by
  have h1 : (((l.take i).map csX).flatten).length = i * w := by rw [flat_len csX hw, List.length_take, Nat.min_eq_left (by omega)]
  have h2 : rep (l.length - i) z = z ++ rep (l.length - (i + 1)) z := by
    rw [show l.length - i = l.length - (i + 1) + 1 from by omega, rep, List.replicate_succ, List.flatten_cons]; rfl
  rw [fillC, fillC, splice, h2, hw, List.take_succ_eq_append_getElem h, List.map_append, List.flatten_append]
  rw [List.take_append_of_le_length (by omega), List.take_of_length_le (by omega), List.drop_append, List.drop_of_length_le (by omega), h1, Nat.add_sub_cancel_left, ← hz, List.drop_left, List.nil_append]
  simp [List.getD, h]
theorem rowsOf_map {e : TypeId} (he : 0 < Tryz.prog.cellsOf e) (hw : ∀ x, (csX x).length = Tryz.prog.cellsOf e) (hp : ∀ x, PV.pureL (csX x) = true) {f : Nat → Option AObj} {id : Nat} {T : TypeId} {l : List X} (h : f id = some (.cells T ((l.map csX).flatten))) : RowsOf Tryz.prog f e id 0 l.length (l.map csX) := by
  refine ⟨he, by simp, ?_, T, _, h, ?_, ?_⟩
  · intro c hc
    obtain ⟨x, _, rfl⟩ := List.mem_map.1 hc
    exact ⟨hw x, hp x⟩
  · rw [flat_len csX hw]; omega
  · rw [List.drop_zero, List.take_of_length_le (by rw [flat_len csX hw]; omega)]
end
theorem frzF {r : Option Nat} {N : Nat} {c : Code} {s : MS} {Q : ExitA → MS → Prop} {X : Type} [Inhabited X] (csX : X → List PV) (e : TypeId) (he : 0 < Tryz.prog.cellsOf e) (hw : ∀ x, (csX x).length = Tryz.prog.cellsOf e) (hp : ∀ x, PV.pureL (csX x) = true) (x : Nat) (l : List X) (hx : s.B ≤ x) (T : TypeId) (h1 : s.f x = some (.cells T ((l.map csX).flatten)))
    (h : wpM Tryz.prog r N c (s.frz [x] [(e, x, 0, l.length, l.map csX)]) Q) : wpM Tryz.prog r N c s Q := by
  refine wpM_frz [x] _ (by intro q hq; simp at hq; subst hq; assumption) (by
      intro q hq
      simp only [List.mem_cons, List.not_mem_nil, or_false] at hq
      subst hq
      exact ⟨by simp, rowsOf_map csX he hw hp h1⟩) h
end Go.Proofs.YtnmfmeehmieifaaGreat
namespace Go.Proofs.YtnmfmeehmieifaaGreat
open Go Sg
set_option maxRecDepth 100000
set_option linter.unusedSimpArgs false
set_option linter.unusedVariables false
set_option linter.unusedSectionVars false
set_option maxHeartbeats 4000000
variable [Glob]
abbrev iC (n : Int) : List PV := [.int .i64 n]
theorem iC_zero (l : List Int) : ints (List.replicate l.length 0) = fillC iC [.int .i64 0] l 0 := by rw [fillC_zero, rep_ints]
theorem iC_set (l : List Int) (i : Nat) (h : i < l.length) : splice (fillC iC [.int .i64 0] l i) i [.int .i64 (l.getD i 0)] = fillC iC [.int .i64 0] l (i + 1) := by
  have := fillC_set iC [.int .i64 0] (w := 1) (fun _ => rfl) rfl l i h
  rw [Nat.mul_one] at this
  exact this
theorem toInt_ok (l : List Int) (hl : l.length ≤ 1048576) : PureF Tryz.prog 62 [.rows 3 (rowsI l)] [.rows 3 (rowsI l)] := by
  refine pureF_of Tryz.func62 rfl Tryz.ntmps62 (by simp) T_ ?_
  intro f0 B Q hQ
  refine g_ [0] ?_
  refine g_ [0,3] ?_
  rw [iC_zero]
  refine g_ [0,3,4] ?_
  refine n_ ?_
  refine wpM_loopS (fun s n s' => ∃ (i0 M0 : Nat) , i0 + n = l.length ∧ s.M ≤ M0 ∧ (Tr i0) ∧ s' = { s with env := setE 4 (.int .i64 (i0 : Nat)) s.env, l := [(B, .cells 3 (fillC iC [.int .i64 0] l i0))], M := M0 }) (l.length) ?_ ?_
  ·
    refine .of' _ _ ⟨0, _, by omega, Nat.le_refl _, trivial, rfl⟩ ?_ ?_ ?_ <;> exact L_
  rintro n0 s' ⟨i0, M0, hi0, hM0, hv0, rfl⟩
  try dsimp only at hM0
  try refine S_ ?_
  refine g_ [0,3,4,11] ?_
  refine c_ (fun hc0 => ?_) fun hc0 => ?_
  ·
    have hl0 : i0 < l.length := by omega
    have hfl := fillC_len iC [.int .i64 0] (w := 1) (fun _ => rfl) rfl l i0 (by omega)
    have hfs := iC_set l i0 hl0
    refine n_ ?_
    refine wpM_regionK [0,3,4] rfl fun Q1 hQ1 => ?_
    simp -implicitDefEqProofs (disch := omega) only [go_sem, hfl, hfs]
    refine hQ1 _ _ (S_ ?_);clear hQ1 Q1
    refine g_ [0,3,4] ?_
    refine .of' _ _ ⟨n0 - 1, by omega, i0 + 1, _, by omega, M_, ?_, rfl⟩ L_ L_ L_
    first | trivial | omega
  refine n_ ?_
  have hie : i0 = l.length := by omega
  rw [hie, fillC_all]
  refine frzF iC 3 (by rw [cellsOf3]; decide) (fun _ => by rw [cellsOf3]; rfl) (fun _ => rfl) B l T_ 3 T_ ?_
  refine S_ ?_
  refine g_ [2] ?_
  refine e_ Tryz.results62 ?_
  first
  | exact True.intro
  | rfl
theorem toAddr_ok (a : AD) : PureF Tryz.prog 86 [.agg [.int .i64 a.kind, .int .i64 a.at']] [.agg [.int .i64 a.kind, .int .i64 a.at']] := by
  refine pureF_of Tryz.func86 rfl Tryz.ntmps86 (by simp) T_ ?_
  intro f0 B Q hQ
  refine g_ [1,2] ?_
  refine g_ [1,2,3] ?_
  refine g_ [1,2,3] ?_
  refine g_ [2,3] ?_
  refine g_ [2] ?_
  exact e_ Tryz.results86 True.intro
theorem toAct_ok (a : GAct) : PureF Tryz.prog 107 [.agg a.cs] [.agg a.cs] := by
  refine pureF_of Tryz.func107 rfl Tryz.ntmps107 (by simp) T_ ?_
  intro f0 B Q hQ
  refine g_ [1,2] ?_
  refine g_ [1,2,3] ?_
  refine g_ [1,2,3] ?_
  refine g_ [1,2,3] ?_
  refine n_ ?_
  refine wpM_regionK [2,3] rfl fun Q1 hQ1 => ?_
  refine S_ ?_
  refine cp_ (toAddr_ok a.to') Tryz.call86 ?_
  refine hQ1 _ _ (S_ ?_);clear hQ1 Q1
  refine g_ [2] ?_
  exact e_ Tryz.results107 True.intro
abbrev aZ : List PV := [.int .i64 0, .int .i64 0, .int .i64 0, .int .i64 0]
theorem toActS_ok (l : List GAct) (hl : l.length ≤ 1048576) : PureF Tryz.prog 60 [.rows 166 (rowsA l)] [.rows 158 (rowsA l)] := by
  refine pureF_of Tryz.func60 rfl Tryz.ntmps60 (by simp) T_ ?_
  intro f0 B Q hQ
  refine g_ [0] ?_
  refine g_ [0,3] ?_
  rw [← fillC_zero GAct.cs aZ l]
  refine g_ [0,3,4] ?_
  refine n_ ?_
  refine wpM_loopS (fun s n s' => ∃ (i0 M0 : Nat) , i0 + n = l.length ∧ s.M ≤ M0 ∧ (Tr i0) ∧ s' = { s with env := setE 4 (.int .i64 (i0 : Nat)) s.env, l := [(B, .cells 158 (fillC GAct.cs aZ l i0))], M := M0 }) (l.length) ?_ ?_
  ·
    refine .of' _ _ ⟨0, _, by omega, Nat.le_refl _, trivial, rfl⟩ ?_ ?_ ?_ <;> exact L_
  rintro n0 s' ⟨i0, M0, hi0, hM0, hv0, rfl⟩
  try dsimp only at hM0
  try refine S_ ?_
  refine g_ [0,3,4,11] ?_
  refine c_ (fun hc0 => ?_) fun hc0 => ?_
  ·
    have hl0 : i0 < l.length := by omega
    have hfl := fillC_len GAct.cs aZ (w := 4) (fun _ => rfl) rfl l i0 (by omega)
    have hfs := fillC_set GAct.cs aZ (w := 4) (fun _ => rfl) rfl l i0 hl0
    rw [GAct.cs_eq] at hfs
    refine n_ ?_
    refine wpM_regionK [0,3,4] rfl fun Q1 hQ1 => ?_
    simp -implicitDefEqProofs (disch := omega) only [go_sem, hfl, hfs]
    refine call_p (toAct_ok (l.getD i0 default)) Tryz.call107 rfl rfl rfl (by first | rfl | (simp -implicitDefEqProofs (disch := omega) only [go_sem] <;> rfl)) ?_
    simp -implicitDefEqProofs (disch := omega) only [go_sem, hfl, hfs]
    refine hQ1 _ _ (S_ ?_);clear hQ1 Q1
    refine g_ [0,3,4] ?_
    refine .of' _ _ ⟨n0 - 1, by omega, i0 + 1, _, by omega, M_, ?_, rfl⟩ L_ L_ L_
    first | trivial | omega
  refine n_ ?_
  have hie : i0 = l.length := by omega
  rw [hie, fillC_all]
  refine frzF GAct.cs 158 (by rw [cellsOf158]; decide) (fun _ => by rw [cellsOf158]; rfl) (fun _ => rfl) B l T_ 158 T_ ?_
  refine S_ ?_
  refine g_ [2] ?_
  refine e_ Tryz.results60 ?_
  first
  | exact True.intro
  | rfl
def ToX (l : List Ex) : Prop := PureF Tryz.prog 133 [.rows 70 (Ex.lcsL l)] [.rows 77 (Ex.csL l)]
theorem toExpr_ok' (e : Ex) (ih : ToX e.kids) : PureF Tryz.prog 87 [.agg e.lcs] [.agg e.cs] := by
  refine pureF_of Tryz.func87 rfl Tryz.ntmps87 (by simp) T_ ?_
  intro f0 B Q hQ
  refine g_ [1,2] ?_
  refine g_ [1,2,3] ?_
  refine g_ [1,2,3] ?_
  refine g_ [1,2,3] ?_
  refine n_ ?_
  refine wpM_regionK [1,2,3] rfl fun Q1 hQ1 => ?_
  refine S_ ?_
  refine cp_ (toAddr_ok e.a) Tryz.call86 ?_
  refine hQ1 _ _ (S_ ?_);clear hQ1 Q1
  refine n_ ?_
  refine wpM_regionK [2,3] rfl fun Q1 hQ1 => ?_
  refine S_ ?_
  refine cp_ (ih) Tryz.call133 ?_
  refine hQ1 _ _ (S_ ?_);clear hQ1 Q1
  refine g_ [2] ?_
  exact e_ Tryz.results87 True.intro
abbrev xZ : List PV := [.int .i64 0, .int .i64 0, .int .i64 0, .int .i64 0, .emp]
theorem cs_len (e : Ex) : e.cs.length = 5 := by rw [Ex.cs_eq]; rfl
theorem cs_pureL (e : Ex) : PV.pureL e.cs = true := by rw [Ex.cs_eq]; rfl
theorem toExprS_ok : ∀ (N : Nat) (l : List Ex), Ex.szL l ≤ N → Ex.szL l ≤ 1048576 → ToX l := by
  intro N
  induction N using Nat.strongRecOn with
  | _ N ih =>
    intro l hN hs
    have hll := Ex.len_szL l
    refine pureF_of Tryz.func133 rfl Tryz.ntmps133 (by simp) T_ ?_
    intro f0 B Q hQ
    refine g_ [0] ?_
    refine g_ [0,3] ?_
    rw [← fillC_zero Ex.cs xZ l]
    refine g_ [0,3,4] ?_
    refine n_ ?_
    refine wpM_loopS (fun s n s' => ∃ (i0 M0 : Nat) , i0 + n = l.length ∧ s.M ≤ M0 ∧ (Tr i0) ∧ s' = { s with env := setE 4 (.int .i64 (i0 : Nat)) s.env, l := [(B, .cells 77 (fillC Ex.cs xZ l i0))], M := M0 }) (l.length) ?_ ?_
    ·
      refine .of' _ _ ⟨0, _, by omega, Nat.le_refl _, trivial, rfl⟩ ?_ ?_ ?_ <;> exact L_
    rintro n0 s' ⟨i0, M0, hi0, hM0, hv0, rfl⟩
    try dsimp only at hM0
    try refine S_ ?_
    refine g_ [0,3,4,11] ?_
    refine c_ (fun hc0 => ?_) fun hc0 => ?_
    ·
      have hl0 : i0 < l.length := by omega
      have hfl := fillC_len Ex.cs xZ (w := 5) cs_len rfl l i0 (by omega)
      have hfs := fillC_set Ex.cs xZ (w := 5) cs_len rfl l i0 hl0
      rw [Ex.cs_eq] at hfs
      have hg := Ex.get_szL l i0 hl0
      rw [Ex.sz_eq] at hg
      refine n_ ?_
      refine wpM_regionK [0,3,4] rfl fun Q1 hQ1 => ?_
      simp -implicitDefEqProofs (disch := omega) only [go_sem, hfl, hfs]
      refine call_p (toExpr_ok' (l.getD i0 default) (ih (Ex.szL (l.getD i0 default).kids) (by omega) _ (Nat.le_refl _) (by omega))) Tryz.call87 rfl rfl rfl (by first | rfl | (simp -implicitDefEqProofs (disch := omega) only [go_sem] <;> rfl)) ?_
      simp -implicitDefEqProofs (disch := omega) only [go_sem, hfl, hfs]
      refine hQ1 _ _ (S_ ?_);clear hQ1 Q1
      refine g_ [0,3,4] ?_
      refine .of' _ _ ⟨n0 - 1, by omega, i0 + 1, _, by omega, M_, ?_, rfl⟩ L_ L_ L_
      first | trivial | omega
    refine n_ ?_
    have hie : i0 = l.length := by omega
    rw [hie, fillC_all]
    refine frzF Ex.cs 77 (by rw [cellsOf77]; decide) (fun e => by rw [cellsOf77]; exact cs_len e) cs_pureL B l T_ 77 T_ ?_
    rw [← Ex.csL_map]
    refine S_ ?_
    refine g_ [2] ?_
    refine e_ Tryz.results133 ?_
    first
    | exact True.intro
    | rfl
theorem toExpr_ok (e : Ex) (h : Ex.szL e.kids ≤ 1048576) : PureF Tryz.prog 87 [.agg e.lcs] [.agg e.cs] := toExpr_ok' e (toExprS_ok _ _ (Nat.le_refl _) h)
end Go.Proofs.YtnmfmeehmieifaaGreat
namespace Go.Proofs.YtnmfmeehmieifaaGreat
open Go Sg
set_option maxRecDepth 100000
set_option linter.unusedSimpArgs false
set_option linter.unusedVariables false
set_option linter.unusedSectionVars false
set_option maxHeartbeats 4000000
variable [Glob]
theorem ints_lit (l : List Int) : (ints l).all PV.lit = true := by simp [ints, PV.lit]
theorem own_ints (id : Nat) (l : List Int) : Owns Tryz.prog [.sl 3 id 0 l.length] [.rows 3 (rowsI l)] [(id, .cells 3 (ints l))] := by
  refine ownsSl id l.length (rowsI_len l) (by rw [cellsOf3]; decide) (fun x hx => ?_) ?_
  · simp only [rowsI, List.mem_map] at hx
    obtain ⟨n, _, rfl⟩ := hx
    rw [cellsOf3]; exact ⟨rfl, rfl⟩
  · rw [rowsI_flat]; exact ownsL _ (ints_lit l)
theorem toIntT_ok (l : List Int) (hl : l.length ≤ 1048576) : CallF Tryz.prog 62 [.rows 3 (rowsI l)] [] 1 (OwnR Tryz.prog id [.rows 3 (rowsI l)]) := by
  refine callF_of' Tryz.func62 rfl Tryz.ntmps62 (by simp) ?_
  intro f0 B ns Q hB hns hQ
  refine g_ [0] ?_
  refine g_ [0,3] ?_
  rw [iC_zero]
  refine g_ [0,3,4] ?_
  refine n_ ?_
  refine wpM_loopS (fun s n s' => ∃ (i0 M0 : Nat) , i0 + n = l.length ∧ s.M ≤ M0 ∧ (Tr i0) ∧ s' = { s with env := setE 4 (.int .i64 (i0 : Nat)) s.env, l := [(B, .cells 3 (fillC iC [.int .i64 0] l i0))], M := M0 }) (l.length) ?_ ?_
  ·
    refine .of' _ _ ⟨0, _, by omega, Nat.le_refl _, trivial, rfl⟩ ?_ ?_ ?_ <;> exact L_
  rintro n0 s' ⟨i0, M0, hi0, hM0, hv0, rfl⟩
  try dsimp only at hM0
  try refine S_ ?_
  refine g_ [0,3,4,11] ?_
  refine c_ (fun hc0 => ?_) fun hc0 => ?_
  ·
    have hl0 : i0 < l.length := by omega
    have hfl := fillC_len iC [.int .i64 0] (w := 1) (fun _ => rfl) rfl l i0 (by omega)
    have hfs := iC_set l i0 hl0
    refine n_ ?_
    refine wpM_regionK [0,3,4] rfl fun Q1 hQ1 => ?_
    simp -implicitDefEqProofs (disch := omega) only [go_sem, hfl, hfs]
    refine hQ1 _ _ (S_ ?_);clear hQ1 Q1
    refine g_ [0,3,4] ?_
    refine .of' _ _ ⟨n0 - 1, by omega, i0 + 1, _, by omega, M_, ?_, rfl⟩ L_ L_ L_
    first | trivial | omega
  refine n_ ?_
  have hie : i0 = l.length := by omega
  rw [hie, fillC_all, show (l.map iC).flatten = ints l from rowsI_flat l]
  refine g_ [2] ?_
  refine wpM_ret ?_
  try refine S_ ?_
  exact hQ _ _ (retOwnI (M := B + 1) (.inl rfl) [(B, .cells 3 (ints l))] (own_ints B l) rfl rfl rfl (by rw [Tryz.results62] <;> simp (maxSteps := 1000000) -implicitDefEqProofs (disch := omega) only [go_sem] <;> rfl) (by rw [hns]; rfl) (by simp [inR_cons, inR_nil]) (fun q hq => hq) (by simp [ksL]))
mutual
def Ex.nS : Ex → Nat | .mk _ _ _ l => 1 + Ex.nSL l
def Ex.nSL : List Ex → Nat | [] => 0 | e :: l => e.nS + Ex.nSL l
end
theorem Ex.nS_eq (e : Ex) : e.nS = 1 + Ex.nSL e.kids := by cases e; simp only [Ex.nS, Ex.kids]
theorem Ex.nSL_take (l : List Ex) (i : Nat) (h : i < l.length) : Ex.nSL (l.take (i + 1)) = Ex.nSL (l.take i) + (l.getD i default).nS := by
  have key : ∀ l : List Ex, Ex.nSL l = (l.map Ex.nS).sum := by
    intro l
    induction l with
    | nil => rfl
    | cons e l ih => simp [Ex.nSL, ih]
  rw [key, key, List.take_succ_eq_append_getElem h, List.map_append, List.sum_append]
  simp [List.getD, h]
def TxS (l : List Ex) : Prop := CallF Tryz.prog 133 [.rows 70 (Ex.lcsL l)] [] (1 + Ex.nSL l) (OwnR Tryz.prog id [.rows 77 (Ex.csL l)])
theorem own_ex {e : Ex} {cs : List PV} {T : List (Nat × AObj)} (h : Owns Tryz.prog cs e.cs T) : ∃ id, cs = [.int .i64 e.kind, .int .i64 e.n, .int .i64 e.a.kind, .int .i64 e.a.at', .sl 77 id 0 e.kids.length] := by
  rw [Ex.cs_eq] at h
  obtain ⟨c1, rfl, h1⟩ := h.lit rfl
  obtain ⟨c2, rfl, h2⟩ := h1.lit rfl
  obtain ⟨c3, rfl, h3⟩ := h2.lit rfl
  obtain ⟨c4, rfl, h4⟩ := h3.lit rfl
  obtain ⟨id, c0, T0, cs', T', rfl, rfl, h0, h5, _, _⟩ := h4.rows
  obtain ⟨rfl, rfl⟩ := h5.none
  exact ⟨id, by rw [Ex.csL_len]⟩
theorem own_exL {l : List Ex} {cs : List PV} {T : List (Nat × AObj)} (h : Owns Tryz.prog cs [.rows 77 (Ex.csL l)] T) : ∃ id c0 T0, cs = [.sl 77 id 0 l.length] ∧ T = (id, .cells 77 c0) :: T0 ∧ Owns Tryz.prog c0 (Ex.csL l).flatten T0 := by
  obtain ⟨id, c0, T0, cs', T', rfl, rfl, h0, h1, _, _⟩ := h.rows
  obtain ⟨rfl, rfl⟩ := h1.none
  exact ⟨id, c0, T0, by rw [Ex.csL_len], by rw [List.append_nil], h0⟩
theorem toExprT' (e : Ex) (ih : TxS e.kids) : CallF Tryz.prog 87 [.agg e.lcs] [] e.nS (OwnR Tryz.prog wA e.cs) := by
  rw [Ex.nS_eq]
  refine callF_of' Tryz.func87 rfl Tryz.ntmps87 (by simp) ?_
  intro f0 B ns Q hB hns hQ
  refine g_ [1,2] ?_
  refine g_ [1,2,3] ?_
  refine g_ [1,2,3] ?_
  refine g_ [1,2,3] ?_
  refine n_ ?_
  refine wpM_regionK [1,2,3] rfl fun Q1 hQ1 => ?_
  refine S_ ?_
  refine cp_ (toAddr_ok e.a) Tryz.call86 ?_
  refine hQ1 _ _ (S_ ?_);clear hQ1 Q1
  refine n_ ?_
  refine wpM_regionK [2,3] rfl fun Q1 hQ1 => ?_
  refine S_ ?_
  refine call_own (ps := [.rows 70 (Ex.lcsL e.kids)]) ih Tryz.call133 rfl rfl rfl F_ (by simp [inR_cons, inR_nil] <;> omega) (by show B ≤ B + 3; omega) ?_
  intro cs T hO hI hk
  obtain ⟨id, c0, T0, rfl, rfl, h0⟩ := own_exL hO
  dsimp only at hI hk
  refine S_ ?_
  refine hQ1 _ _ (S_ ?_);clear hQ1 Q1
  refine g_ [2] ?_
  refine wpM_ret ?_
  try refine S_ ?_
  refine hQ _ _ (retOwnI (M := B + 3 + (1 + Ex.nSL e.kids)) (.inr rfl) ((id, .cells 77 c0) :: T0) (cs := [.int .i64 e.kind, .int .i64 e.n, .int .i64 e.a.kind, .int .i64 e.a.at', .sl 77 id 0 e.kids.length]) ?_ rfl rfl rfl (by rw [Tryz.results87] <;> simp (maxSteps := 1000000) -implicitDefEqProofs (disch := omega) only [go_sem] <;> rfl) ?_ ?_ ?_ ?_)
  · rw [Ex.cs_eq]
    exact .sc _ _ _ _ rfl (.sc _ _ _ _ rfl (.sc _ _ _ _ rfl (.sc _ _ _ _ rfl hO)))
  · rw [hk, hns]
  · exact InR.app (l := [_, _, _]) (M := B + 3) (by simp [inR_cons, inR_nil] <;> omega) hI (by show B ≤ B + 3; omega) (by omega)
  · exact fun q hq => List.mem_cons_of_mem _ (List.mem_cons_of_mem _ (List.mem_cons_of_mem _ hq))
  · exact hI.nd
theorem toExprST : ∀ (N : Nat) (l : List Ex), Ex.szL l ≤ N → Ex.szL l ≤ 1048576 → TxS l := by
  intro N
  induction N using Nat.strongRecOn with
  | _ N ih =>
    intro l hN hs
    have hll := Ex.len_szL l
    unfold TxS
    refine callF_of' Tryz.func133 rfl Tryz.ntmps133 (by simp) ?_
    intro f0 B ns Q hB hns hQ
    refine g_ [0] ?_
    refine g_ [0,3] ?_
    refine g_ [0,3,4] ?_
    refine n_ ?_
    refine wpM_loopS (fun s r s' => ∃ (i0 M0 : Nat) (C : List PV) (D : List (Nat × AObj)), i0 + r = l.length ∧ Owns Tryz.prog C ((l.take i0).map Ex.cs).flatten D ∧ B + 1 ≤ M0 ∧ InR (B + 1) M0 D ∧ (ksL D).length = Ex.nSL (l.take i0) ∧ s' = { s with env := setE 4 (.int .i64 (i0 : Nat)) s.env, l := (B, .cells 77 (C ++ rep (l.length - i0) xZ)) :: D, M := M0 }) (l.length) ?_ ?_
    ·
      refine .of' _ _ ⟨0, B + 1, [], [], by omega, .nil, Nat.le_refl _, inR_nil, rfl, rfl⟩ ?_ ?_ ?_ <;> exact L_
    rintro r s' ⟨i0, M0, C, D, hir, hO, hM, hI, hk, rfl⟩
    try refine S_ ?_
    refine g_ [0,3,4,11] ?_
    refine c_ (fun hc0 => ?_) fun hc0 => ?_
    ·
      have hl0 : i0 < l.length := by omega
      have hCl : C.length = i0 * 5 := by rw [hO.len]; exact flat_take_len cs_len (by omega)
      have hfl := fill_len (z := xZ) (n := l.length) hCl rfl (by omega)
      have hg := Ex.get_szL l i0 hl0
      rw [Ex.sz_eq] at hg
      refine n_ ?_
      refine wpM_regionK [0,3,4] rfl fun Q1 hQ1 => ?_
      simp -implicitDefEqProofs (disch := omega) only [go_sem, hfl]
      refine call_own (ps := [.agg (l.getD i0 default).lcs]) (toExprT' (l.getD i0 default) (ih (Ex.szL (l.getD i0 default).kids) (by omega) _ (Nat.le_refl _) (by omega))) Tryz.call87 rfl rfl rfl F_ (hI.push (Nat.le_refl _) hM) (by show B ≤ M0; omega) ?_
      intro cs T hO2 hI2 hk2
      obtain ⟨id, rfl⟩ := own_ex hO2
      dsimp only at hI2 hk2
      simp -implicitDefEqProofs (disch := omega) only [go_sem, hfl]
      refine hQ1 _ _ (S_ ?_);clear hQ1 Q1
      refine g_ [0,3,4] ?_
      have hsp := splice_fill (z := xZ) (v := [PV.int .i64 (l.getD i0 default).kind, .int .i64 (l.getD i0 default).n, .int .i64 (l.getD i0 default).a.kind, .int .i64 (l.getD i0 default).a.at', .sl 77 id 0 (l.getD i0 default).kids.length]) hCl rfl rfl hl0
      have hI3 := hI.app hI2 hM (by omega)
      rw [hsp]
      refine .of' _ _ ⟨r - 1, by omega, i0 + 1, _, _, D ++ T, by omega, hO.snoc hl0 hO2, by omega, hI3, by rw [ksL_app, List.length_append, hk, hk2, Ex.nSL_take l i0 hl0], rfl⟩ ?_ ?_ ?_
      · exact L_
      · exact subL_of (hI3.push (k := B) (Nat.le_refl _) (by omega)).nd (fun p hp => hp)
      · exact (hI3.push (k := B) (Nat.le_refl _) (by omega)).keep
    refine g_ [2] ?_
    refine wpM_ret ?_
    try refine S_ ?_
    obtain rfl : i0 = l.length := by omega
    rw [List.take_of_length_le (Nat.le_refl _)] at hO hk
    refine hQ _ _ (retOwnI (M := M0) (.inl rfl) ((B, .cells 77 (C ++ rep (l.length - l.length) xZ)) :: D) ?_ rfl rfl rfl (by rw [Tryz.results133] <;> simp (maxSteps := 1000000) -implicitDefEqProofs (disch := omega) only [go_sem] <;> rfl) ?_ (hI.push (k := B) (Nat.le_refl _) hM) (fun q hq => hq) (hI.push (k := B) (Nat.le_refl _) hM).nd)
    · rw [← Ex.csL_map] at hO
      refine ownsSl B l.length (Ex.csL_len l) (by rw [cellsOf77]; decide) (fun x hx => ?_) (by simpa [rep] using hO)
      rw [Ex.csL_map, List.mem_map] at hx
      obtain ⟨e, _, rfl⟩ := hx
      rw [cellsOf77]; exact ⟨cs_len e, cs_pureL e⟩
    · rw [hns]; simp only [ksL, List.map_cons, List.length_cons] at hk ⊢; omega
theorem toExprT_ok (e : Ex) (h : Ex.szL e.kids ≤ 1048576) : CallF Tryz.prog 87 [.agg e.lcs] [] e.nS (OwnR Tryz.prog wA e.cs) := toExprT' e (toExprST _ _ (Nat.le_refl _) h)
end Go.Proofs.YtnmfmeehmieifaaGreat
namespace Go.Proofs.YtnmfmeehmieifaaGreat
open Go Sg
set_option maxRecDepth 100000
set_option linter.unusedSimpArgs false
set_option linter.unusedVariables false
set_option linter.unusedSectionVars false
set_option maxHeartbeats 4000000
variable [Glob]
structure Trn.Len (t : Trn) : Prop where
  fr : t.fr.length ≤ maxLen
  to' : t.to'.length ≤ maxLen
  w : t.w.Len
structure Cht.Len (c : Cht) : Prop where
  ts : c.ts.length ≤ maxLen
  as' : c.as'.length ≤ maxLen
  t : ∀ i, i < c.ts.length → (c.ts.getD i default).Len
theorem tlcs_pure (t : Trn) : PV.pureL t.lcs = true := rfl
theorem tlcs_cell (t : Trn) : ∀ y ∈ t.lcs, y.cell = true := by
  rw [Trn.lcs_eq]
  intro y hy
  simp only [List.mem_cons, List.not_mem_nil, or_false] at hy
  rcases hy with rfl | rfl | rfl | rfl | rfl | rfl | rfl <;> rfl
theorem acs_pure (t : GAct) : PV.pureL t.cs = true := rfl
theorem acs_cell (t : GAct) : ∀ y ∈ t.cs, y.cell = true := by
  rw [GAct.cs_eq]
  intro y hy
  simp only [List.mem_cons, List.not_mem_nil, or_false] at hy
  rcases hy with rfl | rfl | rfl | rfl <;> rfl
section
variable {H : Type} {enc : TypeId × Value → H} {W : World} {base : Nat} {spare : Nat → Bool} {held : Bool}
theorem open_ints {fuel : Nat} {cs : List Value} {x : DataW H × List MemPlace} (h : DataW.trod enc Tryz.prog W base spare held fuel 38 cs = some x) : ∃ l : List Int, l.length ≤ maxLen ∧ Lies Tryz.prog W [.rows 3 (rowsI l)] cs := by
  obtain ⟨l, _, h1, h2⟩ := open_slice Tryz.underlying38 (by rw [cellsOf3]; decide) (fun n : Int => [PV.int .i64 n]) (fun _ => True) (fun _ => by rw [cellsOf3]; rfl) (fun _ => rfl) (fun _ y hy => by rw [List.mem_singleton.1 hy]; rfl)
    (fun j cs' x' hj h' => by
      obtain ⟨n, rfl, _⟩ := open_int Tryz.underlying3 h'
      exact ⟨n, trivial, rfl, fun j hj => by
        have : j = 0 := by simpa using hj
        subst this; exact .int _ _⟩) h
  exact ⟨l, h1, h2⟩
theorem lies_one {p : PV} {c : Value} (h : Lies Tryz.prog W [p] [c]) : R Tryz.prog (ghOf W) p c := h.2 0 (by simp)
theorem open_act {fuel : Nat} {cs : List Value} {x : DataW H × List MemPlace} (h : DataW.trod enc Tryz.prog W base spare held fuel 166 cs = some x) : ∃ a : GAct, Lies Tryz.prog W a.cs cs := by
  obtain ⟨xs, n, hf, hx, hl, hxs, hfs⟩ := DataW.trod_struct Tryz.underlying166 h
  rw [cellsOf166] at hl
  match cs, hl with
  | [c0, c1, c2, c3], _ =>
    have h0 := hfs 0 _ rfl
    have h1 := hfs 1 _ rfl
    have h2 := hfs 2 _ rfl
    have l0 : (0 : Nat) < xs.length := by rw [hxs]; decide
    have l1 : (1 : Nat) < xs.length := by rw [hxs]; decide
    have l2 : (2 : Nat) < xs.length := by rw [hxs]; decide
    rw [List.getElem?_eq_getElem l0] at h0
    rw [List.getElem?_eq_getElem l1] at h1
    rw [List.getElem?_eq_getElem l2] at h2
    obtain ⟨k, hk, _⟩ := open_int Tryz.underlying3 h0
    obtain ⟨m, hm, _⟩ := open_int Tryz.underlying3 h1
    obtain ⟨a, ha⟩ := open_ad h2
    simp [cellsOf3] at hk hm
    simp [cellsOf67] at ha
    refine ⟨⟨k, m, a⟩, rfl, fun j hj => ?_⟩
    match j, hj with
    | 0, _ => simp only [GAct.cs, List.getElem_cons_zero]; rw [hk]; exact .int _ _
    | 1, _ => simp only [GAct.cs]; rw [hm]; exact .int _ _
    | 2, _ => simp only [GAct.cs]; rw [ha.1]; exact .int _ _
    | 3, _ => simp only [GAct.cs]; rw [ha.2]; exact .int _ _
theorem open_trn {fuel : Nat} {cs : List Value} {x : DataW H × List MemPlace} (h : DataW.trod enc Tryz.prog W base spare held fuel 152 cs = some x) : ∃ t : Trn, t.Len ∧ Lies Tryz.prog W t.lcs cs := by
  obtain ⟨xs, n, hf, hx, hl, hxs, hfs⟩ := DataW.trod_struct Tryz.underlying152 h
  rw [cellsOf152] at hl
  match cs, hl with
  | [c0, c1, c2, c3, c4, c5, c6], _ =>
    have h0 := hfs 0 _ rfl
    have h1 := hfs 1 _ rfl
    have h2 := hfs 2 _ rfl
    have l0 : (0 : Nat) < xs.length := by rw [hxs]; decide
    have l1 : (1 : Nat) < xs.length := by rw [hxs]; decide
    have l2 : (2 : Nat) < xs.length := by rw [hxs]; decide
    rw [List.getElem?_eq_getElem l0] at h0
    rw [List.getElem?_eq_getElem l1] at h1
    rw [List.getElem?_eq_getElem l2] at h2
    obtain ⟨f, hf1, hf2⟩ := open_ints h0
    obtain ⟨g, hg1, hg2⟩ := open_ints h1
    obtain ⟨w, hw1, hw2⟩ := open_ex _ _ _ h2
    simp [cellsOf38] at hf2 hg2
    simp [cellsOf70] at hw2
    refine ⟨⟨f, g, w⟩, ⟨hf1, hg1, hw1⟩, rfl, fun j hj => ?_⟩
    rw [Ex.lcs_eq] at hw2
    match j, hj with
    | 0, _ => exact lies_one hf2
    | 1, _ => exact lies_one hg2
    | 2, _ => exact hw2.2 0 (by simp)
    | 3, _ => exact hw2.2 1 (by simp)
    | 4, _ => exact hw2.2 2 (by simp)
    | 5, _ => exact hw2.2 3 (by simp)
    | 6, _ => exact hw2.2 4 (by simp)
theorem open_cht {fuel : Nat} {cs : List Value} {x : DataW H × List MemPlace} (h : DataW.trod enc Tryz.prog W base spare held fuel 34 cs = some x) : ∃ c : Cht, c.Len ∧ Lies Tryz.prog W c.lcs cs := by
  obtain ⟨xs, n, hf, hx, hl, hxs, hfs⟩ := DataW.trod_struct Tryz.underlying34 h
  rw [cellsOf34] at hl
  match cs, hl with
  | [c0, c1, c2], _ =>
    have h0 := hfs 0 _ rfl
    have h1 := hfs 1 _ rfl
    have h2 := hfs 2 _ rfl
    have l0 : (0 : Nat) < xs.length := by rw [hxs]; decide
    have l1 : (1 : Nat) < xs.length := by rw [hxs]; decide
    have l2 : (2 : Nat) < xs.length := by rw [hxs]; decide
    rw [List.getElem?_eq_getElem l0] at h0
    rw [List.getElem?_eq_getElem l1] at h1
    rw [List.getElem?_eq_getElem l2] at h2
    obtain ⟨k, hk, _⟩ := open_int Tryz.underlying3 h0
    obtain ⟨l, ht1, ht2, ht3⟩ := open_slice Tryz.underlying31 (by rw [cellsOf152]; decide) Trn.lcs Trn.Len (fun e => by rw [cellsOf152, Trn.lcs_eq]; rfl) tlcs_pure tlcs_cell (fun j cs' x' hj h' => open_trn h') h1
    obtain ⟨as', _, ha2, ha3⟩ := open_slice Tryz.underlying32 (by rw [cellsOf166]; decide) GAct.cs (fun _ => True) (fun e => by rw [cellsOf166, GAct.cs_eq]; rfl) acs_pure acs_cell (fun j cs' x' hj h' => by
      obtain ⟨a, ha⟩ := open_act h'
      exact ⟨a, trivial, ha⟩) h2
    simp [cellsOf3] at hk
    simp [cellsOf31] at ht3
    simp [cellsOf32] at ha3
    refine ⟨⟨k, l, as'⟩, ⟨ht2, ha2, ht1⟩, rfl, fun j hj => ?_⟩
    match j, hj with
    | 0, _ => simp only [Cht.lcs, List.getElem_cons_zero]; rw [hk]; exact .int _ _
    | 1, _ => exact lies_one ht3
    | 2, _ => exact lies_one ha3
end
end Go.Proofs.YtnmfmeehmieifaaGreat
namespace Go.Proofs.YtnmfmeehmieifaaGreat
open Go Sg
set_option maxRecDepth 100000
set_option linter.unusedSimpArgs false
set_option linter.unusedVariables false
set_option linter.unusedSectionVars false
set_option maxHeartbeats 4000000
variable [Glob]
def szR (left : Int) (m : Nat) : Int := if (m : Int) ≤ left then left - m else -1
theorem szR_pos {L : Int} {m : Nat} (h : ¬ szR L m < 0) : (m : Int) ≤ L ∧ szR L m = L - m := by
  unfold szR at *
  split at h
  · rename_i h1; rw [if_pos h1]; exact ⟨h1, rfl⟩
  · omega
theorem szR_neg {L : Int} {m : Nat} (h : szR L m < 0) : L < m := by
  unfold szR at h
  split at h <;> omega
theorem szR_two {L : Int} {m n : Nat} (h : (m : Int) ≤ L) : szR (L - m) n = szR L (m + n) := by
  unfold szR
  by_cases h1 : (n : Int) ≤ L - m
  · rw [if_pos h1, if_pos (by omega)]; omega
  · rw [if_neg h1, if_neg (by omega)]
theorem szR_no {L : Int} {m : Nat} (h : L < m) : szR L m = -1 := if_neg (by omega)
theorem szR_yes {L : Int} {m : Nat} (h : (m : Int) ≤ L) : szR L m = L - m := if_pos h
theorem sum_take {α : Type} [Inhabited α] (f : α → Nat) (l : List α) (i : Nat) (h : i < l.length) : ((l.take (i + 1)).map f).sum = ((l.take i).map f).sum + f (l.getD i default) := by
  rw [List.take_succ_eq_append_getElem h, List.map_append, List.sum_append]
  simp [List.getD, h]
theorem sum_le {α : Type} (f : α → Nat) (l : List α) (i : Nat) : ((l.take i).map f).sum ≤ (l.map f).sum := by
  have h : (l.map f).sum = ((l.take i ++ l.drop i).map f).sum := by rw [List.take_append_drop]
  rw [h, List.map_append, List.sum_append]; omega
def kz (e : Ex) : Nat := Ex.szL e.kids
theorem szL_kz (l : List Ex) : Ex.szL l = l.length + (l.map kz).sum := by
  induction l with
  | nil => rfl
  | cons e l ih => simp only [Ex.szL, Ex.sz_eq, ih, List.length_cons, List.map_cons, List.sum_cons, kz]; omega
theorem max_eq : maxLen = 9223372036854775807 := rfl
theorem szInt_ok (l : List Int) (left : Int) (h0 : 0 ≤ left) (h1 : left ≤ 1048576) (hl : l.length ≤ maxLen) : PureF Tryz.prog 54 [.rows 3 (rowsI l), .int .i64 left] [.int .i64 (szR left l.length)] := by
  rw [max_eq] at hl
  refine pureF_of Tryz.func54 rfl Tryz.ntmps54 (by simp) T_ ?_
  intro f0 B Q hQ
  refine g_ [0,1] ?_
  refine g_ [1] ?_
  refine g_ [1,10] ?_
  refine c_ (fun hc0 => ?_) fun hc0 => ?_
  ·
    have hz := szR_no (L := left) (m := l.length) (by omega)
    refine g_ [4] ?_
    refine e_ Tryz.results54 ?_
    first
    | exact True.intro
    | rw [hz]
  have hz := szR_yes (L := left) (m := l.length) (by omega)
  refine g_ [4] ?_
  refine e_ Tryz.results54 ?_
  first
  | exact True.intro
  | rw [hz]
theorem szActS_ok (l : List GAct) (left : Int) (h0 : 0 ≤ left) (h1 : left ≤ 1048576) (hl : l.length ≤ maxLen) : PureF Tryz.prog 52 [.rows 166 (rowsA l), .int .i64 left] [.int .i64 (szR left l.length)] := by
  rw [max_eq] at hl
  refine pureF_of Tryz.func52 rfl Tryz.ntmps52 (by simp) T_ ?_
  intro f0 B Q hQ
  refine g_ [0,1] ?_
  refine g_ [1] ?_
  refine g_ [1,10] ?_
  refine c_ (fun hc0 => ?_) fun hc0 => ?_
  ·
    have hz := szR_no (L := left) (m := l.length) (by omega)
    refine g_ [4] ?_
    refine e_ Tryz.results52 ?_
    first
    | exact True.intro
    | rw [hz]
  have hz := szR_yes (L := left) (m := l.length) (by omega)
  refine g_ [4] ?_
  refine e_ Tryz.results52 ?_
  first
  | exact True.intro
  | rw [hz]
def SzE (l : List Ex) : Prop := ∀ left : Int, 0 ≤ left → left ≤ 1048576 → PureF Tryz.prog 130 [.rows 70 (Ex.lcsL l), .int .i64 left] [.int .i64 (szR left (Ex.szL l))]
theorem szExpr_ok' (e : Ex) (ih : SzE e.kids) (left : Int) (h0 : 0 ≤ left) (h1 : left ≤ 1048576) : PureF Tryz.prog 78 [.agg e.lcs, .int .i64 left] [.int .i64 (szR left (kz e))] := by
  refine pureF_of Tryz.func78 rfl Tryz.ntmps78 (by simp) T_ ?_
  intro f0 B Q hQ
  refine g_ [1,2] ?_
  refine n_ ?_
  refine wpM_regionK [1] rfl fun Q1 hQ1 => ?_
  refine S_ ?_
  refine cp_ (ih left h0 h1) Tryz.call130 ?_
  refine hQ1 _ _ (S_ ?_);clear hQ1 Q1
  refine g_ [1,10] ?_
  refine c_ (fun hc0 => ?_) fun hc0 => ?_
  ·
    have hz := szR_no (szR_neg (L := left) (m := Ex.szL e.kids) hc0)
    refine g_ [4] ?_
    refine e_ Tryz.results78 ?_
    first
    | exact True.intro
    | first | exact hz.symm | rfl
  refine g_ [4] ?_
  refine e_ Tryz.results78 ?_
  first
  | exact True.intro
  | first | exact hz.symm | rfl
theorem szExprS_ok : ∀ (N : Nat) (l : List Ex), Ex.szL l ≤ N → l.length ≤ maxLen → Ex.LenL l → SzE l := by
  intro N
  induction N using Nat.strongRecOn with
  | _ N ih =>
    intro l hN hl hL left h0 h1
    rw [max_eq] at hl
    refine pureF_of Tryz.func130 rfl Tryz.ntmps130 (by simp) T_ ?_
    intro f0 B Q hQ
    refine g_ [0,1] ?_
    refine g_ [0,1] ?_
    refine g_ [0,1,11] ?_
    refine c_ (fun hc0 => ?_) fun hc0 => ?_
    ·
      have hz := szR_no (L := left) (m := Ex.szL l) (by rw [szL_kz]; omega)
      refine g_ [4] ?_
      refine e_ Tryz.results130 ?_
      first
      | exact True.intro
      | rw [hz]
    have hle : (l.length : Int) ≤ left := by omega
    refine g_ [0,1,5] ?_
    refine n_ ?_
    refine wpM_loopS (fun s n s' => ∃ (i0 M0 : Nat) (L : Int), i0 + n = l.length ∧ s.M ≤ M0 ∧ (0 ≤ L ∧ L + l.length + (((l.take i0).map kz).sum : Nat) = left) ∧ s' = { s with env := setE 5 (.int .i64 (i0 : Nat)) (setE 1 (.int .i64 L) s.env) , M := M0 }) (l.length) ?_ ?_
    ·
      refine .of' _ _ ⟨0, _, left - l.length, by omega, Nat.le_refl _, ⟨by omega, by simp⟩, rfl⟩ ?_ ?_ ?_ <;> exact L_
    rintro n0 s' ⟨i0, M0, L, hi0, hM0, hv0, rfl⟩
    try dsimp only at hM0
    try refine S_ ?_
    refine g_ [0,1,5,15] ?_
    refine c_ (fun hc1 => ?_) fun hc1 => ?_
    ·
      have hl0 : i0 < l.length := by omega
      have hmem : l.getD i0 default ∈ l := by rw [List.getD_eq_getElem?_getD, List.getElem?_eq_getElem hl0]; exact List.getElem_mem hl0
      have hLe := (Ex.LenL_iff l).1 hL _ hmem
      have hst := sum_take kz l i0 hl0
      have hsl := sum_le kz l (i0 + 1)
      have hkl : kz (l.getD i0 default) < N := by
        have := szL_kz l
        omega
      refine n_ ?_
      refine wpM_regionK [0,1,5] rfl fun Q1 hQ1 => ?_
      refine S_ ?_
      refine cp_ (szExpr_ok' (l.getD i0 default) (ih _ hkl _ (Nat.le_refl _) (by cases h : l.getD i0 default; rw [h] at hLe; exact hLe.1) (by cases h : l.getD i0 default; rw [h] at hLe; exact hLe.2)) L hv0.1 (by omega)) Tryz.call78 ?_
      refine hQ1 _ _ (S_ ?_);clear hQ1 Q1
      refine g_ [0,1,5,25] ?_
      refine c_ (fun hc2 => ?_) fun hc2 => ?_
      ·
        have hn := szR_neg (L := L) (m := kz (l.getD i0 default)) hc2
        have hz := szR_no (L := left) (m := Ex.szL l) (by rw [szL_kz]; omega)
        refine g_ [4] ?_
        refine e_ Tryz.results130 ?_
        first
        | exact True.intro
        | rw [hz]
      have hp := szR_pos (L := L) (m := kz (l.getD i0 default)) hc2
      refine g_ [0,1,5] ?_
      refine .of' _ _ ⟨n0 - 1, by omega, i0 + 1, _, szR L (kz (l.getD i0 default)), by omega, M_, ?_, rfl⟩ L_ L_ L_
      rw [hst, hp.2]
      omega
    refine n_ ?_
    have hi : i0 = l.length := by omega
    have hz : szR left (Ex.szL l) = L := by
      rw [hi, List.take_of_length_le (Nat.le_refl _)] at hv0
      rw [szL_kz, szR_yes (by omega)]; omega
    refine g_ [4] ?_
    refine e_ Tryz.results130 ?_
    first
    | exact True.intro
    | rw [hz]
end Go.Proofs.YtnmfmeehmieifaaGreat
namespace Go.Proofs.YtnmfmeehmieifaaGreat
open Go Sg
set_option maxRecDepth 100000
set_option linter.unusedSimpArgs false
set_option linter.unusedVariables false
set_option linter.unusedSectionVars false
set_option maxHeartbeats 4000000
variable [Glob]
theorem Ex.kids_Len {e : Ex} (h : e.Len) : e.kids.length ≤ maxLen ∧ Ex.LenL e.kids := by cases e; exact h
def tz (t : Trn) : Nat := t.fr.length + t.to'.length + kz t.w
def cz (c : Cht) : Nat := c.ts.length + (c.ts.map tz).sum + c.as'.length
theorem szTrans_ok (t : Trn) (ht : t.Len) (left : Int) (h0 : 0 ≤ left) (h1 : left ≤ 1048576) : PureF Tryz.prog 99 [.agg t.lcs, .int .i64 left] [.int .i64 (szR left (tz t))] := by
  have hk := Ex.kids_Len ht.w
  have e2 : t.fr.length ≤ left → szR (left - t.fr.length) t.to'.length = szR left (t.fr.length + t.to'.length) := fun h => szR_two h
  refine pureF_of Tryz.func99 rfl Tryz.ntmps99 (by simp) T_ ?_
  intro f0 B Q hQ
  refine g_ [1,2] ?_
  refine n_ ?_
  refine wpM_regionK [1,2] rfl fun Q1 hQ1 => ?_
  refine S_ ?_
  refine cp_ (szInt_ok t.fr left h0 h1 ht.fr) Tryz.call54 ?_
  refine hQ1 _ _ (S_ ?_);clear hQ1 Q1
  refine g_ [1,2,10] ?_
  refine c_ (fun hc0 => ?_) fun hc0 => ?_
  ·
    have hz := szR_no (L := left) (m := tz t) (by have := szR_neg hc0; unfold tz; omega)
    refine g_ [4] ?_
    refine e_ Tryz.results99 ?_
    first
    | exact True.intro
    | first
      | exact hz.symm
      | (rw [hz, p3.2, p2.2, p1.2]; unfold tz; omega)
  have p1 := szR_pos hc0
  refine n_ ?_
  refine wpM_regionK [1,2] rfl fun Q1 hQ1 => ?_
  refine S_ ?_
  refine cp_ (szInt_ok t.to' (szR left t.fr.length) (by omega) (by omega) ht.to') Tryz.call54 ?_
  refine hQ1 _ _ (S_ ?_);clear hQ1 Q1
  refine g_ [1,2,16] ?_
  refine c_ (fun hc1 => ?_) fun hc1 => ?_
  ·
    have hz := szR_no (L := left) (m := tz t) (by have := szR_neg hc1; unfold tz; omega)
    refine g_ [4] ?_
    refine e_ Tryz.results99 ?_
    first
    | exact True.intro
    | first
      | exact hz.symm
      | (rw [hz, p3.2, p2.2, p1.2]; unfold tz; omega)
  have p2 := szR_pos hc1
  refine n_ ?_
  refine wpM_regionK [1] rfl fun Q1 hQ1 => ?_
  refine S_ ?_
  refine cp_ (szExpr_ok' t.w (szExprS_ok _ _ (Nat.le_refl _) hk.1 hk.2) (szR (szR left t.fr.length) t.to'.length) (by omega) (by omega)) Tryz.call78 ?_
  refine hQ1 _ _ (S_ ?_);clear hQ1 Q1
  refine g_ [1,22] ?_
  refine c_ (fun hc2 => ?_) fun hc2 => ?_
  ·
    have hz := szR_no (L := left) (m := tz t) (by have := szR_neg hc2; unfold tz; omega)
    refine g_ [4] ?_
    refine e_ Tryz.results99 ?_
    first
    | exact True.intro
    | first
      | exact hz.symm
      | (rw [hz, p3.2, p2.2, p1.2]; unfold tz; omega)
  have p3 := szR_pos hc2
  have hz := szR_yes (L := left) (m := tz t) (by unfold tz; omega)
  refine g_ [4] ?_
  refine e_ Tryz.results99 ?_
  first
  | exact True.intro
  | first
    | exact hz.symm
    | (rw [hz, p3.2, p2.2, p1.2]; unfold tz; omega)
theorem szTransS_ok (l : List Trn) (hl : l.length ≤ maxLen) (hL : ∀ i, i < l.length → (l.getD i default).Len) (left : Int) (h0 : 0 ≤ left) (h1 : left ≤ 1048576) : PureF Tryz.prog 51 [.rows 152 (rowsLT l), .int .i64 left] [.int .i64 (szR left (l.length + (l.map tz).sum))] := by
  rw [max_eq] at hl
  refine pureF_of Tryz.func51 rfl Tryz.ntmps51 (by simp) T_ ?_
  intro f0 B Q hQ
  refine g_ [0,1] ?_
  refine g_ [0,1] ?_
  refine g_ [0,1,11] ?_
  refine c_ (fun hc0 => ?_) fun hc0 => ?_
  ·
    have hz := szR_no (L := left) (m := l.length + (l.map tz).sum) (by omega)
    refine g_ [4] ?_
    refine e_ Tryz.results51 ?_
    first
    | exact True.intro
    | rw [hz]
  have hle : (l.length : Int) ≤ left := by omega
  refine g_ [0,1,5] ?_
  refine n_ ?_
  refine wpM_loopS (fun s n s' => ∃ (i0 M0 : Nat) (L : Int), i0 + n = l.length ∧ s.M ≤ M0 ∧ (0 ≤ L ∧ L + l.length + (((l.take i0).map tz).sum : Nat) = left) ∧ s' = { s with env := setE 5 (.int .i64 (i0 : Nat)) (setE 1 (.int .i64 L) s.env) , M := M0 }) (l.length) ?_ ?_
  ·
    refine .of' _ _ ⟨0, _, left - l.length, by omega, Nat.le_refl _, ⟨by omega, by simp⟩, rfl⟩ ?_ ?_ ?_ <;> exact L_
  rintro n0 s' ⟨i0, M0, L, hi0, hM0, hv0, rfl⟩
  try dsimp only at hM0
  try refine S_ ?_
  refine g_ [0,1,5,15] ?_
  refine c_ (fun hc1 => ?_) fun hc1 => ?_
  ·
    have hl0 : i0 < l.length := by omega
    have hst := sum_take tz l i0 hl0
    have hsl := sum_le tz l (i0 + 1)
    refine n_ ?_
    refine wpM_regionK [0,1,5] rfl fun Q1 hQ1 => ?_
    refine S_ ?_
    refine cp_ (szTrans_ok (l.getD i0 default) (hL i0 hl0) L hv0.1 (by omega)) Tryz.call99 ?_
    refine hQ1 _ _ (S_ ?_);clear hQ1 Q1
    refine g_ [0,1,5,25] ?_
    refine c_ (fun hc2 => ?_) fun hc2 => ?_
    ·
      have hn := szR_neg (L := L) (m := tz (l.getD i0 default)) hc2
      have hz := szR_no (L := left) (m := l.length + (l.map tz).sum) (by omega)
      refine g_ [4] ?_
      refine e_ Tryz.results51 ?_
      first
      | exact True.intro
      | rw [hz]
    have hp := szR_pos (L := L) (m := tz (l.getD i0 default)) hc2
    refine g_ [0,1,5] ?_
    refine .of' _ _ ⟨n0 - 1, by omega, i0 + 1, _, szR L (tz (l.getD i0 default)), by omega, M_, ?_, rfl⟩ L_ L_ L_
    rw [hst, hp.2]
    omega
  refine n_ ?_
  have hi : i0 = l.length := by omega
  have hz : szR left (l.length + (l.map tz).sum) = L := by
    rw [hi, List.take_of_length_le (Nat.le_refl _)] at hv0
    rw [szR_yes (by omega)]; omega
  refine g_ [4] ?_
  refine e_ Tryz.results51 ?_
  first
  | exact True.intro
  | rw [hz]
theorem szChart_ok (c : Cht) (hc : c.Len) (left : Int) (h0 : 0 ≤ left) (h1 : left ≤ 1048576) : PureF Tryz.prog 16 [.agg c.lcs, .int .i64 left] [.int .i64 (szR left (cz c))] := by
  refine pureF_of Tryz.func16 rfl Tryz.ntmps16 (by simp) T_ ?_
  intro f0 B Q hQ
  refine g_ [1,2] ?_
  refine n_ ?_
  refine wpM_regionK [1,2] rfl fun Q1 hQ1 => ?_
  refine S_ ?_
  refine cp_ (szTransS_ok c.ts hc.ts hc.t left h0 h1) Tryz.call51 ?_
  refine hQ1 _ _ (S_ ?_);clear hQ1 Q1
  refine g_ [1,2,10] ?_
  refine c_ (fun hc0 => ?_) fun hc0 => ?_
  ·
    have hz := szR_no (L := left) (m := cz c) (by have := szR_neg hc0; unfold cz; omega)
    refine g_ [4] ?_
    refine e_ Tryz.results16 ?_
    first
    | exact True.intro
    | first
      | exact hz.symm
      | (rw [hz, p2.2, p1.2]; unfold cz; omega)
  have p1 := szR_pos hc0
  refine n_ ?_
  refine wpM_regionK [1] rfl fun Q1 hQ1 => ?_
  refine S_ ?_
  refine cp_ (szActS_ok c.as' (szR left (c.ts.length + (c.ts.map tz).sum)) (by omega) (by omega) hc.as') Tryz.call52 ?_
  refine hQ1 _ _ (S_ ?_);clear hQ1 Q1
  refine g_ [1,16] ?_
  refine c_ (fun hc1 => ?_) fun hc1 => ?_
  ·
    have hz := szR_no (L := left) (m := cz c) (by have := szR_neg hc1; unfold cz; omega)
    refine g_ [4] ?_
    refine e_ Tryz.results16 ?_
    first
    | exact True.intro
    | first
      | exact hz.symm
      | (rw [hz, p2.2, p1.2]; unfold cz; omega)
  have p2 := szR_pos hc1
  have hz := szR_yes (L := left) (m := cz c) (by unfold cz; omega)
  refine g_ [4] ?_
  refine e_ Tryz.results16 ?_
  first
  | exact True.intro
  | first
    | exact hz.symm
    | (rw [hz, p2.2, p1.2]; unfold cz; omega)
theorem sum_get {α : Type} [Inhabited α] (f : α → Nat) (l : List α) (i : Nat) (h : i < l.length) : f (l.getD i default) ≤ (l.map f).sum := by
  have h1 := sum_take f l i h
  have h2 := sum_le f l (i + 1)
  omega
theorem cz_Sm {c : Cht} (h : cz c ≤ 1048576) : c.Sm := by
  unfold cz at h
  refine ⟨by omega, by omega, fun i hi => ?_⟩
  have := sum_get tz c.ts i hi
  have e1 : tz (c.ts.getD i default) = (c.ts.getD i default).fr.length + (c.ts.getD i default).to'.length + Ex.szL (c.ts.getD i default).w.kids := rfl
  refine ⟨by omega, by omega, ?_⟩
  rw [Ex.sz_eq]
  omega
end Go.Proofs.YtnmfmeehmieifaaGreat
namespace Go.Proofs.YtnmfmeehmieifaaGreat
open Go Sg Go.WideShapes
set_option linter.unusedVariables false
set_option linter.unusedSectionVars false
variable [Glob]
theorem lies_agg {W : World} {ps : List PV} {cs : Array Value} (h : Lies Tryz.prog W ps cs.toList) : R Tryz.prog (ghOf W) (.agg ps) (.agg cs) := by
  refine .agg _ _ (by simpa using h.1.symm) fun j hj => ?_
  have := h.2 j hj
  rwa [List.getD_eq_getElem?_getD, Array.getElem?_toList, ← Array.getD_eq_getD_getElem?] at this
set_option maxRecDepth 100000 in
theorem open_chtA {H : Type} {enc : TypeId × Value → H} {W : World} {base : Nat} {v : Value} {d : DataW H} {ps : List MemPlace} (hval : Value.okWide Tryz.prog W .any base 34 v) (h : DataW.Trod enc Tryz.prog W 0 (fun _ => true) true 34 v d ps) : ∃ c : Cht, c.Len ∧ R Tryz.prog (ghOf W) (.agg c.lcs) v := by
  obtain ⟨cs, rfl, _⟩ := okWide_struct Tryz.underlying34 hval
  obtain ⟨fuel, hf⟩ := h
  obtain ⟨c, hc, hl⟩ := open_cht hf
  exact ⟨c, hc, lies_agg hl⟩
end Go.Proofs.YtnmfmeehmieifaaGreat
namespace Go.Proofs.YtnmfmeehmieifaaGreat
open Go Sg
set_option maxRecDepth 100000
set_option linter.unusedSimpArgs false
set_option linter.unusedVariables false
set_option linter.unusedSectionVars false
set_option maxHeartbeats 4000000
variable [Glob]
theorem eqIntS_ok (a b : List Int) (ha : a.length ≤ 1099511627776) : PureF Tryz.prog 24 [.rows 3 (rowsI a), .rows 3 (rowsI b)] [.bool (same a b)] := by
  rw [← eqI_same]
  refine pureF_of Tryz.func24 rfl Tryz.ntmps24 (by simp) T_ ?_
  intro f0 B Q hQ
  refine g_ [0,1] ?_
  refine g_ [0,1,10] ?_
  refine c_ (fun hc0 => ?_) fun hc0 => ?_
  ·
    refine g_ [4] ?_
    refine e_ Tryz.results24 ?_
    first
    | exact True.intro
    | unfold eqI
      first
      | rw [if_pos hc0]
      | (rw [if_neg (by rw [hc0]; simp), range_no hl0 (by simp only [hc2]; rfl)])
      | (have : i0 = a.length := by omega
         rw [if_neg (by rw [hc0]; simp), ← this, hv0])
  refine g_ [0,1,5] ?_
  refine n_ ?_
  refine wpM_loopS (fun s n s' => ∃ (i0 M0 : Nat) , i0 + n = a.length ∧ s.M ≤ M0 ∧ ((List.range i0).all (fun i => !(a.getD i 0 != b.getD i 0)) = true) ∧ s' = { s with env := setE 5 (.int .i64 (i0 : Nat)) s.env, M := M0 }) (a.length) ?_ ?_
  ·
    refine .of' _ _ ⟨0, _, by omega, Nat.le_refl _, by simp, rfl⟩ ?_ ?_ ?_ <;> exact L_
  rintro n0 s' ⟨i0, M0, hi0, hM0, hv0, rfl⟩
  try dsimp only at hM0
  try refine S_ ?_
  refine g_ [0,1,5,14] ?_
  refine c_ (fun hc1 => ?_) fun hc1 => ?_
  ·
    have hl0 : i0 < a.length := by omega
    have hlb : i0 < b.length := by simp at hc0; omega
    refine n_ ?_
    refine dr_ mixed [0,1,5,25] 0 0 [] [⟨[0],[],[],[],false⟩,⟨[5],[],[],[],false⟩,⟨[17,18],[],[],[],false⟩,⟨[19],[],[],[],false⟩,⟨[1],[],[],[],false⟩,⟨[5],[],[],[],false⟩,⟨[21,22],[],[],[],false⟩,⟨[23],[],[],[],false⟩,⟨[20,24],[],[],[],false⟩] [0,1,2,3,4,5,6,7,8] [[],[],[0,1],[0,1,2],[],[],[4,5],[4,5,6],[0,1,2,3,4,5,6,7]] 0 ?_
    intro O A K hO hA hK;simp only [atL_cons,atL_nil,Nat.reduceAdd,Nat.zero_add] at hO hA
    refine SO_ ?_
    refine hK _ (S_ ?_);clear hK K hO hA O A
    refine c_ (fun hc2 => ?_) fun hc2 => ?_
    ·
      refine g_ [4] ?_
      refine e_ Tryz.results24 ?_
      first
      | exact True.intro
      | unfold eqI
        first
        | rw [if_pos hc0]
        | (rw [if_neg (by rw [hc0]; simp), range_no hl0 (by simp only [hc2]; rfl)])
        | (have : i0 = a.length := by omega
           rw [if_neg (by rw [hc0]; simp), ← this, hv0])
    refine g_ [0,1,5] ?_
    refine .of' _ _ ⟨n0 - 1, by omega, i0 + 1, _, by omega, M_, ?_, rfl⟩ L_ L_ L_
    rw [range_all, hv0]
    simp only [hc2]; rfl
  refine g_ [4] ?_
  refine e_ Tryz.results24 ?_
  first
  | exact True.intro
  | unfold eqI
    first
    | rw [if_pos hc0]
    | (rw [if_neg (by rw [hc0]; simp), range_no hl0 (by simp only [hc2]; rfl)])
    | (have : i0 = a.length := by omega
       rw [if_neg (by rw [hc0]; simp), ← this, hv0])
theorem eqAddr_ok (a b : AD) : PureF Tryz.prog 92 [.agg [.int .i64 a.kind, .int .i64 a.at'], .agg [.int .i64 b.kind, .int .i64 b.at']] [.bool (a.kind == b.kind && a.at' == b.at')] := by
  refine pureF_of Tryz.func92 rfl Tryz.ntmps92 (by simp) T_ ?_
  intro f0 B Q hQ
  refine g_ [2,3] ?_
  refine g_ [2,3,9] ?_
  refine c_ (fun hc0 => ?_) fun hc0 => ?_
  ·
    refine g_ [4] ?_
    refine e_ Tryz.results92 ?_
    first
    | exact True.intro
    | simp_all
  refine g_ [14] ?_
  refine c_ (fun hc1 => ?_) fun hc1 => ?_
  ·
    refine g_ [4] ?_
    refine e_ Tryz.results92 ?_
    first
    | exact True.intro
    | simp_all
  refine g_ [4] ?_
  refine e_ Tryz.results92 ?_
  first
  | exact True.intro
  | simp_all
def EqX (a b : List Ex) : Prop := PureF Tryz.prog 136 [.rows 77 (Ex.csL a), .rows 77 (Ex.csL b)] [.bool (same a b)]
theorem same_ex' (a b : Ex) : (a.kind == b.kind && a.n == b.n && (a.a.kind == b.a.kind && a.a.at' == b.a.at') && same a.kids b.kids) = same a b := by
  rw [← same_ex]
  congr 1
  exact (len_same _ _).symm
theorem eqExpr_ok' (a b : Ex) (ih : EqX a.kids b.kids) : PureF Tryz.prog 93 [.agg a.cs, .agg b.cs] [.bool (same a b)] := by
  refine pureF_of Tryz.func93 rfl Tryz.ntmps93 (by simp) T_ ?_
  intro f0 B Q hQ
  refine g_ [2,3] ?_
  refine g_ [2,3,9] ?_
  refine c_ (fun hc0 => ?_) fun hc0 => ?_
  ·
    refine g_ [4] ?_
    refine e_ Tryz.results93 ?_
    first
    | exact True.intro
    | rw [← same_ex']
      first | (simp_all; done) | (simp_all; intro h1 h2; rcases hc2 with h | h <;> contradiction)
  refine g_ [2,3,14] ?_
  refine c_ (fun hc1 => ?_) fun hc1 => ?_
  ·
    refine g_ [4] ?_
    refine e_ Tryz.results93 ?_
    first
    | exact True.intro
    | rw [← same_ex']
      first | (simp_all; done) | (simp_all; intro h1 h2; rcases hc2 with h | h <;> contradiction)
  refine n_ ?_
  refine wpM_regionK [2,3,20] rfl fun Q1 hQ1 => ?_
  refine S_ ?_
  refine cp_ (eqAddr_ok a.a b.a) Tryz.call92 ?_
  refine hQ1 _ _ (S_ ?_);clear hQ1 Q1
  refine c_ (fun hc2 => ?_) fun hc2 => ?_
  ·
    refine g_ [4] ?_
    refine e_ Tryz.results93 ?_
    first
    | exact True.intro
    | rw [← same_ex']
      first | (simp_all; done) | (simp_all; intro h1 h2; rcases hc2 with h | h <;> contradiction)
  refine n_ ?_
  refine wpM_regionK [26] rfl fun Q1 hQ1 => ?_
  refine S_ ?_
  refine cp_ (ih) Tryz.call136 ?_
  refine hQ1 _ _ (S_ ?_);clear hQ1 Q1
  refine c_ (fun hc3 => ?_) fun hc3 => ?_
  ·
    refine g_ [4] ?_
    refine e_ Tryz.results93 ?_
    first
    | exact True.intro
    | rw [← same_ex']
      first | (simp_all; done) | (simp_all; intro h1 h2; rcases hc2 with h | h <;> contradiction)
  refine g_ [4] ?_
  refine e_ Tryz.results93 ?_
  first
  | exact True.intro
  | rw [← same_ex']
    first | (simp_all; done) | (simp_all; intro h1 h2; rcases hc2 with h | h <;> contradiction)
theorem eqExprS_ok : ∀ (N : Nat) (a b : List Ex), Ex.szL a ≤ N → Ex.szL a ≤ 1099511627776 → EqX a b := by
  intro N
  induction N using Nat.strongRecOn with
  | _ N ih =>
    intro a b hN hs
    have hll := Ex.len_szL a
    refine pureF_of Tryz.func136 rfl Tryz.ntmps136 (by simp) T_ ?_
    intro f0 B Q hQ
    refine g_ [0,1] ?_
    refine g_ [0,1,10] ?_
    refine c_ (fun hc0 => ?_) fun hc0 => ?_
    ·
      refine g_ [4] ?_
      refine e_ Tryz.results136 ?_
      first
      | exact True.intro
      | simp at hc0
        exact (same_no (fun h => by rw [h] at hc0; exact hc0 rfl)).symm
    have hab : a.length = b.length := by simp at hc0; omega
    refine g_ [0,1,5] ?_
    refine n_ ?_
    refine wpM_loopS (fun s n s' => ∃ (i0 M0 : Nat) , i0 + n = a.length ∧ s.M ≤ M0 ∧ ((List.range i0).all (fun i => same (a.getD i default) (b.getD i default)) = true) ∧ s' = { s with env := setE 5 (.int .i64 (i0 : Nat)) s.env, M := M0 }) (a.length) ?_ ?_
    ·
      refine .of' _ _ ⟨0, _, by omega, Nat.le_refl _, by simp, rfl⟩ ?_ ?_ ?_ <;> exact L_
    rintro n0 s' ⟨i0, M0, hi0, hM0, hv0, rfl⟩
    try dsimp only at hM0
    try refine S_ ?_
    refine g_ [0,1,5,14] ?_
    refine c_ (fun hc1 => ?_) fun hc1 => ?_
    ·
      have hl0 : i0 < a.length := by omega
      have hg := Ex.get_szL a i0 hl0
      rw [Ex.sz_eq] at hg
      refine n_ ?_
      refine dr_ mixed [0,1,5,26] 0 0 [] [⟨[0],[],[],[],false⟩,⟨[5],[],[],[],false⟩,⟨[17,18],[],[],[],false⟩,⟨[19],[],[],[],false⟩,⟨[1],[],[],[],false⟩,⟨[5],[],[],[],false⟩,⟨[21,22],[],[],[],false⟩,⟨[23],[],[],[],false⟩,⟨[20,24],[],[],[],true⟩,⟨[25],[],[],[],false⟩] [0,1,2,3,4,5,6,7,8,9] [[],[],[0,1],[0,1,2],[],[],[4,5],[4,5,6],[0,1,2,3,4,5,6,7],[0,1,2,3,4,5,6,7,8]] 0 ?_
      intro O A K hO hA hK;simp only [atL_cons,atL_nil,Nat.reduceAdd,Nat.zero_add] at hO hA
      refine SO_ ?_
      refine lp_ (eqExpr_ok' (a.getD i0 default) (b.getD i0 default) (ih (Ex.szL (a.getD i0 default).kids) (by omega) _ _ (Nat.le_refl _) (by omega))) Tryz.call93 ?_
      refine hK _ (S_ ?_);clear hK K hO hA O A
      refine c_ (fun hc2 => ?_) fun hc2 => ?_
      ·
        refine g_ [4] ?_
        refine e_ Tryz.results136 ?_
        first
        | exact True.intro
        | have h2 : (!same (a.getD i0 default) (b.getD i0 default)) = true := hc2
          rw [← range_ext hab same (fun i _ => rfl), range_no hl0 (by simpa using h2)]
      refine g_ [0,1,5] ?_
      refine .of' _ _ ⟨n0 - 1, by omega, i0 + 1, _, by omega, M_, ?_, rfl⟩ L_ L_ L_
      have h2 : (!same (a.getD i0 default) (b.getD i0 default)) = false := hc2
      rw [range_all, hv0]; simpa using h2
    refine g_ [4] ?_
    refine e_ Tryz.results136 ?_
    first
    | exact True.intro
    | have : i0 = a.length := by omega
      rw [← range_ext hab same (fun i _ => rfl), ← this, hv0]
theorem eqExpr_ok (a b : Ex) (h : a.sz ≤ 1099511627776) : PureF Tryz.prog 93 [.agg a.cs, .agg b.cs] [.bool (same a b)] := eqExpr_ok' a b (eqExprS_ok _ _ _ (Nat.le_refl _) (by rw [Ex.sz_eq] at h; omega))
end Go.Proofs.YtnmfmeehmieifaaGreat
namespace Go.Proofs.YtnmfmeehmieifaaGreat
open Go Sg Go.WideShapes
set_option maxRecDepth 100000
set_option linter.unusedSimpArgs false
set_option linter.unusedVariables false
set_option linter.unusedSectionVars false
set_option maxHeartbeats 4000000
variable [Glob]
structure MM.Len (m : MM) : Prop where
  i : m.i.length ≤ maxLen
  o : m.o.length ≤ maxLen
  v : m.v.length ≤ maxLen
structure Mrk.Len (k : Mrk) : Prop where
  on : k.on.length ≤ maxLen
  kept : k.kept.length ≤ maxLen
section
variable {H : Type} {enc : TypeId × Value → H} {W : World} {base : Nat} {spare : Nat → Bool} {held : Bool}
theorem open_bools {fuel : Nat} {cs : List Value} {x : DataW H × List MemPlace} (h : DataW.trod enc Tryz.prog W base spare held fuel 35 cs = some x) : ∃ l : List Bool, l.length ≤ maxLen ∧ Lies Tryz.prog W [.rows 4 (rowsB l)] cs := by
  obtain ⟨l, _, h1, h2⟩ := open_slice Tryz.underlying35 (by rw [cellsOf4]; decide) (fun n : Bool => [PV.bool n]) (fun _ => True) (fun _ => by rw [cellsOf4]; rfl) (fun _ => rfl) (fun _ y hy => by rw [List.mem_singleton.1 hy]; rfl)
    (fun j cs' x' hj h' => by
      obtain ⟨n, rfl, _⟩ := DataW.trod_bool Tryz.underlying4 h'
      exact ⟨n, trivial, rfl, fun j hj => by
        have : j = 0 := by simpa using hj
        subst this; exact .bool _⟩) h
  exact ⟨l, h1, h2⟩
theorem open_mem {fuel : Nat} {cs : List Value} {x : DataW H × List MemPlace} (h : DataW.trod enc Tryz.prog W base spare held fuel 40 cs = some x) : ∃ m : MM, m.Len ∧ Lies Tryz.prog W m.cs cs := by
  obtain ⟨xs, n, hf, hx, hl, hxs, hfs⟩ := DataW.trod_struct Tryz.underlying40 h
  rw [cellsOf40] at hl
  match cs, hl with
  | [c0, c1, c2], _ =>
    have h0 := hfs 0 _ rfl
    have h1 := hfs 1 _ rfl
    have h2 := hfs 2 _ rfl
    have l0 : (0 : Nat) < xs.length := by rw [hxs]; decide
    have l1 : (1 : Nat) < xs.length := by rw [hxs]; decide
    have l2 : (2 : Nat) < xs.length := by rw [hxs]; decide
    rw [List.getElem?_eq_getElem l0] at h0
    rw [List.getElem?_eq_getElem l1] at h1
    rw [List.getElem?_eq_getElem l2] at h2
    obtain ⟨f, hf1, hf2⟩ := open_ints h0
    obtain ⟨g, hg1, hg2⟩ := open_ints h1
    obtain ⟨w, hw1, hw2⟩ := open_ints h2
    simp [cellsOf38] at hf2 hg2 hw2
    refine ⟨⟨f, g, w⟩, ⟨hf1, hg1, hw1⟩, rfl, fun j hj => ?_⟩
    match j, hj with
    | 0, _ => exact lies_one hf2
    | 1, _ => exact lies_one hg2
    | 2, _ => exact lies_one hw2
theorem open_mrk {fuel : Nat} {cs : List Value} {x : DataW H × List MemPlace} (h : DataW.trod enc Tryz.prog W base spare held fuel 37 cs = some x) : ∃ k : Mrk, k.Len ∧ Lies Tryz.prog W k.cs cs := by
  obtain ⟨xs, n, hf, hx, hl, hxs, hfs⟩ := DataW.trod_struct Tryz.underlying37 h
  rw [cellsOf37] at hl
  match cs, hl with
  | [c0, c1], _ =>
    have h0 := hfs 0 _ rfl
    have h1 := hfs 1 _ rfl
    have l0 : (0 : Nat) < xs.length := by rw [hxs]; decide
    have l1 : (1 : Nat) < xs.length := by rw [hxs]; decide
    rw [List.getElem?_eq_getElem l0] at h0
    rw [List.getElem?_eq_getElem l1] at h1
    obtain ⟨f, hf1, hf2⟩ := open_bools h0
    obtain ⟨g, hg1, hg2⟩ := open_bools h1
    simp [cellsOf35] at hf2 hg2
    refine ⟨⟨f, g⟩, ⟨hf1, hg1⟩, rfl, fun j hj => ?_⟩
    match j, hj with
    | 0, _ => exact lies_one hf2
    | 1, _ => exact lies_one hg2
end
set_option maxRecDepth 100000 in
theorem open_memA {H : Type} {enc : TypeId × Value → H} {W : World} {base : Nat} {v : Value} {d : DataW H} {ps : List MemPlace} (hval : Value.okWide Tryz.prog W .any base 40 v) (h : DataW.Trod enc Tryz.prog W 0 (fun _ => true) true 40 v d ps) : ∃ c : MM, c.Len ∧ R Tryz.prog (ghOf W) (.agg c.cs) v := by
  obtain ⟨cs, rfl, _⟩ := okWide_struct Tryz.underlying40 hval
  obtain ⟨fuel, hf⟩ := h
  obtain ⟨c, hc, hl⟩ := open_mem hf
  exact ⟨c, hc, lies_agg hl⟩
set_option maxRecDepth 100000 in
theorem open_mrkA {H : Type} {enc : TypeId × Value → H} {W : World} {base : Nat} {v : Value} {d : DataW H} {ps : List MemPlace} (hval : Value.okWide Tryz.prog W .any base 37 v) (h : DataW.Trod enc Tryz.prog W 0 (fun _ => true) true 37 v d ps) : ∃ c : Mrk, c.Len ∧ R Tryz.prog (ghOf W) (.agg c.cs) v := by
  obtain ⟨cs, rfl, _⟩ := okWide_struct Tryz.underlying37 hval
  obtain ⟨fuel, hf⟩ := h
  obtain ⟨c, hc, hl⟩ := open_mrk hf
  exact ⟨c, hc, lies_agg hl⟩
def mz (m : MM) : Nat := m.i.length + m.o.length + m.v.length
def pz (k : Mrk) : Nat := k.on.length + k.kept.length
theorem szBool_ok (l : List Bool) (left : Int) (h0 : 0 ≤ left) (h1 : left ≤ 1048576) (hl : l.length ≤ maxLen) : PureF Tryz.prog 53 [.rows 4 (rowsB l), .int .i64 left] [.int .i64 (szR left l.length)] := by
  rw [max_eq] at hl
  refine pureF_of Tryz.func53 rfl Tryz.ntmps53 (by simp) T_ ?_
  intro f0 B Q hQ
  refine g_ [0,1] ?_
  refine g_ [1] ?_
  refine g_ [1,10] ?_
  refine c_ (fun hc0 => ?_) fun hc0 => ?_
  ·
    have hz := szR_no (L := left) (m := l.length) (by omega)
    refine g_ [4] ?_
    refine e_ Tryz.results53 ?_
    first
    | exact True.intro
    | rw [hz]
  have hz := szR_yes (L := left) (m := l.length) (by omega)
  refine g_ [4] ?_
  refine e_ Tryz.results53 ?_
  first
  | exact True.intro
  | rw [hz]
theorem szMarks_ok (k : Mrk) (hk : k.Len) (left : Int) (h0 : 0 ≤ left) (h1 : left ≤ 1048576) : PureF Tryz.prog 17 [.agg k.cs, .int .i64 left] [.int .i64 (szR left (pz k))] := by
  refine pureF_of Tryz.func17 rfl Tryz.ntmps17 (by simp) T_ ?_
  intro f0 B Q hQ
  refine g_ [1,2] ?_
  refine n_ ?_
  refine wpM_regionK [1,2] rfl fun Q1 hQ1 => ?_
  refine S_ ?_
  refine cp_ (szBool_ok k.on left h0 h1 hk.on) Tryz.call53 ?_
  refine hQ1 _ _ (S_ ?_);clear hQ1 Q1
  refine g_ [1,2,10] ?_
  refine c_ (fun hc0 => ?_) fun hc0 => ?_
  ·
    have hz := szR_no (L := left) (m := pz k) (by have := szR_neg hc0; unfold pz; omega)
    refine g_ [4] ?_
    refine e_ Tryz.results17 ?_
    first
    | exact True.intro
    | first
      | exact hz.symm
      | (rw [hz, p2.2, p1.2]; unfold pz; omega)
  have p1 := szR_pos hc0
  refine n_ ?_
  refine wpM_regionK [1] rfl fun Q1 hQ1 => ?_
  refine S_ ?_
  refine cp_ (szBool_ok k.kept (szR left k.on.length) (by omega) (by omega) hk.kept) Tryz.call53 ?_
  refine hQ1 _ _ (S_ ?_);clear hQ1 Q1
  refine g_ [1,16] ?_
  refine c_ (fun hc1 => ?_) fun hc1 => ?_
  ·
    have hz := szR_no (L := left) (m := pz k) (by have := szR_neg hc1; unfold pz; omega)
    refine g_ [4] ?_
    refine e_ Tryz.results17 ?_
    first
    | exact True.intro
    | first
      | exact hz.symm
      | (rw [hz, p2.2, p1.2]; unfold pz; omega)
  have p2 := szR_pos hc1
  have hz := szR_yes (L := left) (m := pz k) (by unfold pz; omega)
  refine g_ [4] ?_
  refine e_ Tryz.results17 ?_
  first
  | exact True.intro
  | first
    | exact hz.symm
    | (rw [hz, p2.2, p1.2]; unfold pz; omega)
theorem szMem_ok (m : MM) (hm : m.Len) (left : Int) (h0 : 0 ≤ left) (h1 : left ≤ 1048576) : PureF Tryz.prog 18 [.agg m.cs, .int .i64 left] [.int .i64 (szR left (mz m))] := by
  refine pureF_of Tryz.func18 rfl Tryz.ntmps18 (by simp) T_ ?_
  intro f0 B Q hQ
  refine g_ [1,2] ?_
  refine n_ ?_
  refine wpM_regionK [1,2] rfl fun Q1 hQ1 => ?_
  refine S_ ?_
  refine cp_ (szInt_ok m.i left h0 h1 hm.i) Tryz.call54 ?_
  refine hQ1 _ _ (S_ ?_);clear hQ1 Q1
  refine g_ [1,2,10] ?_
  refine c_ (fun hc0 => ?_) fun hc0 => ?_
  ·
    have hz := szR_no (L := left) (m := mz m) (by have := szR_neg hc0; unfold mz; omega)
    refine g_ [4] ?_
    refine e_ Tryz.results18 ?_
    first
    | exact True.intro
    | first
      | exact hz.symm
      | (rw [hz, p3.2, p2.2, p1.2]; unfold mz; omega)
  have p1 := szR_pos hc0
  refine n_ ?_
  refine wpM_regionK [1,2] rfl fun Q1 hQ1 => ?_
  refine S_ ?_
  refine cp_ (szInt_ok m.o (szR left m.i.length) (by omega) (by omega) hm.o) Tryz.call54 ?_
  refine hQ1 _ _ (S_ ?_);clear hQ1 Q1
  refine g_ [1,2,16] ?_
  refine c_ (fun hc1 => ?_) fun hc1 => ?_
  ·
    have hz := szR_no (L := left) (m := mz m) (by have := szR_neg hc1; unfold mz; omega)
    refine g_ [4] ?_
    refine e_ Tryz.results18 ?_
    first
    | exact True.intro
    | first
      | exact hz.symm
      | (rw [hz, p3.2, p2.2, p1.2]; unfold mz; omega)
  have p2 := szR_pos hc1
  refine n_ ?_
  refine wpM_regionK [1] rfl fun Q1 hQ1 => ?_
  refine S_ ?_
  refine cp_ (szInt_ok m.v (szR (szR left m.i.length) m.o.length) (by omega) (by omega) hm.v) Tryz.call54 ?_
  refine hQ1 _ _ (S_ ?_);clear hQ1 Q1
  refine g_ [1,22] ?_
  refine c_ (fun hc2 => ?_) fun hc2 => ?_
  ·
    have hz := szR_no (L := left) (m := mz m) (by have := szR_neg hc2; unfold mz; omega)
    refine g_ [4] ?_
    refine e_ Tryz.results18 ?_
    first
    | exact True.intro
    | first
      | exact hz.symm
      | (rw [hz, p3.2, p2.2, p1.2]; unfold mz; omega)
  have p3 := szR_pos hc2
  have hz := szR_yes (L := left) (m := mz m) (by unfold mz; omega)
  refine g_ [4] ?_
  refine e_ Tryz.results18 ?_
  first
  | exact True.intro
  | first
    | exact hz.symm
    | (rw [hz, p3.2, p2.2, p1.2]; unfold mz; omega)
theorem mz_Sm {m : MM} (h : mz m ≤ 1048576) : m.Sm := by
  unfold mz at h
  exact ⟨by omega, by omega, by omega⟩
@[go_sem] theorem neqBool (x y : Operand) (a b : Bool) : binOpA Tryz.prog .neq 4 x y (.bool a) (.bool b) = some (.bool (!(a == b))) := by
  have h : eqA Tryz.prog 10000 4 (.bool a) (.bool b) = some (a == b) := by rw [show (10000 : Nat) = 9999 + 1 from rfl, eqA]; exact Tryz.underlying4
  simp [binOpA, eqPair, h]
theorem eqBoolS_ok (a b : List Bool) (ha : a.length ≤ 1099511627776) : PureF Tryz.prog 68 [.rows 4 (rowsB a), .rows 4 (rowsB b)] [.bool (same a b)] := by
  refine pureF_of Tryz.func68 rfl Tryz.ntmps68 (by simp) T_ ?_
  intro f0 B Q hQ
  refine g_ [0,1] ?_
  refine g_ [0,1,10] ?_
  refine c_ (fun hc0 => ?_) fun hc0 => ?_
  ·
    refine g_ [4] ?_
    refine e_ Tryz.results68 ?_
    first
    | exact True.intro
    | simp at hc0
      exact (same_no (fun h => by rw [h] at hc0; exact hc0 rfl)).symm
  have hab : a.length = b.length := by simp at hc0; omega
  refine g_ [0,1,5] ?_
  refine n_ ?_
  refine wpM_loopS (fun s n s' => ∃ (i0 M0 : Nat) , i0 + n = a.length ∧ s.M ≤ M0 ∧ ((List.range i0).all (fun i => a.getD i default == b.getD i default) = true) ∧ s' = { s with env := setE 5 (.int .i64 (i0 : Nat)) s.env, M := M0 }) (a.length) ?_ ?_
  ·
    refine .of' _ _ ⟨0, _, by omega, Nat.le_refl _, by simp, rfl⟩ ?_ ?_ ?_ <;> exact L_
  rintro n0 s' ⟨i0, M0, hi0, hM0, hv0, rfl⟩
  try dsimp only at hM0
  try refine S_ ?_
  refine g_ [0,1,5,14] ?_
  refine c_ (fun hc1 => ?_) fun hc1 => ?_
  ·
    have hl0 : i0 < a.length := by omega
    have hlb : i0 < b.length := by omega
    refine n_ ?_
    refine dr_ mixed [0,1,5,25] 0 0 [] [⟨[0],[],[],[],false⟩,⟨[5],[],[],[],false⟩,⟨[17,18],[],[],[],false⟩,⟨[19],[],[],[],false⟩,⟨[1],[],[],[],false⟩,⟨[5],[],[],[],false⟩,⟨[21,22],[],[],[],false⟩,⟨[23],[],[],[],false⟩,⟨[20,24],[],[],[],false⟩] [0,1,2,3,4,5,6,7,8] [[],[],[0,1],[0,1,2],[],[],[4,5],[4,5,6],[0,1,2,3,4,5,6,7]] 0 ?_
    intro O A K hO hA hK;simp only [atL_cons,atL_nil,Nat.reduceAdd,Nat.zero_add] at hO hA
    refine SO_ ?_
    refine hK _ (S_ ?_);clear hK K hO hA O A
    refine c_ (fun hc2 => ?_) fun hc2 => ?_
    ·
      refine g_ [4] ?_
      refine e_ Tryz.results68 ?_
      first
      | exact True.intro
      | refine (same_no fun h => ?_).symm
        subst h
        simp at hc2
    refine g_ [0,1,5] ?_
    refine .of' _ _ ⟨n0 - 1, by omega, i0 + 1, _, by omega, M_, ?_, rfl⟩ L_ L_ L_
    rw [range_all, hv0]
    simpa using hc2
  refine g_ [4] ?_
  refine e_ Tryz.results68 ?_
  first
  | exact True.intro
  | have : i0 = a.length := by omega
    subst this
    refine (same_iff.2 (List.ext_getElem hab fun i h1 h2 => ?_)).symm
    simp only [List.all_eq_true, List.mem_range, beq_iff_eq] at hv0
    have := hv0 i h1
    simpa [List.getD, h1, h2] using this
theorem same_mm (a b : MM) : (same a.i b.i && same a.o b.o && same a.v b.v) = same a b := by
  rw [Bool.eq_iff_iff]
  simp only [Bool.and_eq_true, same_iff]
  refine ⟨fun h => ?_, fun h => by subst h; simp⟩
  cases a; cases b; simp_all
theorem same_mk (a b : Mrk) : (same a.on b.on && same a.kept b.kept) = same a b := by
  rw [Bool.eq_iff_iff]
  simp only [Bool.and_eq_true, same_iff]
  refine ⟨fun h => ?_, fun h => by subst h; simp⟩
  cases a; cases b; simp_all
theorem eqMem_ok (a b : MM) (ha : a.Sm) : PureF Tryz.prog 27 [.agg a.cs, .agg b.cs] [.bool (same a b)] := by
  refine pureF_of Tryz.func27 rfl Tryz.ntmps27 (by simp) T_ ?_
  intro f0 B Q hQ
  refine g_ [2,3] ?_
  refine n_ ?_
  refine wpM_regionK [2,3,10] rfl fun Q1 hQ1 => ?_
  refine S_ ?_
  refine cp_ (eqIntS_ok a.i b.i ha.i) Tryz.call24 ?_
  refine hQ1 _ _ (S_ ?_);clear hQ1 Q1
  refine c_ (fun hc0 => ?_) fun hc0 => ?_
  ·
    refine g_ [4] ?_
    refine e_ Tryz.results27 ?_
    first
    | exact True.intro
    | rw [← same_mm]
      simp_all
  refine n_ ?_
  refine wpM_regionK [2,3,16] rfl fun Q1 hQ1 => ?_
  refine S_ ?_
  refine cp_ (eqIntS_ok a.o b.o ha.o) Tryz.call24 ?_
  refine hQ1 _ _ (S_ ?_);clear hQ1 Q1
  refine c_ (fun hc1 => ?_) fun hc1 => ?_
  ·
    refine g_ [4] ?_
    refine e_ Tryz.results27 ?_
    first
    | exact True.intro
    | rw [← same_mm]
      simp_all
  refine n_ ?_
  refine wpM_regionK [22] rfl fun Q1 hQ1 => ?_
  refine S_ ?_
  refine cp_ (eqIntS_ok a.v b.v ha.v) Tryz.call24 ?_
  refine hQ1 _ _ (S_ ?_);clear hQ1 Q1
  refine c_ (fun hc2 => ?_) fun hc2 => ?_
  ·
    refine g_ [4] ?_
    refine e_ Tryz.results27 ?_
    first
    | exact True.intro
    | rw [← same_mm]
      simp_all
  refine g_ [4] ?_
  refine e_ Tryz.results27 ?_
  first
  | exact True.intro
  | rw [← same_mm]
    simp_all
theorem eqMarks_ok (a b : Mrk) (ha : pz a ≤ 1048576) : PureF Tryz.prog 26 [.agg a.cs, .agg b.cs] [.bool (same a b)] := by
  unfold pz at ha
  refine pureF_of Tryz.func26 rfl Tryz.ntmps26 (by simp) T_ ?_
  intro f0 B Q hQ
  refine g_ [2,3] ?_
  refine n_ ?_
  refine wpM_regionK [2,3,10] rfl fun Q1 hQ1 => ?_
  refine S_ ?_
  refine cp_ (eqBoolS_ok a.on b.on (by omega)) Tryz.call68 ?_
  refine hQ1 _ _ (S_ ?_);clear hQ1 Q1
  refine c_ (fun hc0 => ?_) fun hc0 => ?_
  ·
    refine g_ [4] ?_
    refine e_ Tryz.results26 ?_
    first
    | exact True.intro
    | rw [← same_mk]
      simp_all
  refine n_ ?_
  refine wpM_regionK [16] rfl fun Q1 hQ1 => ?_
  refine S_ ?_
  refine cp_ (eqBoolS_ok a.kept b.kept (by omega)) Tryz.call68 ?_
  refine hQ1 _ _ (S_ ?_);clear hQ1 Q1
  refine c_ (fun hc1 => ?_) fun hc1 => ?_
  ·
    refine g_ [4] ?_
    refine e_ Tryz.results26 ?_
    first
    | exact True.intro
    | rw [← same_mk]
      simp_all
  refine g_ [4] ?_
  refine e_ Tryz.results26 ?_
  first
  | exact True.intro
  | rw [← same_mk]
    simp_all
theorem toBool_ok (l : List Bool) (hl : l.length ≤ 1048576) : PureF Tryz.prog 61 [.rows 4 (rowsB l)] [.rows 4 (rowsB l)] := by
  refine pureF_of Tryz.func61 rfl Tryz.ntmps61 (by simp) T_ ?_
  intro f0 B Q hQ
  refine g_ [0] ?_
  refine g_ [0,3] ?_
  rw [show bls (List.replicate l.length false) = fillC (fun b => [.bool b]) [.bool false] l 0 from by rw [fillC_zero]; simp [bls, rep]]
  refine g_ [0,3,4] ?_
  refine n_ ?_
  refine wpM_loopS (fun s n s' => ∃ (i0 M0 : Nat) , i0 + n = l.length ∧ s.M ≤ M0 ∧ (Tr i0) ∧ s' = { s with env := setE 4 (.int .i64 (i0 : Nat)) s.env, l := [(B, .cells 4 (fillC (fun b => [.bool b]) [.bool false] l i0))], M := M0 }) (l.length) ?_ ?_
  ·
    refine .of' _ _ ⟨0, _, by omega, Nat.le_refl _, trivial, rfl⟩ ?_ ?_ ?_ <;> exact L_
  rintro n0 s' ⟨i0, M0, hi0, hM0, hv0, rfl⟩
  try dsimp only at hM0
  try refine S_ ?_
  refine g_ [0,3,4,11] ?_
  refine c_ (fun hc0 => ?_) fun hc0 => ?_
  ·
    have hl0 : i0 < l.length := by omega
    have hfl := fillC_len (fun b => [PV.bool b]) [.bool false] (w := 1) (fun _ => rfl) rfl l i0 (by omega)
    have hfs := fillC_set (fun b => [PV.bool b]) [.bool false] (w := 1) (fun _ => rfl) rfl l i0 hl0
    rw [Nat.mul_one] at hfs
    change splice _ _ [.bool (l.getD i0 false)] = _ at hfs
    refine n_ ?_
    refine wpM_regionK [0,3,4] rfl fun Q1 hQ1 => ?_
    simp -implicitDefEqProofs (disch := omega) only [go_sem, hfl, hfs]
    refine hQ1 _ _ (S_ ?_);clear hQ1 Q1
    refine g_ [0,3,4] ?_
    refine .of' _ _ ⟨n0 - 1, by omega, i0 + 1, _, by omega, M_, ?_, rfl⟩ L_ L_ L_
    first | trivial | omega
  refine n_ ?_
  have hie : i0 = l.length := by omega
  rw [hie, fillC_all]
  refine frzF (fun b => [PV.bool b]) 4 (by rw [cellsOf4]; decide) (fun _ => by rw [cellsOf4]; rfl) (fun _ => rfl) B l T_ 4 T_ ?_
  refine S_ ?_
  refine g_ [2] ?_
  refine e_ Tryz.results61 ?_
  first
  | exact True.intro
  | rfl
theorem toMem_ok (m : MM) (hm : mz m ≤ 1048576) : PureF Tryz.prog 22 [.agg m.cs] [.agg m.cs] := by
  unfold mz at hm
  refine pureF_of Tryz.func22 rfl Tryz.ntmps22 (by simp) T_ ?_
  intro f0 B Q hQ
  refine g_ [1,2] ?_
  refine g_ [1,2,3] ?_
  refine n_ ?_
  refine wpM_regionK [1,2,3] rfl fun Q1 hQ1 => ?_
  refine S_ ?_
  refine cp_ (toInt_ok m.i (by omega)) Tryz.call62 ?_
  refine hQ1 _ _ (S_ ?_);clear hQ1 Q1
  refine n_ ?_
  refine wpM_regionK [1,2,3] rfl fun Q1 hQ1 => ?_
  refine S_ ?_
  refine cp_ (toInt_ok m.o (by omega)) Tryz.call62 ?_
  refine hQ1 _ _ (S_ ?_);clear hQ1 Q1
  refine n_ ?_
  refine wpM_regionK [2,3] rfl fun Q1 hQ1 => ?_
  refine S_ ?_
  refine cp_ (toInt_ok m.v (by omega)) Tryz.call62 ?_
  refine hQ1 _ _ (S_ ?_);clear hQ1 Q1
  refine g_ [2] ?_
  exact e_ Tryz.results22 True.intro
theorem toMarks_ok (k : Mrk) (hk : pz k ≤ 1048576) : PureF Tryz.prog 21 [.agg k.cs] [.agg k.cs] := by
  unfold pz at hk
  refine pureF_of Tryz.func21 rfl Tryz.ntmps21 (by simp) T_ ?_
  intro f0 B Q hQ
  refine g_ [1,2] ?_
  refine g_ [1,2,3] ?_
  refine n_ ?_
  refine wpM_regionK [1,2,3] rfl fun Q1 hQ1 => ?_
  refine S_ ?_
  refine cp_ (toBool_ok k.on (by omega)) Tryz.call61 ?_
  refine hQ1 _ _ (S_ ?_);clear hQ1 Q1
  refine n_ ?_
  refine wpM_regionK [2,3] rfl fun Q1 hQ1 => ?_
  refine S_ ?_
  refine cp_ (toBool_ok k.kept (by omega)) Tryz.call61 ?_
  refine hQ1 _ _ (S_ ?_);clear hQ1 Q1
  refine g_ [2] ?_
  exact e_ Tryz.results21 True.intro
end Go.Proofs.YtnmfmeehmieifaaGreat
namespace Go.Proofs.YtnmfmeehmieifaaGreat
open Go Sg
set_option maxRecDepth 100000
set_option linter.unusedSimpArgs false
set_option linter.unusedVariables false
set_option linter.unusedSectionVars false
set_option maxHeartbeats 4000000
variable [Glob]
theorem own_intsI {l : List Int} {cs : List PV} {T : List (Nat × AObj)} (h : Owns Tryz.prog cs [.rows 3 (rowsI l)] T) : ∃ id, cs = [.sl 3 id 0 l.length] ∧ T = [(id, .cells 3 (ints l))] := by
  obtain ⟨id, c0, T0, cs', T', rfl, rfl, h0, h1, _, _⟩ := h.rows
  obtain ⟨rfl, rfl⟩ := h1.none
  rw [rowsI_flat] at h0
  obtain ⟨rfl, rfl⟩ := h0.litAll (ints_lit l)
  exact ⟨id, by rw [rowsI_len], rfl⟩
theorem bls_lit (l : List Bool) : (bls l).all PV.lit = true := by simp [bls, PV.lit]
theorem own_bools (id : Nat) (l : List Bool) : Owns Tryz.prog [.sl 4 id 0 l.length] [.rows 4 (rowsB l)] [(id, .cells 4 (bls l))] := by
  refine ownsSl id l.length (by simp [rowsB]) (by rw [cellsOf4]; decide) (fun x hx => ?_) ?_
  · simp only [rowsB, List.mem_map] at hx
    obtain ⟨n, _, rfl⟩ := hx
    rw [cellsOf4]; exact ⟨rfl, rfl⟩
  · rw [rowsB_flat]; exact ownsL _ (bls_lit l)
theorem own_boolsI {l : List Bool} {cs : List PV} {T : List (Nat × AObj)} (h : Owns Tryz.prog cs [.rows 4 (rowsB l)] T) : ∃ id, cs = [.sl 4 id 0 l.length] ∧ T = [(id, .cells 4 (bls l))] := by
  obtain ⟨id, c0, T0, cs', T', rfl, rfl, h0, h1, _, _⟩ := h.rows
  obtain ⟨rfl, rfl⟩ := h1.none
  rw [rowsB_flat] at h0
  obtain ⟨rfl, rfl⟩ := h0.litAll (bls_lit l)
  exact ⟨id, by simp [rowsB], rfl⟩
def mkI (k : Int) (n : Nat) : List Int := (List.range n).map fun i => k + (i : Nat)
theorem mkI_len (k : Int) (n : Nat) : (mkI k n).length = n := by simp [mkI]
theorem mkI_succ (k : Int) (n : Nat) : mkI k (n + 1) = mkI k n ++ [k + (n : Nat)] := by simp [mkI, List.range_succ]
theorem mkI_get (k : Int) (n i : Nat) (h : i < n) : (mkI k n).getD i 0 = k + (i : Nat) := by simp [mkI, List.getD, h]
@[go_sem] theorem mkI_zero (k : Int) : mkI k 0 = [] := rfl
def mkB (k : Int) (n : Nat) : List Bool := (List.range n).map fun i => Int.tmod (k + (i : Nat)) 3 == 0
theorem mkB_len (k : Int) (n : Nat) : (mkB k n).length = n := by simp [mkB]
theorem mkB_succ (k : Int) (n : Nat) : mkB k (n + 1) = mkB k n ++ [Int.tmod (k + (n : Nat)) 3 == 0] := by simp [mkB, List.range_succ]
@[go_sem] theorem mkB_zero (k : Int) : mkB k 0 = [] := rfl
theorem splice_one {a b : List PV} {x y : PV} {i : Nat} (h : a.length = i) : splice (a ++ x :: b) i [y] = a ++ y :: b := by
  subst h
  simp [splice]
theorem mkI_set (k : Int) (l : List Int) (i : Nat) (h : i < l.length) : splice (ints (mkI k i ++ l.drop i)) i [.int .i64 (k + (i : Nat))] = ints (mkI k (i + 1) ++ l.drop (i + 1)) := by
  rw [List.drop_eq_getElem_cons h, mkI_succ]
  simp only [ints, List.map_append, List.map_cons, List.map_nil, List.append_assoc, List.cons_append, List.nil_append]
  exact splice_one (by simp [mkI_len])
theorem mkB_set (k : Int) (l : List Bool) (i : Nat) (h : i < l.length) : splice (bls (mkB k i ++ l.drop i)) i [.bool (Int.tmod (k + (i : Nat)) 3 == 0)] = bls (mkB k (i + 1) ++ l.drop (i + 1)) := by
  rw [List.drop_eq_getElem_cons h, mkB_succ]
  simp only [bls, List.map_append, List.map_cons, List.map_nil, List.append_assoc, List.cons_append, List.nil_append]
  exact splice_one (by simp [mkB_len])
theorem markIntS_ok (id : Nat) (l : List Int) (hl : l.length ≤ 1048576) (k : Int) (h0 : 0 ≤ k) (h1 : k ≤ 1099511627776) : CallF Tryz.prog 31 [.sl 3 id 0 l.length, .int .i64 k] [(id, .cells 3 (ints l))] 0 (SetR Tryz.prog [.sl 3 id 0 l.length] (k + l.length) [.rows 3 (rowsI (mkI k l.length))] [(id, .cells 3 (ints l))]) := by
  refine callF_of' Tryz.func31 rfl Tryz.ntmps31 (by simp) ?_
  intro f0 B ns Q hB hns hQ
  obtain rfl : ns = [] := List.eq_nil_of_length_eq_zero hns
  have hid : id < B := hB id (by simp [hasKey, lk])
  refine g_ [0,1] ?_
  refine g_ [0,1,5] ?_
  refine n_ ?_
  refine wpM_loopS (fun s n s' => ∃ (i0 M0 : Nat) (K : Int), i0 + n = l.length ∧ s.M ≤ M0 ∧ (K = k + (i0 : Nat)) ∧ s' = { s with env := setE 5 (.int .i64 (i0 : Nat)) (setE 1 (.int .i64 K) s.env), l := [(id, .cells 3 (ints (mkI k i0 ++ l.drop i0)))], M := M0 }) (l.length) ?_ ?_
  ·
    refine .of' _ _ ⟨0, _, k, by omega, Nat.le_refl _, by simp, rfl⟩ ?_ ?_ ?_ <;> exact L_
  rintro n0 s' ⟨i0, M0, K, hi0, hM0, hv0, rfl⟩
  try dsimp only at hM0
  try refine S_ ?_
  refine g_ [0,1,5,9] ?_
  refine c_ (fun hc0 => ?_) fun hc0 => ?_
  ·
    have hl0 : i0 < l.length := by omega
    have hfl : (ints (mkI k i0 ++ l.drop i0)).length = l.length := by simp [ints, mkI_len]; omega
    have hfs := mkI_set k l i0 hl0
    rw [← hv0] at hfs
    refine n_ ?_
    refine wpM_regionK [0,1,5] rfl fun Q1 hQ1 => ?_
    simp -implicitDefEqProofs (disch := omega) only [go_sem, hfl, hfs]
    refine hQ1 _ _ (S_ ?_);clear hQ1 Q1
    refine g_ [0,1,5] ?_
    refine g_ [0,1,5] ?_
    refine .of' _ _ ⟨n0 - 1, by omega, i0 + 1, _, K + 1, by omega, M_, ?_, rfl⟩ L_ L_ L_
    first | trivial | omega
  refine n_ ?_
  have hie : i0 = l.length := by omega
  rw [hie, List.drop_length, List.append_nil]
  refine g_ [4] ?_
  refine wpM_ret ?_
  try refine S_ ?_
  have hK : K = k + (l.length : Int) := by rw [hv0, hie]
  subst hK
  have hO := own_ints id (mkI k l.length)
  rw [mkI_len] at hO
  exact hQ _ _ (retSet rfl hO rfl rfl rfl rfl (by rw [Tryz.results31] <;> simp (maxSteps := 1000000) -implicitDefEqProofs (disch := omega) only [go_sem] <;> rfl) (fun q hq => by simp at hq; subst hq; simp -implicitDefEqProofs (disch := omega) only [go_sem]) (by simp -implicitDefEqProofs (disch := omega) only [go_sem, true_or, or_true]))
theorem heldIntS_ok (w : Nat) (hn : w ≤ 1048576) (k : Int) (h0 : 0 ≤ k) (h1 : k ≤ 1099511627776) : PureF Tryz.prog 32 [.rows 3 (rowsI (mkI k w)), .int .i64 k] [.int .i64 (k + w)] := by
  have hll := mkI_len k w
  refine pureF_of Tryz.func32 rfl Tryz.ntmps32 (by simp) T_ ?_
  intro f0 B Q hQ
  refine g_ [0,1] ?_
  refine g_ [0,1,5] ?_
  refine n_ ?_
  refine wpM_loopS (fun s n s' => ∃ (i0 M0 : Nat) (K : Int), i0 + n = w ∧ s.M ≤ M0 ∧ (K = k + (i0 : Nat)) ∧ s' = { s with env := setE 5 (.int .i64 (i0 : Nat)) (setE 1 (.int .i64 K) s.env), M := M0 }) (w) ?_ ?_
  ·
    refine .of' _ _ ⟨0, _, k, by omega, Nat.le_refl _, by simp, rfl⟩ ?_ ?_ ?_ <;> exact L_
  rintro n0 s' ⟨i0, M0, K, hi0, hM0, hv0, rfl⟩
  try dsimp only at hM0
  try refine S_ ?_
  refine g_ [0,1,5,9] ?_
  refine c_ (fun hc0 => ?_) fun hc0 => ?_
  ·
    have hl0 : i0 < w := by omega
    have hg := mkI_get k w i0 hl0
    refine g_ [0,1,5,17] ?_
    refine c_ (fun hc1 => ?_) fun hc1 => ?_
    · exfalso; rw [hg, hv0] at hc1; simp at hc1
    refine g_ [0,1,5] ?_
    refine g_ [0,1,5] ?_
    refine .of' _ _ ⟨n0 - 1, by omega, i0 + 1, _, K + 1, by omega, M_, ?_, rfl⟩ L_ L_ L_
    first | trivial | omega
  refine g_ [4] ?_
  refine e_ Tryz.results32 ?_
  first
  | exact True.intro
  | rw [hv0]; simp; omega
theorem own_intsX {x n : Nat} {l : List Int} {T : List (Nat × AObj)} (h : Owns Tryz.prog [.sl 3 x 0 n] [.rows 3 (rowsI l)] T) : T = [(x, .cells 3 (ints l))] := by
  obtain ⟨id, h1, rfl⟩ := own_intsI h
  injection h1 with h1 _
  injection h1 with _ h1 _ _
  rw [h1]
def MM.oc (m : MM) (x y z : Nat) : List PV := [.sl 3 x 0 m.i.length, .sl 3 y 0 m.o.length, .sl 3 z 0 m.v.length]
theorem own_mem (m : MM) (x y z : Nat) : Owns Tryz.prog (m.oc x y z) m.cs (m.ol x y z) := (own_ints x m.i).app ((own_ints y m.o).app (own_ints z m.v))
theorem own_memI {m : MM} {cs : List PV} {T : List (Nat × AObj)} (h : Owns Tryz.prog cs m.cs T) : ∃ x y z, cs = m.oc x y z ∧ T = m.ol x y z := by
  obtain ⟨c1, c2, T1, T2, rfl, rfl, h1, h2⟩ := Owns.split (q1 := [.rows 3 (rowsI m.i)]) (q2 := [.rows 3 (rowsI m.o), .rows 3 (rowsI m.v)]) h
  obtain ⟨c3, c4, T3, T4, rfl, rfl, h3, h4⟩ := Owns.split (q1 := [.rows 3 (rowsI m.o)]) (q2 := [.rows 3 (rowsI m.v)]) h2
  obtain ⟨x, rfl, rfl⟩ := own_intsI h1
  obtain ⟨y, rfl, rfl⟩ := own_intsI h3
  obtain ⟨z, rfl, rfl⟩ := own_intsI h4
  exact ⟨x, y, z, rfl, rfl⟩
def mkM (k : Int) (m : MM) : MM := ⟨mkI k m.i.length, mkI (k + m.i.length) m.o.length, mkI (k + m.i.length + m.o.length) m.v.length⟩
theorem mkM_oc (k : Int) (m : MM) (x y z : Nat) : (mkM k m).oc x y z = m.oc x y z := by simp [MM.oc, mkM, mkI_len]
theorem markMem_ok (m : MM) (hm : mz m ≤ 1048576) (x y z : Nat) (h1 : x ≠ y) (h2 : x ≠ z) (h3 : y ≠ z) (k : Int) (hk0 : 0 ≤ k) (hk1 : k ≤ 1000000000) : CallF Tryz.prog 30 [.agg (m.oc x y z), .int .i64 k] (m.ol x y z) 0 (SetR Tryz.prog (m.oc x y z) (k + mz m) (mkM k m).cs (m.ol x y z)) := by
  unfold mz at hm
  have hmz : (k + mz m : Int) = k + m.i.length + m.o.length + m.v.length := by unfold mz; omega
  refine callF_of' Tryz.func30 rfl Tryz.ntmps30 (by simp) ?_
  intro f0 B ns Q hB hns hQ
  obtain rfl : ns = [] := List.eq_nil_of_length_eq_zero hns
  have hx : x < B := hB x (by simp [hasKey, lk, MM.ol])
  have hy : y < B := hB y (by simp [hasKey, lk, MM.ol, h1])
  have hz : z < B := hB z (by simp [hasKey, lk, MM.ol, h2, h3])
  unfold MM.oc
  refine g_ [1,2] ?_
  refine n_ ?_
  refine wpM_regionK [1,2] rfl fun Q1 hQ1 => ?_
  refine S_ ?_
  refine call_set (ps := [.sl 3 x 0 m.i.length, .int .i64 k]) [(B, _)] [(y, _), (z, _)] (markIntS_ok x m.i (by omega) k hk0 (by omega)) Tryz.call31 rfl rfl rfl F_ rfl (by simp [ksL]; omega) ?_
  intro T' hO hks
  obtain rfl := own_intsX hO
  refine S_ ?_
  refine hQ1 _ _ (S_ ?_);clear hQ1 Q1
  refine n_ ?_
  refine wpM_regionK [1,2] rfl fun Q1 hQ1 => ?_
  refine S_ ?_
  refine call_set (ps := [.sl 3 y 0 m.o.length, .int .i64 (k + m.i.length)]) [(B, _), (x, _)] [(z, _)] (markIntS_ok y m.o (by omega) (k + m.i.length) (by omega) (by omega)) Tryz.call31 rfl rfl rfl F_ rfl (by simp [ksL]; omega) ?_
  intro T' hO hks
  obtain rfl := own_intsX hO
  refine S_ ?_
  refine hQ1 _ _ (S_ ?_);clear hQ1 Q1
  refine n_ ?_
  refine wpM_regionK [1] rfl fun Q1 hQ1 => ?_
  refine S_ ?_
  refine call_set (ps := [.sl 3 z 0 m.v.length, .int .i64 (k + m.i.length + m.o.length)]) [(B, _), (x, _), (y, _)] [] (markIntS_ok z m.v (by omega) (k + m.i.length + m.o.length) (by omega) (by omega)) Tryz.call31 rfl rfl rfl F_ rfl (by simp [ksL]; omega) ?_
  intro T' hO hks
  obtain rfl := own_intsX hO
  refine S_ ?_
  refine hQ1 _ _ (S_ ?_);clear hQ1 Q1
  refine g_ [4] ?_
  refine wpM_ret ?_
  try refine S_ ?_
  have hO := own_mem (mkM k m) x y z
  rw [mkM_oc] at hO
  refine hQ _ _ (retSet rfl hO rfl rfl rfl rfl (by rw [hmz]; exact (by rw [Tryz.results30] <;> simp (maxSteps := 1000000) -implicitDefEqProofs (disch := omega) only [go_sem] <;> rfl)) (fun q hq => ?_) (by simp -implicitDefEqProofs (disch := omega) only [go_sem, true_or, or_true]))
  simp [MM.ol, mkM] at hq
  rcases hq with rfl | rfl | rfl <;> simp -implicitDefEqProofs (disch := omega) only [go_sem, h1, h2, h3]
theorem heldMem_ok (k : Int) (m : MM) (hm : mz m ≤ 1048576) (hk0 : 0 ≤ k) (hk1 : k ≤ 1000000000) : PureF Tryz.prog 36 [.agg (mkM k m).cs, .int .i64 k] [.int .i64 (k + mz m)] := by
  unfold mz at hm
  have hmz : (k + mz m : Int) = k + m.i.length + m.o.length + m.v.length := by unfold mz; omega
  unfold mkM
  refine pureF_of Tryz.func36 rfl Tryz.ntmps36 (by simp) T_ ?_
  intro f0 B Q hQ
  refine g_ [1,2] ?_
  refine n_ ?_
  refine wpM_regionK [1,2] rfl fun Q1 hQ1 => ?_
  refine S_ ?_
  refine cp_ (heldIntS_ok m.i.length (by omega) k hk0 (by omega)) Tryz.call32 ?_
  refine hQ1 _ _ (S_ ?_);clear hQ1 Q1
  refine g_ [1,2,10] ?_
  refine c_ (fun hc0 => ?_) fun hc0 => ?_
  · exfalso; omega
  refine n_ ?_
  refine wpM_regionK [1,2] rfl fun Q1 hQ1 => ?_
  refine S_ ?_
  refine cp_ (heldIntS_ok m.o.length (by omega) (k + m.i.length) (by omega) (by omega)) Tryz.call32 ?_
  refine hQ1 _ _ (S_ ?_);clear hQ1 Q1
  refine g_ [1,2,16] ?_
  refine c_ (fun hc1 => ?_) fun hc1 => ?_
  · exfalso; omega
  refine n_ ?_
  refine wpM_regionK [1] rfl fun Q1 hQ1 => ?_
  refine S_ ?_
  refine cp_ (heldIntS_ok m.v.length (by omega) (k + m.i.length + m.o.length) (by omega) (by omega)) Tryz.call32 ?_
  refine hQ1 _ _ (S_ ?_);clear hQ1 Q1
  refine g_ [1,22] ?_
  refine c_ (fun hc2 => ?_) fun hc2 => ?_
  · exfalso; omega
  refine g_ [4] ?_
  refine e_ Tryz.results36 ?_
  first
  | exact True.intro
  | rw [hmz]
end Go.Proofs.YtnmfmeehmieifaaGreat
namespace Go.Proofs.YtnmfmeehmieifaaGreat
open Go Sg
set_option maxRecDepth 100000
set_option linter.unusedSimpArgs false
set_option linter.unusedVariables false
set_option linter.unusedSectionVars false
set_option maxHeartbeats 4000000
variable [Glob]
theorem toTrans_ok (t : Trn) (ht : tz t ≤ 1048576) : PureF Tryz.prog 106 [.agg t.lcs] [.agg t.cs] := by
  have e1 : tz t = t.fr.length + t.to'.length + Ex.szL t.w.kids := rfl
  refine pureF_of Tryz.func106 rfl Tryz.ntmps106 (by simp) T_ ?_
  intro f0 B Q hQ
  refine g_ [1,2] ?_
  refine g_ [1,2,3] ?_
  refine n_ ?_
  refine wpM_regionK [1,2,3] rfl fun Q1 hQ1 => ?_
  refine S_ ?_
  refine cp_ (toInt_ok t.fr (by omega)) Tryz.call62 ?_
  refine hQ1 _ _ (S_ ?_);clear hQ1 Q1
  refine n_ ?_
  refine wpM_regionK [1,2,3] rfl fun Q1 hQ1 => ?_
  refine S_ ?_
  refine cp_ (toInt_ok t.to' (by omega)) Tryz.call62 ?_
  refine hQ1 _ _ (S_ ?_);clear hQ1 Q1
  refine n_ ?_
  refine wpM_regionK [2,3] rfl fun Q1 hQ1 => ?_
  refine S_ ?_
  refine cp_ (toExpr_ok t.w (by omega)) Tryz.call87 ?_
  refine hQ1 _ _ (S_ ?_);clear hQ1 Q1
  refine g_ [2] ?_
  exact e_ Tryz.results106 True.intro
abbrev tZ : List PV := [.emp, .emp, .int .i64 0, .int .i64 0, .int .i64 0, .int .i64 0, .emp]
theorem toTransS_ok (l : List Trn) (hl : l.length + (l.map tz).sum ≤ 1048576) : PureF Tryz.prog 59 [.rows 152 (rowsLT l)] [.rows 154 (rowsT l)] := by
  refine pureF_of Tryz.func59 rfl Tryz.ntmps59 (by simp) T_ ?_
  intro f0 B Q hQ
  refine g_ [0] ?_
  refine g_ [0,3] ?_
  rw [← fillC_zero Trn.cs tZ l]
  refine g_ [0,3,4] ?_
  refine n_ ?_
  refine wpM_loopS (fun s n s' => ∃ (i0 M0 : Nat) , i0 + n = l.length ∧ s.M ≤ M0 ∧ (Tr i0) ∧ s' = { s with env := setE 4 (.int .i64 (i0 : Nat)) s.env, l := [(B, .cells 154 (fillC Trn.cs tZ l i0))], M := M0 }) (l.length) ?_ ?_
  ·
    refine .of' _ _ ⟨0, _, by omega, Nat.le_refl _, trivial, rfl⟩ ?_ ?_ ?_ <;> exact L_
  rintro n0 s' ⟨i0, M0, hi0, hM0, hv0, rfl⟩
  try dsimp only at hM0
  try refine S_ ?_
  refine g_ [0,3,4,11] ?_
  refine c_ (fun hc0 => ?_) fun hc0 => ?_
  ·
    have hl0 : i0 < l.length := by omega
    have hfl := fillC_len Trn.cs tZ (w := 7) (fun _ => rfl) rfl l i0 (by omega)
    have hfs := fillC_set Trn.cs tZ (w := 7) (fun _ => rfl) rfl l i0 hl0
    rw [Trn.cs_eq] at hfs
    have hg := sum_get tz l i0 hl0
    refine n_ ?_
    refine wpM_regionK [0,3,4] rfl fun Q1 hQ1 => ?_
    simp -implicitDefEqProofs (disch := omega) only [go_sem, hfl, hfs]
    refine call_p (toTrans_ok (l.getD i0 default) (by omega)) Tryz.call106 rfl rfl rfl (by first | rfl | (simp -implicitDefEqProofs (disch := omega) only [go_sem] <;> rfl)) ?_
    simp -implicitDefEqProofs (disch := omega) only [go_sem, hfl, hfs]
    refine hQ1 _ _ (S_ ?_);clear hQ1 Q1
    refine g_ [0,3,4] ?_
    refine .of' _ _ ⟨n0 - 1, by omega, i0 + 1, _, by omega, M_, ?_, rfl⟩ L_ L_ L_
    first | trivial | omega
  refine n_ ?_
  have hie : i0 = l.length := by omega
  rw [hie, fillC_all]
  refine frzF Trn.cs 154 (by rw [cellsOf154]; decide) (fun _ => by rw [cellsOf154]; rfl) (fun _ => rfl) B l T_ 154 T_ ?_
  refine S_ ?_
  refine g_ [2] ?_
  refine e_ Tryz.results59 ?_
  first
  | exact True.intro
  | rfl
theorem toChart_ok (c : Cht) (hc : cz c ≤ 1048576) : PureF Tryz.prog 20 [.agg c.lcs] [.agg c.cs] := by
  have e1 : cz c = c.ts.length + (c.ts.map tz).sum + c.as'.length := rfl
  refine pureF_of Tryz.func20 rfl Tryz.ntmps20 (by simp) T_ ?_
  intro f0 B Q hQ
  refine g_ [1,2] ?_
  refine g_ [1,2,3] ?_
  refine g_ [1,2,3] ?_
  refine n_ ?_
  refine wpM_regionK [1,2,3] rfl fun Q1 hQ1 => ?_
  refine S_ ?_
  refine cp_ (toTransS_ok c.ts (by omega)) Tryz.call59 ?_
  refine hQ1 _ _ (S_ ?_);clear hQ1 Q1
  refine n_ ?_
  refine wpM_regionK [2,3] rfl fun Q1 hQ1 => ?_
  refine S_ ?_
  refine cp_ (toActS_ok c.as' (by omega)) Tryz.call60 ?_
  refine hQ1 _ _ (S_ ?_);clear hQ1 Q1
  refine g_ [2] ?_
  exact e_ Tryz.results20 True.intro
end Go.Proofs.YtnmfmeehmieifaaGreat
namespace Go.Proofs.YtnmfmeehmieifaaGreat
open Go Sg Go.WideShapes
set_option maxRecDepth 100000
set_option linter.unusedSimpArgs false
set_option linter.unusedVariables false
set_option linter.unusedSectionVars false
set_option maxHeartbeats 4000000
variable [Glob]
mutual
def Sm.lcs : Sm → List PV
  | .mk k a e th el => [.int .i64 k, .int .i64 a.kind, .int .i64 a.at', .int .i64 e.kind, .int .i64 e.n, .int .i64 e.a.kind, .int .i64 e.a.at', .rows 70 (Ex.lcsL e.kids), .rows 72 (Sm.lcsL th), .rows 72 (Sm.lcsL el)]
def Sm.lcsL : List Sm → List (List PV)
  | [] => []
  | s :: l => s.lcs :: Sm.lcsL l
end
@[go_sem] theorem Sm.lcs_eq (s : Sm) : s.lcs = [.int .i64 s.kind, .int .i64 s.to'.kind, .int .i64 s.to'.at', .int .i64 s.e.kind, .int .i64 s.e.n, .int .i64 s.e.a.kind, .int .i64 s.e.a.at', .rows 70 (Ex.lcsL s.e.kids), .rows 72 (Sm.lcsL s.th), .rows 72 (Sm.lcsL s.el)] := by cases s; simp only [Sm.lcs, Sm.kind, Sm.to', Sm.e, Sm.th, Sm.el]
theorem Sm.lcsL_map (l : List Sm) : Sm.lcsL l = l.map Sm.lcs := by
  induction l with
  | nil => rfl
  | cons e l ih => simp [Sm.lcsL, ih]
@[go_sem] theorem Sm.lcsL_len (l : List Sm) : (Sm.lcsL l).length = l.length := by simp [Sm.lcsL_map]
@[go_sem] theorem Sm.lcsL_get (l : List Sm) (k : Nat) (h : k < l.length) : (Sm.lcsL l).getD k [] = (l.getD k default).lcs := by simp [Sm.lcsL_map, List.getD, h]
mutual
def Sm.Len : Sm → Prop | .mk _ _ e th el => e.Len ∧ (th.length ≤ maxLen ∧ Sm.LenL th) ∧ (el.length ≤ maxLen ∧ Sm.LenL el)
def Sm.LenL : List Sm → Prop
  | [] => True
  | e :: l => e.Len ∧ Sm.LenL l
end
theorem Sm.LenL_iff (l : List Sm) : Sm.LenL l ↔ ∀ e ∈ l, e.Len := by
  induction l with
  | nil => simp [Sm.LenL]
  | cons e l ih => simp [Sm.LenL, ih]
section
variable {H : Type} {enc : TypeId × Value → H} {W : World} {base : Nat} {spare : Nat → Bool} {held : Bool}
end
mutual
def Sm.bz : Sm → Nat | .mk _ _ e th el => kz e + Sm.bzL th + Sm.bzL el
def Sm.bzL : List Sm → Nat | [] => 0 | s :: l => 1 + s.bz + Sm.bzL l
end
end Go.Proofs.YtnmfmeehmieifaaGreat
namespace Go.Proofs.YtnmfmeehmieifaaGreat
open Go Sg
set_option maxRecDepth 100000
set_option linter.unusedSimpArgs false
set_option linter.unusedVariables false
set_option linter.unusedSectionVars false
set_option maxHeartbeats 4000000
variable [Glob]
theorem toMemT_ok (m : MM) (hm : mz m ≤ 1048576) : CallF Tryz.prog 22 [.agg m.cs] [] 3 (OwnR Tryz.prog wA m.cs) := by
  unfold mz at hm
  refine callF_of' Tryz.func22 rfl Tryz.ntmps22 (by simp) ?_
  intro f0 B ns Q hB hns hQ
  refine g_ [1,2] ?_
  refine g_ [1,2,3] ?_
  refine n_ ?_
  refine wpM_regionK [1,2,3] rfl fun Q1 hQ1 => ?_
  refine S_ ?_
  refine call_own (ps := [.rows 3 (rowsI m.i)]) (toIntT_ok m.i (by omega)) Tryz.call62 rfl rfl rfl F_ (by simp [inR_cons, inR_nil] <;> omega) (by show B ≤ B + 3; omega) ?_
  intro cs1 T1 hO1 hI1 hk1
  obtain ⟨x, rfl, rfl⟩ := own_intsI hO1
  dsimp only at hI1 hk1
  refine S_ ?_
  refine hQ1 _ _ (S_ ?_);clear hQ1 Q1
  refine n_ ?_
  refine wpM_regionK [1,2,3] rfl fun Q1 hQ1 => ?_
  refine S_ ?_
  refine call_own (ps := [.rows 3 (rowsI m.o)]) (toIntT_ok m.o (by omega)) Tryz.call62 rfl rfl rfl F_ (InR.app (l := [_, _, _]) (M := B + 3) (by simp [inR_cons, inR_nil] <;> omega) hI1 (by show B ≤ B + 3; omega) (by first | omega | (dsimp only; omega))) (by show B ≤ B + 3 + 1; omega) ?_
  intro cs2 T2 hO2 hI2 hk2
  obtain ⟨y, rfl, rfl⟩ := own_intsI hO2
  dsimp only at hI2 hk2
  have hI12 := hI1.app hI2 (by omega) (by omega)
  refine S_ ?_
  refine hQ1 _ _ (S_ ?_);clear hQ1 Q1
  refine n_ ?_
  refine wpM_regionK [2,3] rfl fun Q1 hQ1 => ?_
  refine S_ ?_
  refine call_own (ps := [.rows 3 (rowsI m.v)]) (toIntT_ok m.v (by omega)) Tryz.call62 rfl rfl rfl F_ (InR.app (l := [_, _, _]) (M := B + 3) (by simp [inR_cons, inR_nil] <;> omega) hI12 (by show B ≤ B + 3; omega) (by first | omega | (dsimp only; omega))) (by show B ≤ B + 3 + 1 + 1; omega) ?_
  intro cs3 T3 hO3 hI3 hk3
  obtain ⟨z, rfl, rfl⟩ := own_intsI hO3
  dsimp only at hI3 hk3
  have hI123 := hI12.app hI3 (by omega) (by omega)
  refine S_ ?_
  refine hQ1 _ _ (S_ ?_);clear hQ1 Q1
  refine g_ [2] ?_
  refine wpM_ret ?_
  try refine S_ ?_
  refine hQ _ _ (retOwnI (M := B + 3 + 1 + 1 + 1) (.inr rfl) (m.ol x y z) (own_mem m x y z) rfl rfl rfl (by rw [Tryz.results22] <;> simp (maxSteps := 1000000) -implicitDefEqProofs (disch := omega) only [go_sem] <;> rfl) (by rw [hns]; rfl) ?_ ?_ hI123.nd)
  · exact InR.app (l := [_, _, _]) (M := B + 3) (by simp [inR_cons, inR_nil] <;> omega) hI123 (by show B ≤ B + 3; omega) (by omega)
  · exact fun q hq => List.mem_cons_of_mem _ (List.mem_cons_of_mem _ (List.mem_cons_of_mem _ hq))
theorem toBoolT_ok (l : List Bool) (hl : l.length ≤ 1048576) : CallF Tryz.prog 61 [.rows 4 (rowsB l)] [] 1 (OwnR Tryz.prog id [.rows 4 (rowsB l)]) := by
  refine callF_of' Tryz.func61 rfl Tryz.ntmps61 (by simp) ?_
  intro f0 B ns Q hB hns hQ
  refine g_ [0] ?_
  refine g_ [0,3] ?_
  rw [show bls (List.replicate l.length false) = fillC (fun b => [.bool b]) [.bool false] l 0 from by rw [fillC_zero]; simp [bls, rep]]
  refine g_ [0,3,4] ?_
  refine n_ ?_
  refine wpM_loopS (fun s n s' => ∃ (i0 M0 : Nat) , i0 + n = l.length ∧ s.M ≤ M0 ∧ (Tr i0) ∧ s' = { s with env := setE 4 (.int .i64 (i0 : Nat)) s.env, l := [(B, .cells 4 (fillC (fun b => [.bool b]) [.bool false] l i0))], M := M0 }) (l.length) ?_ ?_
  ·
    refine .of' _ _ ⟨0, _, by omega, Nat.le_refl _, trivial, rfl⟩ ?_ ?_ ?_ <;> exact L_
  rintro n0 s' ⟨i0, M0, hi0, hM0, hv0, rfl⟩
  try dsimp only at hM0
  try refine S_ ?_
  refine g_ [0,3,4,11] ?_
  refine c_ (fun hc0 => ?_) fun hc0 => ?_
  ·
    have hl0 : i0 < l.length := by omega
    have hfl := fillC_len (fun b => [PV.bool b]) [.bool false] (w := 1) (fun _ => rfl) rfl l i0 (by omega)
    have hfs := fillC_set (fun b => [PV.bool b]) [.bool false] (w := 1) (fun _ => rfl) rfl l i0 hl0
    rw [Nat.mul_one] at hfs
    change splice _ _ [.bool (l.getD i0 false)] = _ at hfs
    refine n_ ?_
    refine wpM_regionK [0,3,4] rfl fun Q1 hQ1 => ?_
    simp -implicitDefEqProofs (disch := omega) only [go_sem, hfl, hfs]
    refine hQ1 _ _ (S_ ?_);clear hQ1 Q1
    refine g_ [0,3,4] ?_
    refine .of' _ _ ⟨n0 - 1, by omega, i0 + 1, _, by omega, M_, ?_, rfl⟩ L_ L_ L_
    first | trivial | omega
  refine n_ ?_
  have hie : i0 = l.length := by omega
  rw [hie, fillC_all, show (l.map (fun b => [PV.bool b])).flatten = bls l from rowsB_flat l]
  refine g_ [2] ?_
  refine wpM_ret ?_
  try refine S_ ?_
  exact hQ _ _ (retOwnI (M := B + 1) (.inl rfl) [(B, .cells 4 (bls l))] (own_bools B l) rfl rfl rfl (by rw [Tryz.results61] <;> simp (maxSteps := 1000000) -implicitDefEqProofs (disch := omega) only [go_sem] <;> rfl) (by rw [hns]; rfl) (by simp [inR_cons, inR_nil]) (fun q hq => hq) (by simp [ksL]))
def Mrk.oc (k : Mrk) (x y : Nat) : List PV := [.sl 4 x 0 k.on.length, .sl 4 y 0 k.kept.length]
def Mrk.ol (k : Mrk) (x y : Nat) : List (Nat × AObj) := [(x, .cells 4 (bls k.on)), (y, .cells 4 (bls k.kept))]
@[go_sem] theorem Mrk.ol_eq (k : Mrk) (x y : Nat) : k.ol x y = [(x, .cells 4 (bls k.on)), (y, .cells 4 (bls k.kept))] := rfl
theorem own_mrk (k : Mrk) (x y : Nat) : Owns Tryz.prog (k.oc x y) k.cs (k.ol x y) := (own_bools x k.on).app (own_bools y k.kept)
theorem own_mrkI {k : Mrk} {cs : List PV} {T : List (Nat × AObj)} (h : Owns Tryz.prog cs k.cs T) : ∃ x y, cs = k.oc x y ∧ T = k.ol x y := by
  obtain ⟨c1, c2, T1, T2, rfl, rfl, h1, h2⟩ := Owns.split (q1 := [.rows 4 (rowsB k.on)]) (q2 := [.rows 4 (rowsB k.kept)]) h
  obtain ⟨x, rfl, rfl⟩ := own_boolsI h1
  obtain ⟨y, rfl, rfl⟩ := own_boolsI h2
  exact ⟨x, y, rfl, rfl⟩
theorem toMarksT_ok (k : Mrk) (hk : pz k ≤ 1048576) : CallF Tryz.prog 21 [.agg k.cs] [] 2 (OwnR Tryz.prog wA k.cs) := by
  unfold pz at hk
  refine callF_of' Tryz.func21 rfl Tryz.ntmps21 (by simp) ?_
  intro f0 B ns Q hB hns hQ
  refine g_ [1,2] ?_
  refine g_ [1,2,3] ?_
  refine n_ ?_
  refine wpM_regionK [1,2,3] rfl fun Q1 hQ1 => ?_
  refine S_ ?_
  refine call_own (ps := [.rows 4 (rowsB k.on)]) (toBoolT_ok k.on (by omega)) Tryz.call61 rfl rfl rfl F_ (by simp [inR_cons, inR_nil] <;> omega) (by show B ≤ B + 3; omega) ?_
  intro cs1 T1 hO1 hI1 hk1
  obtain ⟨x, rfl, rfl⟩ := own_boolsI hO1
  dsimp only at hI1 hk1
  refine S_ ?_
  refine hQ1 _ _ (S_ ?_);clear hQ1 Q1
  refine n_ ?_
  refine wpM_regionK [2,3] rfl fun Q1 hQ1 => ?_
  refine S_ ?_
  refine call_own (ps := [.rows 4 (rowsB k.kept)]) (toBoolT_ok k.kept (by omega)) Tryz.call61 rfl rfl rfl F_ (InR.app (l := [_, _, _]) (M := B + 3) (by simp [inR_cons, inR_nil] <;> omega) hI1 (by show B ≤ B + 3; omega) (by first | omega | (dsimp only; omega))) (by show B ≤ B + 3 + 1; omega) ?_
  intro cs2 T2 hO2 hI2 hk2
  obtain ⟨y, rfl, rfl⟩ := own_boolsI hO2
  dsimp only at hI2 hk2
  have hI12 := hI1.app hI2 (by omega) (by omega)
  refine S_ ?_
  refine hQ1 _ _ (S_ ?_);clear hQ1 Q1
  refine g_ [2] ?_
  refine wpM_ret ?_
  try refine S_ ?_
  refine hQ _ _ (retOwnI (M := B + 3 + 1 + 1) (.inr rfl) (k.ol x y) (own_mrk k x y) rfl rfl rfl (by rw [Tryz.results21] <;> simp (maxSteps := 1000000) -implicitDefEqProofs (disch := omega) only [go_sem] <;> rfl) (by rw [hns]; rfl) ?_ ?_ hI12.nd)
  · exact InR.app (l := [_, _, _]) (M := B + 3) (by simp [inR_cons, inR_nil] <;> omega) hI12 (by show B ≤ B + 3; omega) (by omega)
  · exact fun q hq => List.mem_cons_of_mem _ (List.mem_cons_of_mem _ (List.mem_cons_of_mem _ hq))
def Trn.nT (t : Trn) : Nat := 2 + t.w.nS
theorem toTransT_ok (t : Trn) (ht : tz t ≤ 1048576) : CallF Tryz.prog 106 [.agg t.lcs] [] t.nT (OwnR Tryz.prog wA t.cs) := by
  have e1 : tz t = t.fr.length + t.to'.length + Ex.szL t.w.kids := rfl
  unfold Trn.nT
  refine callF_of' Tryz.func106 rfl Tryz.ntmps106 (by simp) ?_
  intro f0 B ns Q hB hns hQ
  refine g_ [1,2] ?_
  refine g_ [1,2,3] ?_
  refine n_ ?_
  refine wpM_regionK [1,2,3] rfl fun Q1 hQ1 => ?_
  refine S_ ?_
  refine call_own (ps := [.rows 3 (rowsI t.fr)]) (toIntT_ok t.fr (by omega)) Tryz.call62 rfl rfl rfl F_ (by simp [inR_cons, inR_nil] <;> omega) (by show B ≤ B + 3; omega) ?_
  intro cs1 T1 hO1 hI1 hk1
  obtain ⟨x, rfl, rfl⟩ := own_intsI hO1
  dsimp only at hI1 hk1
  refine S_ ?_
  refine hQ1 _ _ (S_ ?_);clear hQ1 Q1
  refine n_ ?_
  refine wpM_regionK [1,2,3] rfl fun Q1 hQ1 => ?_
  refine S_ ?_
  refine call_own (ps := [.rows 3 (rowsI t.to')]) (toIntT_ok t.to' (by omega)) Tryz.call62 rfl rfl rfl F_ (InR.app (l := [_, _, _]) (M := B + 3) (by simp [inR_cons, inR_nil] <;> omega) hI1 (by show B ≤ B + 3; omega) (by first | omega | (dsimp only; omega))) (by show B ≤ B + 3 + 1; omega) ?_
  intro cs2 T2 hO2 hI2 hk2
  obtain ⟨y, rfl, rfl⟩ := own_intsI hO2
  dsimp only at hI2 hk2
  have hI12 := hI1.app hI2 (by omega) (by omega)
  refine S_ ?_
  refine hQ1 _ _ (S_ ?_);clear hQ1 Q1
  refine n_ ?_
  refine wpM_regionK [2,3] rfl fun Q1 hQ1 => ?_
  refine S_ ?_
  refine call_own (ps := [.agg t.w.lcs]) (toExprT_ok t.w (by omega)) Tryz.call87 rfl rfl rfl F_ (InR.app (l := [_, _, _]) (M := B + 3) (by simp [inR_cons, inR_nil] <;> omega) hI12 (by show B ≤ B + 3; omega) (by first | omega | (dsimp only; omega))) (by show B ≤ B + 3 + 1 + 1; omega) ?_
  intro cs3 T3 hO3 hI3 hk3
  obtain ⟨z, rfl⟩ := own_ex hO3
  dsimp only at hI3 hk3
  have hI123 := hI12.app hI3 (by omega) (by omega)
  refine S_ ?_
  refine hQ1 _ _ (S_ ?_);clear hQ1 Q1
  refine g_ [2] ?_
  refine wpM_ret ?_
  try refine S_ ?_
  refine hQ _ _ (retOwnI (M := B + 3 + 1 + 1 + t.w.nS) (.inr rfl) ((x, .cells 3 (ints t.fr)) :: (y, .cells 3 (ints t.to')) :: T3) (cs := [.sl 3 x 0 t.fr.length, .sl 3 y 0 t.to'.length, .int .i64 t.w.kind, .int .i64 t.w.n, .int .i64 t.w.a.kind, .int .i64 t.w.a.at', .sl 77 z 0 t.w.kids.length]) ?_ rfl rfl rfl (by rw [Tryz.results106] <;> simp (maxSteps := 1000000) -implicitDefEqProofs (disch := omega) only [go_sem] <;> rfl) ?_ ?_ ?_ hI123.nd)
  · rw [Trn.cs_eq]
    rw [Ex.cs_eq] at hO3
    exact (own_ints x t.fr).app ((own_ints y t.to').app hO3)
  · rw [hns]; simp only [ksL, List.map_cons, List.length_cons] at hk3 ⊢; omega
  · exact InR.app (l := [_, _, _]) (M := B + 3) (by simp [inR_cons, inR_nil] <;> omega) hI123 (by show B ≤ B + 3; omega) (by omega)
  · exact fun q hq => List.mem_cons_of_mem _ (List.mem_cons_of_mem _ (List.mem_cons_of_mem _ hq))
theorem own_trn {t : Trn} {cs : List PV} {T : List (Nat × AObj)} (h : Owns Tryz.prog cs t.cs T) : ∃ x y z T3, cs = [.sl 3 x 0 t.fr.length, .sl 3 y 0 t.to'.length, .int .i64 t.w.kind, .int .i64 t.w.n, .int .i64 t.w.a.kind, .int .i64 t.w.a.at', .sl 77 z 0 t.w.kids.length] ∧ T = (x, .cells 3 (ints t.fr)) :: (y, .cells 3 (ints t.to')) :: T3 ∧ Owns Tryz.prog [.sl 77 z 0 t.w.kids.length] [.rows 77 (Ex.csL t.w.kids)] T3 := by
  obtain ⟨c1, c2, T1, T2, rfl, rfl, h1, h2⟩ := Owns.split (q1 := [.rows 3 (rowsI t.fr)]) (q2 := [.rows 3 (rowsI t.to'), .int .i64 t.w.kind, .int .i64 t.w.n, .int .i64 t.w.a.kind, .int .i64 t.w.a.at', .rows 77 (Ex.csL t.w.kids)]) h
  obtain ⟨c3, c4, T3, T4, rfl, rfl, h3, h4⟩ := Owns.split (q1 := [.rows 3 (rowsI t.to')]) (q2 := [.int .i64 t.w.kind, .int .i64 t.w.n, .int .i64 t.w.a.kind, .int .i64 t.w.a.at', .rows 77 (Ex.csL t.w.kids)]) h2
  obtain ⟨x, rfl, rfl⟩ := own_intsI h1
  obtain ⟨y, rfl, rfl⟩ := own_intsI h3
  obtain ⟨c5, rfl, h5⟩ := h4.lit rfl
  obtain ⟨c6, rfl, h6⟩ := h5.lit rfl
  obtain ⟨c7, rfl, h7⟩ := h6.lit rfl
  obtain ⟨c8, rfl, h8⟩ := h7.lit rfl
  obtain ⟨z, c0, T0, rfl, rfl, h0⟩ := own_exL h8
  exact ⟨x, y, z, _, rfl, rfl, h8⟩
theorem trn_len (t : Trn) : t.cs.length = 7 := rfl
theorem trn_pureL (t : Trn) : PV.pureL t.cs = true := rfl
theorem toTransST_ok (l : List Trn) (hl : l.length + (l.map tz).sum ≤ 1048576) : CallF Tryz.prog 59 [.rows 152 (rowsLT l)] [] (1 + (l.map Trn.nT).sum) (OwnR Tryz.prog id [.rows 154 (rowsT l)]) := by
  refine callF_of' Tryz.func59 rfl Tryz.ntmps59 (by simp) ?_
  intro f0 B ns Q hB hns hQ
  refine g_ [0] ?_
  refine g_ [0,3] ?_
  refine g_ [0,3,4] ?_
  refine n_ ?_
  refine wpM_loopS (fun s r s' => ∃ (i0 M0 : Nat) (C : List PV) (D : List (Nat × AObj)), i0 + r = l.length ∧ Owns Tryz.prog C ((l.take i0).map Trn.cs).flatten D ∧ B + 1 ≤ M0 ∧ InR (B + 1) M0 D ∧ (ksL D).length = ((l.take i0).map Trn.nT).sum ∧ s' = { s with env := setE 4 (.int .i64 (i0 : Nat)) s.env, l := (B, .cells 154 (C ++ rep (l.length - i0) tZ)) :: D, M := M0 }) (l.length) ?_ ?_
  ·
    refine .of' _ _ ⟨0, B + 1, [], [], by omega, .nil, Nat.le_refl _, inR_nil, rfl, rfl⟩ ?_ ?_ ?_ <;> exact L_
  rintro r s' ⟨i0, M0, C, D, hir, hO, hM, hI, hk, rfl⟩
  try refine S_ ?_
  refine g_ [0,3,4,11] ?_
  refine c_ (fun hc0 => ?_) fun hc0 => ?_
  ·
    have hl0 : i0 < l.length := by omega
    have hCl : C.length = i0 * 7 := by rw [hO.len]; exact flat_take_len trn_len (by omega)
    have hfl := fill_len (z := tZ) (n := l.length) hCl rfl (by omega)
    have hg := sum_get tz l i0 hl0
    refine n_ ?_
    refine wpM_regionK [0,3,4] rfl fun Q1 hQ1 => ?_
    simp -implicitDefEqProofs (disch := omega) only [go_sem, hfl]
    refine call_own (ps := [.agg (l.getD i0 default).lcs]) (toTransT_ok (l.getD i0 default) (by omega)) Tryz.call106 rfl rfl rfl F_ (hI.push (Nat.le_refl _) hM) (by show B ≤ M0; omega) ?_
    intro cs T hO2 hI2 hk2
    obtain ⟨x, y, z, T3, rfl, rfl, hO3⟩ := own_trn hO2
    dsimp only at hI2 hk2
    simp -implicitDefEqProofs (disch := omega) only [go_sem, hfl]
    refine hQ1 _ _ (S_ ?_);clear hQ1 Q1
    refine g_ [0,3,4] ?_
    have hsp := splice_fill (z := tZ) (v := [.sl 3 x 0 (l.getD i0 default).fr.length, .sl 3 y 0 (l.getD i0 default).to'.length, .int .i64 (l.getD i0 default).w.kind, .int .i64 (l.getD i0 default).w.n, .int .i64 (l.getD i0 default).w.a.kind, .int .i64 (l.getD i0 default).w.a.at', .sl 77 z 0 (l.getD i0 default).w.kids.length]) hCl rfl rfl hl0
    have hI3 := hI.app hI2 hM (by omega)
    rw [hsp]
    refine .of' _ _ ⟨r - 1, by omega, i0 + 1, _, _, _, by omega, hO.snoc hl0 hO2, by omega, hI3, by rw [ksL_app, List.length_append, hk, hk2, sum_take Trn.nT l i0 hl0], rfl⟩ ?_ ?_ ?_
    · exact L_
    · exact subL_of (hI3.push (k := B) (Nat.le_refl _) (by omega)).nd (fun p hp => hp)
    · exact (hI3.push (k := B) (Nat.le_refl _) (by omega)).keep
  refine g_ [2] ?_
  refine wpM_ret ?_
  try refine S_ ?_
  obtain rfl : i0 = l.length := by omega
  rw [List.take_of_length_le (Nat.le_refl _)] at hO hk
  refine hQ _ _ (retOwnI (M := M0) (.inl rfl) ((B, .cells 154 (C ++ rep (l.length - l.length) tZ)) :: D) ?_ rfl rfl rfl (by rw [Tryz.results59] <;> simp (maxSteps := 1000000) -implicitDefEqProofs (disch := omega) only [go_sem] <;> rfl) ?_ (hI.push (k := B) (Nat.le_refl _) hM) (fun q hq => hq) (hI.push (k := B) (Nat.le_refl _) hM).nd)
  · refine ownsSl B l.length (by simp [rowsT]) (by rw [cellsOf154]; decide) (fun x hx => ?_) (by show Owns _ _ (l.map Trn.cs).flatten _; simpa [rep] using hO)
    obtain ⟨e, _, rfl⟩ := List.mem_map.1 hx
    rw [cellsOf154]; exact ⟨trn_len e, trn_pureL e⟩
  · rw [hns]; simp only [ksL, List.map_cons, List.length_cons] at hk ⊢; omega
theorem act_lit (a : GAct) : a.cs.all PV.lit = true := rfl
theorem actF_lit (l : List GAct) : ((l.map GAct.cs).flatten).all PV.lit = true := by
  induction l with
  | nil => rfl
  | cons a l ih => rw [List.map_cons, List.flatten_cons, List.all_append, act_lit, ih]; rfl
theorem own_acts (id : Nat) (l : List GAct) : Owns Tryz.prog [.sl 158 id 0 l.length] [.rows 158 (rowsA l)] [(id, .cells 158 ((l.map GAct.cs).flatten))] := by
  refine ownsSl id l.length (by simp [rowsA]) (by rw [cellsOf158]; decide) (fun x hx => ?_) (ownsL _ (actF_lit l))
  obtain ⟨e, _, rfl⟩ := List.mem_map.1 hx
  rw [cellsOf158]; exact ⟨rfl, rfl⟩
theorem own_actsI {l : List GAct} {cs : List PV} {T : List (Nat × AObj)} (h : Owns Tryz.prog cs [.rows 158 (rowsA l)] T) : ∃ id, cs = [.sl 158 id 0 l.length] ∧ T = [(id, .cells 158 ((l.map GAct.cs).flatten))] := by
  obtain ⟨id, c0, T0, cs', T', rfl, rfl, h0, h1, _, _⟩ := h.rows
  obtain ⟨rfl, rfl⟩ := h1.none
  obtain ⟨rfl, rfl⟩ := h0.litAll (actF_lit l)
  exact ⟨id, by simp [rowsA], rfl⟩
theorem toActST_ok (l : List GAct) (hl : l.length ≤ 1048576) : CallF Tryz.prog 60 [.rows 166 (rowsA l)] [] 1 (OwnR Tryz.prog id [.rows 158 (rowsA l)]) := by
  refine callF_of' Tryz.func60 rfl Tryz.ntmps60 (by simp) ?_
  intro f0 B ns Q hB hns hQ
  refine g_ [0] ?_
  refine g_ [0,3] ?_
  rw [← fillC_zero GAct.cs aZ l]
  refine g_ [0,3,4] ?_
  refine n_ ?_
  refine wpM_loopS (fun s n s' => ∃ (i0 M0 : Nat) , i0 + n = l.length ∧ s.M ≤ M0 ∧ (Tr i0) ∧ s' = { s with env := setE 4 (.int .i64 (i0 : Nat)) s.env, l := [(B, .cells 158 (fillC GAct.cs aZ l i0))], M := M0 }) (l.length) ?_ ?_
  ·
    refine .of' _ _ ⟨0, _, by omega, Nat.le_refl _, trivial, rfl⟩ ?_ ?_ ?_ <;> exact L_
  rintro n0 s' ⟨i0, M0, hi0, hM0, hv0, rfl⟩
  try dsimp only at hM0
  try refine S_ ?_
  refine g_ [0,3,4,11] ?_
  refine c_ (fun hc0 => ?_) fun hc0 => ?_
  ·
    have hl0 : i0 < l.length := by omega
    have hfl := fillC_len GAct.cs aZ (w := 4) (fun _ => rfl) rfl l i0 (by omega)
    have hfs := fillC_set GAct.cs aZ (w := 4) (fun _ => rfl) rfl l i0 hl0
    rw [GAct.cs_eq] at hfs
    refine n_ ?_
    refine wpM_regionK [0,3,4] rfl fun Q1 hQ1 => ?_
    simp -implicitDefEqProofs (disch := omega) only [go_sem, hfl, hfs]
    refine call_p (toAct_ok (l.getD i0 default)) Tryz.call107 rfl rfl rfl (by first | rfl | (simp -implicitDefEqProofs (disch := omega) only [go_sem] <;> rfl)) ?_
    simp -implicitDefEqProofs (disch := omega) only [go_sem, hfl, hfs]
    refine hQ1 _ _ (S_ ?_);clear hQ1 Q1
    refine g_ [0,3,4] ?_
    refine .of' _ _ ⟨n0 - 1, by omega, i0 + 1, _, by omega, M_, ?_, rfl⟩ L_ L_ L_
    first | trivial | omega
  refine n_ ?_
  have hie : i0 = l.length := by omega
  rw [hie, fillC_all]
  refine g_ [2] ?_
  refine wpM_ret ?_
  try refine S_ ?_
  exact hQ _ _ (retOwnI (M := B + 1) (.inl rfl) [(B, .cells 158 ((l.map GAct.cs).flatten))] (own_acts B l) rfl rfl rfl (by rw [Tryz.results60] <;> simp (maxSteps := 1000000) -implicitDefEqProofs (disch := omega) only [go_sem] <;> rfl) (by rw [hns]; rfl) (by simp [inR_cons, inR_nil]) (fun q hq => hq) (by simp [ksL]))
def Cht.nC (c : Cht) : Nat := 1 + (c.ts.map Trn.nT).sum + 1
theorem own_cht {c : Cht} {cs : List PV} {T : List (Nat × AObj)} (h : Owns Tryz.prog cs c.cs T) : ∃ x y T1, cs = [.int .i64 c.steps, .sl 154 x 0 c.ts.length, .sl 158 y 0 c.as'.length] ∧ T = T1 ++ [(y, .cells 158 ((c.as'.map GAct.cs).flatten))] ∧ Owns Tryz.prog [.sl 154 x 0 c.ts.length] [.rows 154 (rowsT c.ts)] T1 := by
  obtain ⟨c1, rfl, h1⟩ := Owns.lit (p := .int .i64 c.steps) (qs := [.rows 154 (rowsT c.ts), .rows 158 (rowsA c.as')]) h rfl
  obtain ⟨c3, c4, T3, T4, rfl, rfl, h3, h4⟩ := Owns.split (q1 := [.rows 154 (rowsT c.ts)]) (q2 := [.rows 158 (rowsA c.as')]) h1
  obtain ⟨y, rfl, rfl⟩ := own_actsI h4
  obtain ⟨id, c0, T0, cs', T', rfl, rfl, h5, h6, _, _⟩ := h3.rows
  obtain ⟨rfl, rfl⟩ := h6.none
  have e : (rowsT c.ts).length = c.ts.length := by simp [rowsT]
  rw [e] at h3
  exact ⟨id, y, _, by rw [e]; rfl, rfl, h3⟩
theorem toChartT_ok (c : Cht) (hc : cz c ≤ 1048576) : CallF Tryz.prog 20 [.agg c.lcs] [] c.nC (OwnR Tryz.prog wA c.cs) := by
  have e1 : cz c = c.ts.length + (c.ts.map tz).sum + c.as'.length := rfl
  unfold Cht.nC
  refine callF_of' Tryz.func20 rfl Tryz.ntmps20 (by simp) ?_
  intro f0 B ns Q hB hns hQ
  refine g_ [1,2] ?_
  refine g_ [1,2,3] ?_
  refine g_ [1,2,3] ?_
  refine n_ ?_
  refine wpM_regionK [1,2,3] rfl fun Q1 hQ1 => ?_
  refine S_ ?_
  refine call_own (ps := [.rows 152 (rowsLT c.ts)]) (toTransST_ok c.ts (by omega)) Tryz.call59 rfl rfl rfl F_ (by simp [inR_cons, inR_nil] <;> omega) (by show B ≤ B + 3; omega) ?_
  intro cs1 T1 hO1 hI1 hk1
  dsimp only at hI1 hk1
  obtain ⟨x, rfl⟩ : ∃ x, cs1 = [.sl 154 x 0 c.ts.length] := by
    obtain ⟨id, c0, T0, cs', T', rfl, rfl, h5, h6, _, _⟩ := hO1.rows
    obtain ⟨rfl, rfl⟩ := h6.none
    exact ⟨id, by simp [rowsT]⟩
  refine S_ ?_
  refine hQ1 _ _ (S_ ?_);clear hQ1 Q1
  refine n_ ?_
  refine wpM_regionK [2,3] rfl fun Q1 hQ1 => ?_
  refine S_ ?_
  refine call_own (ps := [.rows 166 (rowsA c.as')]) (toActST_ok c.as' (by omega)) Tryz.call60 rfl rfl rfl F_ (InR.app (l := [_, _, _]) (M := B + 3) (by simp [inR_cons, inR_nil] <;> omega) hI1 (by show B ≤ B + 3; omega) (by first | omega | (dsimp only; omega))) (by show B ≤ B + 3 + (1 + (c.ts.map Trn.nT).sum); omega) ?_
  intro cs2 T2 hO2 hI2 hk2
  dsimp only at hI2 hk2
  obtain ⟨y, rfl, rfl⟩ := own_actsI hO2
  have hI12 := hI1.app hI2 (by omega) (by omega)
  refine S_ ?_
  refine hQ1 _ _ (S_ ?_);clear hQ1 Q1
  refine g_ [2] ?_
  refine wpM_ret ?_
  try refine S_ ?_
  refine hQ _ _ (retOwnI (M := B + 3 + (1 + (c.ts.map Trn.nT).sum) + 1) (.inr rfl) (T1 ++ [(y, .cells 158 ((c.as'.map GAct.cs).flatten))]) (cs := [.int .i64 c.steps, .sl 154 x 0 c.ts.length, .sl 158 y 0 c.as'.length]) (.sc _ _ _ _ rfl (hO1.app hO2)) rfl rfl rfl (by rw [Tryz.results20] <;> simp (maxSteps := 1000000) -implicitDefEqProofs (disch := omega) only [go_sem] <;> rfl) ?_ ?_ ?_ hI12.nd)
  · rw [hns, ksL_app, List.length_append, hk1, hk2]
  · exact InR.app (l := [_, _, _]) (M := B + 3) (by simp [inR_cons, inR_nil] <;> omega) hI12 (by show B ≤ B + 3; omega) (by omega)
  · exact fun q hq => List.mem_cons_of_mem _ (List.mem_cons_of_mem _ (List.mem_cons_of_mem _ hq))
end Go.Proofs.YtnmfmeehmieifaaGreat
namespace Go.Proofs.YtnmfmeehmieifaaGreat
open Go Sg
set_option maxRecDepth 100000
set_option linter.unusedSimpArgs false
set_option linter.unusedVariables false
set_option linter.unusedSectionVars false
set_option maxHeartbeats 4000000
variable [Glob]
theorem sp0 {C r : List PV} {x y : PV} {m : Nat} (h : m = C.length + 0) : splice (C ++ x :: r) m [y] = C ++ y :: r := by
  exact splice_one (by omega)
theorem sp1 {C r : List PV} {q0 x y : PV} {m : Nat} (h : m = C.length + 1) : splice (C ++ q0 :: x :: r) m [y] = C ++ q0 :: y :: r := by
  have := splice_one (a := C ++ [q0]) (b := r) (x := x) (y := y) (i := m) (by simp [h])
  simpa using this
theorem sp2 {C r : List PV} {q0 q1 x y : PV} {m : Nat} (h : m = C.length + 2) : splice (C ++ q0 :: q1 :: x :: r) m [y] = C ++ q0 :: q1 :: y :: r := by
  have := splice_one (a := C ++ [q0, q1]) (b := r) (x := x) (y := y) (i := m) (by simp [h])
  simpa using this
theorem sp3 {C r : List PV} {q0 q1 q2 x y : PV} {m : Nat} (h : m = C.length + 3) : splice (C ++ q0 :: q1 :: q2 :: x :: r) m [y] = C ++ q0 :: q1 :: q2 :: y :: r := by
  have := splice_one (a := C ++ [q0, q1, q2]) (b := r) (x := x) (y := y) (i := m) (by simp [h])
  simpa using this
theorem sp4 {C r : List PV} {q0 q1 q2 q3 x y : PV} {m : Nat} (h : m = C.length + 4) : splice (C ++ q0 :: q1 :: q2 :: q3 :: x :: r) m [y] = C ++ q0 :: q1 :: q2 :: q3 :: y :: r := by
  have := splice_one (a := C ++ [q0, q1, q2, q3]) (b := r) (x := x) (y := y) (i := m) (by simp [h])
  simpa using this
theorem sp5 {C r : List PV} {q0 q1 q2 q3 q4 x y : PV} {m : Nat} (h : m = C.length + 5) : splice (C ++ q0 :: q1 :: q2 :: q3 :: q4 :: x :: r) m [y] = C ++ q0 :: q1 :: q2 :: q3 :: q4 :: y :: r := by
  have := splice_one (a := C ++ [q0, q1, q2, q3, q4]) (b := r) (x := x) (y := y) (i := m) (by simp [h])
  simpa using this
theorem ld0 {C r : List PV} {x : PV} {m : Nat} (h : m = C.length + 0) : (List.drop m (C ++ x :: r))[0]? = some x := by
  subst h; simp
theorem ld1 {C r : List PV} {q0 x : PV} {m : Nat} (h : m = C.length + 1) : (List.drop m (C ++ q0 :: x :: r))[0]? = some x := by
  subst h; simp
theorem ld4 {C r : List PV} {q0 q1 q2 q3 x : PV} {m : Nat} (h : m = C.length + 4) : (List.drop m (C ++ q0 :: q1 :: q2 :: q3 :: x :: r))[0]? = some x := by
  subst h; simp
theorem ld6 {C r : List PV} {q0 q1 q2 q3 q4 q5 x : PV} {m : Nat} (h : m = C.length + 6) : (List.drop m (C ++ q0 :: q1 :: q2 :: q3 :: q4 :: q5 :: x :: r))[0]? = some x := by
  subst h; simp
theorem in4 {C r : List PV} {q0 q1 q2 q3 : PV} {m : Nat} (h : m ≤ C.length + 4) : (m ≤ (C ++ q0 :: q1 :: q2 :: q3 :: r).length) = True := by
  simp; omega
theorem in5 {C r : List PV} {q0 q1 q2 q3 q4 : PV} {m : Nat} (h : m ≤ C.length + 5) : (m ≤ (C ++ q0 :: q1 :: q2 :: q3 :: q4 :: r).length) = True := by
  simp; omega
theorem in7 {C r : List PV} {q0 q1 q2 q3 q4 q5 q6 : PV} {m : Nat} (h : m ≤ C.length + 7) : (m ≤ (C ++ q0 :: q1 :: q2 :: q3 :: q4 :: q5 :: q6 :: r).length) = True := by
  simp; omega
mutual
def Ex.mk' (k : Int) : Ex → Ex | .mk _ _ _ l => .mk k (k + 1) ⟨k + 1 + 1, k + 1 + 1 + 1⟩ (Ex.mkL (k + 1 + 1 + 1 + 1) l)
def Ex.mkL (k : Int) : List Ex → List Ex | [] => [] | e :: l => Ex.mk' k e :: Ex.mkL (k + 4 * (e.sz : Nat)) l
end
theorem Ex.mk_eq (k : Int) (e : Ex) : Ex.mk' k e = .mk k (k + 1) ⟨k + 1 + 1, k + 1 + 1 + 1⟩ (Ex.mkL (k + 1 + 1 + 1 + 1) e.kids) := by cases e; simp only [Ex.mk', Ex.kids]
theorem Ex.mkL_len (l : List Ex) : ∀ k : Int, (Ex.mkL k l).length = l.length := by
  induction l with
  | nil => intro k; rfl
  | cons e l ih => intro k; simp [Ex.mkL, ih]
theorem Ex.szL_take (l : List Ex) (i : Nat) (h : i < l.length) : Ex.szL (l.take (i + 1)) = Ex.szL (l.take i) + (l.getD i default).sz := by
  induction l generalizing i with
  | nil => simp at h
  | cons e l ih =>
    cases i with
    | zero => simp [Ex.szL]
    | succ i =>
      have := ih i (by simpa using h)
      simp only [List.take_succ_cons, Ex.szL, List.getD_cons_succ] at this ⊢
      omega
theorem Ex.szL_le (l : List Ex) (i : Nat) : Ex.szL (l.take i) ≤ Ex.szL l := by
  induction l generalizing i with
  | nil => simp [Ex.szL]
  | cons e l ih =>
    cases i with
    | zero => simp [Ex.szL]
    | succ i => simp only [List.take_succ_cons, Ex.szL]; have := ih i; omega
theorem Ex.mkL_take (l : List Ex) (i : Nat) (h : i < l.length) : ∀ k : Int, Ex.mkL k (l.take (i + 1)) = Ex.mkL k (l.take i) ++ [Ex.mk' (k + 4 * (Ex.szL (l.take i) : Nat)) (l.getD i default)] := by
  induction l generalizing i with
  | nil => simp at h
  | cons e l ih =>
    intro k
    cases i with
    | zero => simp [Ex.mkL, Ex.szL]
    | succ i =>
      have := ih i (by simpa using h) (k + 4 * (e.sz : Nat))
      simp only [List.take_succ_cons, Ex.mkL, List.getD_cons_succ, List.cons_append, Ex.szL] at this ⊢
      rw [this]
      congr 4
      push_cast; omega
theorem own_ex2 {e : Ex} {cs : List PV} {T : List (Nat × AObj)} (h : Owns Tryz.prog cs e.cs T) : ∃ id, cs = [.int .i64 e.kind, .int .i64 e.n, .int .i64 e.a.kind, .int .i64 e.a.at', .sl 77 id 0 e.kids.length] ∧ Owns Tryz.prog [.sl 77 id 0 e.kids.length] [.rows 77 (Ex.csL e.kids)] T := by
  rw [Ex.cs_eq] at h
  obtain ⟨c1, rfl, h1⟩ := h.lit rfl
  obtain ⟨c2, rfl, h2⟩ := h1.lit rfl
  obtain ⟨c3, rfl, h3⟩ := h2.lit rfl
  obtain ⟨c4, rfl, h4⟩ := h3.lit rfl
  obtain ⟨id, c0, T0, rfl, rfl, h0⟩ := own_exL h4
  exact ⟨id, rfl, h4⟩
def MkX (l : List Ex) : Prop := ∀ (x : Nat) (T : List (Nat × AObj)) (k : Int), Owns Tryz.prog [.sl 77 x 0 l.length] [.rows 77 (Ex.csL l)] T → (ksL T).Nodup → 0 ≤ k → k + 4 * (Ex.szL l : Nat) ≤ 1000000000000 → CallF Tryz.prog 46 [.sl 77 x 0 l.length, .int .i64 k] T 0 (SetR Tryz.prog [.sl 77 x 0 l.length] (k + 4 * (Ex.szL l : Nat)) [.rows 77 (Ex.csL (Ex.mkL k l))] T)
theorem markExprS_ok : ∀ (N : Nat) (l : List Ex), Ex.szL l ≤ N → Ex.szL l ≤ 1048576 → MkX l := by
  intro N
  induction N using Nat.strongRecOn with
  | _ N ih =>
    intro l hN hs x T k hO hnd hk0 hk1
    have hll := Ex.len_szL l
    obtain ⟨x', c0, T0, hx, rfl, h0⟩ := own_exL hO
    obtain rfl : x = x' := by injection hx with hx _; injection hx
    rw [Ex.csL_map] at h0
    have hnd0 : x ∉ ksL T0 ∧ (ksL T0).Nodup := by simpa [ksL] using hnd
    refine callF_of' Tryz.func46 rfl Tryz.ntmps46 (by simp) ?_
    intro f0 B ns Q hB hns hQ
    obtain rfl : ns = [] := List.eq_nil_of_length_eq_zero hns
    have hkB : ∀ j, j ∈ x :: ksL T0 → j < B := fun j hj => hB j (by rw [hasKey]; exact lk_some_of (by simpa [ksL] using hj))
    refine g_ [0,1] ?_
    refine g_ [0,1,5] ?_
    refine n_ ?_
    refine wpM_loopS (fun s r s' => ∃ (i0 : Nat) (C c1 : List PV) (D T1 : List (Nat × AObj)), i0 + r = l.length ∧ Owns Tryz.prog C ((Ex.mkL k (l.take i0)).map Ex.cs).flatten D ∧ Owns Tryz.prog c1 ((l.drop i0).map Ex.cs).flatten T1 ∧ ksL D ++ ksL T1 = ksL T0 ∧ s' = { s with env := setE 5 (.int .i64 (i0 : Nat)) (setE 1 (.int .i64 (k + 4 * (Ex.szL (l.take i0) : Nat))) s.env), l := (x, .cells 77 (C ++ c1)) :: (D ++ T1) }) (l.length) ?_ ?_
    ·
      refine .of' _ _ ⟨0, [], c0, [], T0, by omega, .nil, h0, rfl, rfl⟩ ?_ ?_ ?_
      · simp [Ex.szL]; exact L_
      · exact subL_of hnd (fun p hp => hp)
      · exact keepB_of (fun p hp => .inr (.inr (ksL_mem hp)))
    rintro r s' ⟨i0, C, c1, D, T1, hir, hC, hD, hks, rfl⟩
    try refine S_ ?_
    refine g_ [0,1,5,9] ?_
    refine c_ (fun hc0 => ?_) fun hc0 => ?_
    ·
      have hl0 : i0 < l.length := by omega
      have hCl : C.length = i0 * 5 := by
        have := flat_len Ex.cs cs_len (Ex.mkL k (l.take i0))
        rw [hC.len, this, Ex.mkL_len, List.length_take]; omega
      obtain ⟨ce, c2, Te, T2, rfl, rfl, hE, hD2⟩ := hD.elem hl0
      obtain ⟨id, rfl, hE2⟩ := own_ex2 hE
      have hd2 : c2.length = (l.length - (i0 + 1)) * 5 := by
        have := flat_len Ex.cs cs_len (l.drop (i0 + 1))
        rw [hD2.len, this, List.length_drop]
      have hst := Ex.szL_take l i0 hl0
      have hsl := Ex.szL_le l (i0 + 1)
      have hsz := Ex.sz_eq (l.getD i0 default)
      obtain ⟨K, hK⟩ : ∃ K : Int, K = k + 4 * (Ex.szL (l.take i0) : Nat) := ⟨_, rfl⟩
      rw [← hK]
      refine n_ ?_
      refine wpM_regionK [0,1,5] rfl fun Q1 hQ1 => ?_
      simp -implicitDefEqProofs (disch := omega) only [go_sem, sp0, sp1, sp2, sp3, ld4, in5]
      refine hQ1 _ _ (S_ ?_);clear hQ1 Q1
      refine g_ [0,1,5] ?_
      refine n_ ?_
      refine wpM_regionK [0,1,5] rfl fun Q1 hQ1 => ?_
      simp -implicitDefEqProofs (disch := omega) only [go_sem, sp0, sp1, sp2, sp3, ld4, in5]
      refine hQ1 _ _ (S_ ?_);clear hQ1 Q1
      refine g_ [0,1,5] ?_
      refine n_ ?_
      refine wpM_regionK [0,1,5] rfl fun Q1 hQ1 => ?_
      simp -implicitDefEqProofs (disch := omega) only [go_sem, sp0, sp1, sp2, sp3, ld4, in5]
      refine hQ1 _ _ (S_ ?_);clear hQ1 Q1
      refine g_ [0,1,5] ?_
      refine n_ ?_
      refine wpM_regionK [0,1,5] rfl fun Q1 hQ1 => ?_
      simp -implicitDefEqProofs (disch := omega) only [go_sem, sp0, sp1, sp2, sp3, ld4, in5]
      refine hQ1 _ _ (S_ ?_);clear hQ1 Q1
      refine g_ [0,1,5] ?_
      refine wpM_regionK [0,1,5] rfl fun Q1 hQ1 => ?_
      simp -implicitDefEqProofs (disch := omega) only [go_sem, sp0, sp1, sp2, sp3, ld4, in5]
      have hks2 : ksL D ++ (ksL Te ++ ksL T2) = ksL T0 := by rw [← ksL_app]; exact hks
      have hnd2 : (x :: (ksL D ++ (ksL Te ++ ksL T2))).Nodup := by rw [hks2]; exact List.nodup_cons.2 hnd0
      have hndE : (ksL Te).Nodup := (hnd2.sublist (by
        refine List.Sublist.cons _ ((List.sublist_append_left _ _).trans (List.sublist_append_right _ _)))).sublist (List.Sublist.refl _)
      refine call_set (ps := [.sl 77 id 0 (l.getD i0 default).kids.length, .int .i64 (K + 1 + 1 + 1 + 1)]) ((x, _) :: D) T2 (ih (Ex.szL (l.getD i0 default).kids) (by omega) _ (Nat.le_refl _) (by omega) id Te (K + 1 + 1 + 1 + 1) hE2 hndE (by omega) (by omega)) Tryz.call46 rfl rfl rfl F_ rfl (by simpa [ksL] using hnd2) ?_
      intro T' hO' hksT
      simp -implicitDefEqProofs (disch := omega) only [go_sem, sp0, sp1, sp2, sp3, ld4, in5]
      refine hQ1 _ _ (S_ ?_);clear hQ1 Q1
      refine g_ [0,1,5] ?_
      have hcat : K + 1 + 1 + 1 + 1 + 4 * (Ex.szL (l.getD i0 default).kids : Nat) = k + 4 * (Ex.szL (l.take (i0 + 1)) : Nat) := by omega
      have hE3 : Owns Tryz.prog [.int .i64 K, .int .i64 (K + 1), .int .i64 (K + 1 + 1), .int .i64 (K + 1 + 1 + 1), .sl 77 id 0 (l.getD i0 default).kids.length] (Ex.mk' K (l.getD i0 default)).cs T' := by
        rw [Ex.mk_eq, Ex.cs_eq]
        exact .sc _ _ _ _ rfl (.sc _ _ _ _ rfl (.sc _ _ _ _ rfl (.sc _ _ _ _ rfl hO')))
      have hC3 := hC.snocL hE3
      rw [hK, ← Ex.mkL_take l i0 hl0 k] at hC3
      rw [← hK] at hC3
      have hks3 : ksL (D ++ T') ++ ksL T2 = ksL T0 := by rw [ksL_app, hksT, List.append_assoc]; exact hks2
      have hndl : ∀ (o : AObj) (c : List PV), (ksL ((x, o) :: (D ++ (T' ++ T2)))).Nodup := by
        intro o c
        simp only [ksL, List.map_cons, List.map_append] at hnd2 hksT ⊢
        rw [hksT]; exact hnd2
      rw [hcat]
      refine .of' _ _ ⟨r - 1, by omega, i0 + 1, _, c2, D ++ T', T2, by omega, hC3, hD2, hks3, rfl⟩ ?_ ?_ ?_
      · exact L_
      · refine subL_of (hndl _ c2) (fun p hp => ?_)
        simpa using hp
      · refine keepB_of (fun p hp => .inr (.inr (ksL_mem ?_)))
        simpa using hp
    refine g_ [4] ?_
    refine wpM_ret ?_
    try refine S_ ?_
    obtain rfl : i0 = l.length := by omega
    rw [List.drop_length] at hD
    obtain ⟨rfl, rfl⟩ := Owns.none hD
    rw [List.take_of_length_le (Nat.le_refl _)] at hC ⊢
    rw [← Ex.csL_map] at hC
    have hks' : ksL D = ksL T0 := by simpa [ksL] using hks
    have hnd' : (ksL ((x, AObj.cells 77 (C ++ [])) :: (D ++ []))).Nodup := by
      rw [List.append_nil D]
      show (x :: ksL D).Nodup
      rw [hks']; exact List.nodup_cons.2 hnd0
    refine hQ _ _ (retSet (T' := (x, .cells 77 (C ++ [])) :: (D ++ [])) rfl ?_ ?_ rfl rfl rfl (by rw [Tryz.results46] <;> simp (maxSteps := 1000000) -implicitDefEqProofs (disch := omega) only [go_sem] <;> rfl) (fun q hq => by simp only [MS.f, lk_nd hnd' hq]) (keysIn_of fun p hp => .inr ?_))
    · refine ownsSl x l.length (by rw [Ex.csL_len, Ex.mkL_len]) (by rw [cellsOf77]; decide) (fun y hy => ?_) (by simpa using hC)
      rw [Ex.csL_map, List.mem_map] at hy
      obtain ⟨e, _, rfl⟩ := hy
      rw [cellsOf77]; exact ⟨cs_len e, cs_pureL e⟩
    · show x :: ksL (D ++ []) = x :: ksL T0; rw [List.append_nil D, hks']
    · have := ksL_mem hp
      rw [List.append_nil D] at this
      change p.1 ∈ x :: ksL D at this
      rw [hks'] at this; exact this
end Go.Proofs.YtnmfmeehmieifaaGreat
namespace Go.Proofs.YtnmfmeehmieifaaGreat
open Go Sg
set_option maxRecDepth 100000
set_option linter.unusedSimpArgs false
set_option linter.unusedVariables false
set_option linter.unusedSectionVars false
set_option maxHeartbeats 4000000
variable [Glob]
section
variable {α : Type} [Inhabited α] (mk : Int → α → α) (sz : α → Nat)
def mkG (k : Int) : List α → List α | [] => [] | x :: l => mk k x :: mkG (k + (sz x : Nat)) l
@[go_sem] theorem mkG_nil (k : Int) : mkG mk sz k [] = [] := rfl
theorem mkG_len (l : List α) : ∀ k : Int, (mkG mk sz k l).length = l.length := by
  induction l with
  | nil => intro k; rfl
  | cons e l ih => intro k; simp [mkG, ih]
theorem mkG_take (l : List α) (i : Nat) (h : i < l.length) : ∀ k : Int, mkG mk sz k (l.take (i + 1)) = mkG mk sz k (l.take i) ++ [mk (k + (((l.take i).map sz).sum : Nat)) (l.getD i default)] := by
  induction l generalizing i with
  | nil => simp at h
  | cons e l ih =>
    intro k
    cases i with
    | zero => simp [mkG]
    | succ i =>
      have := ih i (by simpa using h) (k + (sz e : Nat))
      simp only [List.take_succ_cons, mkG, List.getD_cons_succ, List.cons_append, List.map_cons, List.sum_cons] at this ⊢
      rw [this]
      congr 4
      push_cast; omega
end
attribute [go_sem] List.map_nil List.flatten_nil
theorem drop_flat {α : Type} [Inhabited α] {l : List α} {F : α → List PV} {i : Nat} (h : i < l.length) : ((l.drop i).map F).flatten = F (l.getD i default) ++ ((l.drop (i + 1)).map F).flatten := by
  rw [List.drop_eq_getElem_cons h, List.map_cons, List.flatten_cons]
  simp [List.getD, h]
theorem markBoolS_ok (id : Nat) (l : List Bool) (hl : l.length ≤ 1048576) (k : Int) (h0 : 0 ≤ k) (h1 : k ≤ 1099511627776) : CallF Tryz.prog 71 [.sl 4 id 0 l.length, .int .i64 k] [(id, .cells 4 (bls l))] 0 (SetR Tryz.prog [.sl 4 id 0 l.length] (k + l.length) [.rows 4 (rowsB (mkB k l.length))] [(id, .cells 4 (bls l))]) := by
  refine callF_of' Tryz.func71 rfl Tryz.ntmps71 (by simp) ?_
  intro f0 B ns Q hB hns hQ
  obtain rfl : ns = [] := List.eq_nil_of_length_eq_zero hns
  have hid : id < B := hB id (by simp [hasKey, lk])
  refine g_ [0,1] ?_
  refine g_ [0,1,5] ?_
  refine n_ ?_
  refine wpM_loopS (fun s n s' => ∃ (i0 M0 : Nat) (K : Int), i0 + n = l.length ∧ s.M ≤ M0 ∧ (K = k + (i0 : Nat)) ∧ s' = { s with env := setE 5 (.int .i64 (i0 : Nat)) (setE 1 (.int .i64 K) s.env), l := [(id, .cells 4 (bls (mkB k i0 ++ l.drop i0)))], M := M0 }) (l.length) ?_ ?_
  ·
    refine .of' _ _ ⟨0, _, k, by omega, Nat.le_refl _, by simp, rfl⟩ ?_ ?_ ?_ <;> exact L_
  rintro n0 s' ⟨i0, M0, K, hi0, hM0, hv0, rfl⟩
  try dsimp only at hM0
  try refine S_ ?_
  refine g_ [0,1,5,9] ?_
  refine c_ (fun hc0 => ?_) fun hc0 => ?_
  ·
    have hl0 : i0 < l.length := by omega
    have hfl : (bls (mkB k i0 ++ l.drop i0)).length = l.length := by simp [bls, mkB_len]; omega
    have hfs := mkB_set k l i0 hl0
    rw [← hv0] at hfs
    refine n_ ?_
    refine wpM_regionK [0,1,5] rfl fun Q1 hQ1 => ?_
    simp -implicitDefEqProofs (disch := omega) only [go_sem, hfl, hfs]
    refine hQ1 _ _ (S_ ?_);clear hQ1 Q1
    refine g_ [0,1,5] ?_
    refine g_ [0,1,5] ?_
    refine .of' _ _ ⟨n0 - 1, by omega, i0 + 1, _, K + 1, by omega, M_, ?_, rfl⟩ L_ L_ L_
    first | trivial | omega
  refine n_ ?_
  have hie : i0 = l.length := by omega
  rw [hie, List.drop_length, List.append_nil]
  refine g_ [4] ?_
  refine wpM_ret ?_
  try refine S_ ?_
  have hK : K = k + (l.length : Int) := by rw [hv0, hie]
  subst hK
  have hO := own_bools id (mkB k l.length)
  rw [mkB_len] at hO
  exact hQ _ _ (retSet rfl hO rfl rfl rfl rfl (by rw [Tryz.results71] <;> simp (maxSteps := 1000000) -implicitDefEqProofs (disch := omega) only [go_sem] <;> rfl) (fun q hq => by simp at hq; subst hq; simp -implicitDefEqProofs (disch := omega) only [go_sem]) (by simp -implicitDefEqProofs (disch := omega) only [go_sem, true_or, or_true]))
theorem mkB_get (k : Int) (n i : Nat) (h : i < n) : (mkB k n).getD i false = (Int.tmod (k + (i : Nat)) 3 == 0) := by simp [mkB, List.getD, h]
theorem heldBoolS_ok (w : Nat) (hn : w ≤ 1048576) (k : Int) (h0 : 0 ≤ k) (h1 : k ≤ 1099511627776) : PureF Tryz.prog 77 [.rows 4 (rowsB (mkB k w)), .int .i64 k] [.int .i64 (k + w)] := by
  have hll := mkB_len k w
  refine pureF_of Tryz.func77 rfl Tryz.ntmps77 (by simp) T_ ?_
  intro f0 B Q hQ
  refine g_ [0,1] ?_
  refine g_ [0,1,5] ?_
  refine n_ ?_
  refine wpM_loopS (fun s n s' => ∃ (i0 M0 : Nat) (K : Int), i0 + n = w ∧ s.M ≤ M0 ∧ (K = k + (i0 : Nat)) ∧ s' = { s with env := setE 5 (.int .i64 (i0 : Nat)) (setE 1 (.int .i64 K) s.env), M := M0 }) (w) ?_ ?_
  ·
    refine .of' _ _ ⟨0, _, k, by omega, Nat.le_refl _, by simp, rfl⟩ ?_ ?_ ?_ <;> exact L_
  rintro n0 s' ⟨i0, M0, K, hi0, hM0, hv0, rfl⟩
  try dsimp only at hM0
  try refine S_ ?_
  refine g_ [0,1,5,9] ?_
  refine c_ (fun hc0 => ?_) fun hc0 => ?_
  ·
    have hl0 : i0 < w := by omega
    have hg := mkB_get k w i0 hl0
    refine g_ [0,1,5,19] ?_
    refine c_ (fun hc1 => ?_) fun hc1 => ?_
    · exfalso; rw [hg, hv0] at hc1; simp at hc1
    refine g_ [0,1,5] ?_
    refine g_ [0,1,5] ?_
    refine .of' _ _ ⟨n0 - 1, by omega, i0 + 1, _, K + 1, by omega, M_, ?_, rfl⟩ L_ L_ L_
    first | trivial | omega
  refine g_ [4] ?_
  refine e_ Tryz.results77 ?_
  first
  | exact True.intro
  | rw [hv0]; simp; omega
theorem own_boolsX {x n : Nat} {l : List Bool} {T : List (Nat × AObj)} (h : Owns Tryz.prog [.sl 4 x 0 n] [.rows 4 (rowsB l)] T) : T = [(x, .cells 4 (bls l))] := by
  obtain ⟨id, h1, rfl⟩ := own_boolsI h
  injection h1 with h1 _
  injection h1 with _ h1 _ _
  rw [h1]
def mkP (k : Int) (p : Mrk) : Mrk := ⟨mkB k p.on.length, mkB (k + p.on.length) p.kept.length⟩
theorem mkP_oc (k : Int) (m : Mrk) (x y : Nat) : (mkP k m).oc x y = m.oc x y := by simp [Mrk.oc, mkP, mkB_len]
theorem markMarks_ok (m : Mrk) (hm : pz m ≤ 1048576) (x y : Nat) (h1 : x ≠ y) (k : Int) (hk0 : 0 ≤ k) (hk1 : k ≤ 1000000000) : CallF Tryz.prog 29 [.agg (m.oc x y), .int .i64 k] (m.ol x y) 0 (SetR Tryz.prog (m.oc x y) (k + pz m) (mkP k m).cs (m.ol x y)) := by
  unfold pz at hm
  have hmz : (k + pz m : Int) = k + m.on.length + m.kept.length := by unfold pz; omega
  refine callF_of' Tryz.func29 rfl Tryz.ntmps29 (by simp) ?_
  intro f0 B ns Q hB hns hQ
  obtain rfl : ns = [] := List.eq_nil_of_length_eq_zero hns
  have hx : x < B := hB x (by simp [hasKey, lk, Mrk.ol])
  have hy : y < B := hB y (by simp [hasKey, lk, Mrk.ol, h1])
  unfold Mrk.oc Mrk.ol
  refine g_ [1,2] ?_
  refine n_ ?_
  refine wpM_regionK [1,2] rfl fun Q1 hQ1 => ?_
  refine S_ ?_
  refine call_set (ps := [.sl 4 x 0 m.on.length, .int .i64 k]) [(B, _)] [(y, _)] (markBoolS_ok x m.on (by omega) k hk0 (by omega)) Tryz.call71 rfl rfl rfl F_ rfl (by simp [ksL]; omega) ?_
  intro T' hO hks
  obtain rfl := own_boolsX hO
  refine S_ ?_
  refine hQ1 _ _ (S_ ?_);clear hQ1 Q1
  refine n_ ?_
  refine wpM_regionK [1] rfl fun Q1 hQ1 => ?_
  refine S_ ?_
  refine call_set (ps := [.sl 4 y 0 m.kept.length, .int .i64 (k + m.on.length)]) [(B, _), (x, _)] [] (markBoolS_ok y m.kept (by omega) (k + m.on.length) (by omega) (by omega)) Tryz.call71 rfl rfl rfl F_ rfl (by simp [ksL]; omega) ?_
  intro T' hO hks
  obtain rfl := own_boolsX hO
  refine S_ ?_
  refine hQ1 _ _ (S_ ?_);clear hQ1 Q1
  refine g_ [4] ?_
  refine wpM_ret ?_
  try refine S_ ?_
  have hO := own_mrk (mkP k m) x y
  rw [mkP_oc] at hO
  refine hQ _ _ (retSet rfl hO rfl rfl rfl rfl (by rw [hmz]; exact (by rw [Tryz.results29] <;> simp (maxSteps := 1000000) -implicitDefEqProofs (disch := omega) only [go_sem] <;> rfl)) (fun q hq => ?_) (by simp -implicitDefEqProofs (disch := omega) only [go_sem, true_or, or_true]))
  simp [Mrk.ol, mkP] at hq
  rcases hq with rfl | rfl <;> simp -implicitDefEqProofs (disch := omega) only [go_sem, h1]
theorem heldMarks_ok (k : Int) (m : Mrk) (hm : pz m ≤ 1048576) (hk0 : 0 ≤ k) (hk1 : k ≤ 1000000000) : PureF Tryz.prog 35 [.agg (mkP k m).cs, .int .i64 k] [.int .i64 (k + pz m)] := by
  unfold pz at hm
  have hmz : (k + pz m : Int) = k + m.on.length + m.kept.length := by unfold pz; omega
  unfold mkP
  refine pureF_of Tryz.func35 rfl Tryz.ntmps35 (by simp) T_ ?_
  intro f0 B Q hQ
  refine g_ [1,2] ?_
  refine n_ ?_
  refine wpM_regionK [1,2] rfl fun Q1 hQ1 => ?_
  refine S_ ?_
  refine cp_ (heldBoolS_ok m.on.length (by omega) k hk0 (by omega)) Tryz.call77 ?_
  refine hQ1 _ _ (S_ ?_);clear hQ1 Q1
  refine g_ [1,2,10] ?_
  refine c_ (fun hc0 => ?_) fun hc0 => ?_
  · exfalso; omega
  refine n_ ?_
  refine wpM_regionK [1] rfl fun Q1 hQ1 => ?_
  refine S_ ?_
  refine cp_ (heldBoolS_ok m.kept.length (by omega) (k + m.on.length) (by omega) (by omega)) Tryz.call77 ?_
  refine hQ1 _ _ (S_ ?_);clear hQ1 Q1
  refine g_ [1,16] ?_
  refine c_ (fun hc1 => ?_) fun hc1 => ?_
  · exfalso; omega
  refine g_ [4] ?_
  refine e_ Tryz.results35 ?_
  first
  | exact True.intro
  | rw [hmz]
def mkA (k : Int) (_ : GAct) : GAct := ⟨k, k + 1, ⟨k + 1 + 1, k + 1 + 1 + 1⟩⟩
theorem markActS_ok (id : Nat) (l : List GAct) (hl : l.length ≤ 1048576) (k : Int) (h0 : 0 ≤ k) (h1 : k ≤ 1099511627776) : CallF Tryz.prog 70 [.sl 158 id 0 l.length, .int .i64 k] [(id, .cells 158 ((l.map GAct.cs).flatten))] 0 (SetR Tryz.prog [.sl 158 id 0 l.length] (k + 4 * (l.length : Nat)) [.rows 158 (rowsA (mkG mkA (fun _ => 4) k l))] [(id, .cells 158 ((l.map GAct.cs).flatten))]) := by
  refine callF_of' Tryz.func70 rfl Tryz.ntmps70 (by simp) ?_
  intro f0 B ns Q hB hns hQ
  obtain rfl : ns = [] := List.eq_nil_of_length_eq_zero hns
  have hid : id < B := hB id (by simp [hasKey, lk])
  refine g_ [0,1] ?_
  refine g_ [0,1,5] ?_
  refine n_ ?_
  refine wpM_loopS (fun s n s' => ∃ (i0 M0 : Nat) (K : Int), i0 + n = l.length ∧ s.M ≤ M0 ∧ (K = k + 4 * (i0 : Nat)) ∧ s' = { s with env := setE 5 (.int .i64 (i0 : Nat)) (setE 1 (.int .i64 K) s.env), l := [(id, .cells 158 (((mkG mkA (fun _ => 4) k (l.take i0)).map GAct.cs).flatten ++ ((l.drop i0).map GAct.cs).flatten))], M := M0 }) (l.length) ?_ ?_
  ·
    refine .of' _ _ ⟨0, _, k, by omega, Nat.le_refl _, by simp, rfl⟩ ?_ ?_ ?_ <;> exact L_
  rintro n0 s' ⟨i0, M0, K, hi0, hM0, hv0, rfl⟩
  try dsimp only at hM0
  try refine S_ ?_
  refine g_ [0,1,5,9] ?_
  refine c_ (fun hc0 => ?_) fun hc0 => ?_
  ·
    have hl0 : i0 < l.length := by omega
    have hC := flat_len GAct.cs (w := 4) (fun _ => rfl) (mkG mkA (fun _ => 4) k (l.take i0))
    rw [mkG_len, List.length_take, Nat.min_eq_left (by omega)] at hC
    have hst : ((mkG mkA (fun _ => 4) k (l.take (i0 + 1))).map GAct.cs).flatten = ((mkG mkA (fun _ => 4) k (l.take i0)).map GAct.cs).flatten ++ [.int .i64 K, .int .i64 (K + 1), .int .i64 (K + 1 + 1), .int .i64 (K + 1 + 1 + 1)] := by
      have h9 : (((l.take i0).map (fun _ => 4)).sum : Nat) = 4 * i0 := by
        have : ∀ l : List GAct, (l.map (fun _ => 4)).sum = 4 * l.length := by
          intro l
          induction l with
          | nil => rfl
          | cons a l ih => simp [ih]; omega
        rw [this, List.length_take, Nat.min_eq_left (by omega)]
      rw [mkG_take _ _ _ _ hl0, List.map_append, List.flatten_append, h9]
      simp [mkA, GAct.cs]
      omega
    rw [drop_flat hl0, GAct.cs_eq]
    simp only [List.cons_append, List.nil_append]
    generalize ((mkG mkA (fun _ => 4) k (l.take i0)).map GAct.cs).flatten = C at *
    refine n_ ?_
    refine wpM_regionK [0,1,5] rfl fun Q1 hQ1 => ?_
    simp -implicitDefEqProofs (disch := omega) only [go_sem, sp0, sp1, sp2, sp3, in4]
    refine hQ1 _ _ (S_ ?_);clear hQ1 Q1
    refine g_ [0,1,5] ?_
    refine n_ ?_
    refine wpM_regionK [0,1,5] rfl fun Q1 hQ1 => ?_
    simp -implicitDefEqProofs (disch := omega) only [go_sem, sp0, sp1, sp2, sp3, in4]
    refine hQ1 _ _ (S_ ?_);clear hQ1 Q1
    refine g_ [0,1,5] ?_
    refine n_ ?_
    refine wpM_regionK [0,1,5] rfl fun Q1 hQ1 => ?_
    simp -implicitDefEqProofs (disch := omega) only [go_sem, sp0, sp1, sp2, sp3, in4]
    refine hQ1 _ _ (S_ ?_);clear hQ1 Q1
    refine g_ [0,1,5] ?_
    refine n_ ?_
    refine wpM_regionK [0,1,5] rfl fun Q1 hQ1 => ?_
    simp -implicitDefEqProofs (disch := omega) only [go_sem, sp0, sp1, sp2, sp3, in4]
    refine hQ1 _ _ (S_ ?_);clear hQ1 Q1
    refine g_ [0,1,5] ?_
    refine g_ [0,1,5] ?_
    have hst' : ∀ R : List PV, C ++ PV.int .i64 K :: .int .i64 (K + 1) :: .int .i64 (K + 1 + 1) :: .int .i64 (K + 1 + 1 + 1) :: R = ((mkG mkA (fun _ => 4) k (l.take (i0 + 1))).map GAct.cs).flatten ++ R := by
      intro R; rw [hst]; simp
    rw [hst']
    refine .of' _ _ ⟨n0 - 1, by omega, i0 + 1, _, K + 1 + 1 + 1 + 1, by omega, M_, ?_, rfl⟩ L_ L_ L_
    push_cast; omega
  refine n_ ?_
  have hie : i0 = l.length := by omega
  rw [hie, List.drop_length, List.map_nil, List.flatten_nil, List.append_nil, List.take_of_length_le (Nat.le_refl _)]
  refine g_ [4] ?_
  refine wpM_ret ?_
  try refine S_ ?_
  have hK : K = k + 4 * (l.length : Nat) := by rw [hv0, hie]
  subst hK
  have hO := own_acts id (mkG mkA (fun _ => 4) k l)
  rw [mkG_len] at hO
  exact hQ _ _ (retSet rfl hO rfl rfl rfl rfl (by rw [Tryz.results70] <;> simp (maxSteps := 1000000) -implicitDefEqProofs (disch := omega) only [go_sem] <;> rfl) (fun q hq => by simp at hq; subst hq; simp only [MS.f, lk, if_true]) (by simp -implicitDefEqProofs (disch := omega) only [go_sem, true_or, or_true]))
end Go.Proofs.YtnmfmeehmieifaaGreat
namespace Go.Proofs.YtnmfmeehmieifaaGreat
open Go Sg
set_option maxRecDepth 100000
set_option linter.unusedSimpArgs false
set_option linter.unusedVariables false
set_option linter.unusedSectionVars false
set_option maxHeartbeats 4000000
variable [Glob]
@[go_sem] theorem Mrk.oc_eq (k : Mrk) (x y : Nat) : k.oc x y = [.sl 4 x 0 k.on.length, .sl 4 y 0 k.kept.length] := rfl
theorem marksT_ok (id : Nat) (on bg : BitVec 64) (kp : List Bool) (n : Nat) (hk : kp.length = 6) (hn : 0 < n) (hn6 : n ≤ 6) : CallF Tryz.prog 128 [.ptr id 0, .int .i64 (n : Int)] (tobj id on bg kp) 2 (fun ns o => ∃ x y, ns = [x, y] ∧ o = { rs := [.agg ((⟨hasL on n, kp⟩ : Mrk).oc x y)], nw := (⟨hasL on n, kp⟩ : Mrk).ol x y }) := by
  refine callF_of' Tryz.func128 rfl Tryz.ntmps128 (by simp) ?_
  intro f0 B ns Q hB hns hQ
  have hid : id < B := hB id (by simp [hasKey, lk, tobj])
  obtain ⟨nx, ny, rfl⟩ : ∃ x y, ns = [x, y] := by
    match ns, hns with
    | [x, y], _ => exact ⟨x, y, rfl⟩
  refine g_ [0,1,4] ?_
  refine n_ ?_
  refine wpM_regionK [0,1,4,5] rfl fun Q1 hQ1 => ?_
  refine S_ ?_
  refine call_fn (l := tobj id on bg kp) (first := []) (cap := []) (ps := [.sl 4 id 2 6]) (cloneB_ok id 2 106 (tcs on bg kp) kp (by simp [tcs, hk, bls]) (by rw [tcs_eq]; exact bls_take6 kp hk)) Tryz.call157 rfl rfl rfl T_ T_ ?_
  rintro out ⟨x', hns', rfl⟩
  injection hns' with hn1 hns'
  subst hn1
  refine S_ ?_
  refine hQ1 _ _ (S_ ?_);clear hQ1 Q1
  refine g_ [0,4,5,13,14] ?_
  refine n_ ?_
  refine wpM_loopS (fun s r s' => (r = n ∧ s' = s) ∨ ∃ (i0 M0 y : Nat), 0 < i0 ∧ i0 + r = n ∧ s.M ≤ y ∧ y < M0 ∧ s' = { s with env := setE 14 (.int .i64 (i0 : Nat)) s.env, l := (y, .cells 4 (bls (hasL on i0))) :: setl (B + 2) (.cells 50 [.sl 4 y 0 i0, .sl 4 (B + 1) 0 6]) s.l, M := M0 }) (n) ?_ ?_
  ·
    refine .of' _ _ (.inl ⟨rfl, rfl⟩) ?_ ?_ ?_ <;> exact L_
  rintro r s' (⟨rfl, rfl⟩ | ⟨i0, M0, y, hi0, hir, hy, hyM, rfl⟩)
  ·
    try refine S_ ?_
    refine g_ [0,4,5,13,14,15] ?_
    refine c_ (fun hc0 => ?_) fun hc0 => ?_
    ·
      skip
      refine g_ [0,4,5,6,13,14] ?_
      refine dr_ mixed [0,4,5,13,14] 2 2 [B + 2, id, B + 3, B + 4] [⟨[5],[],[],[],false⟩,⟨[17],[0],[],[],false⟩,⟨[0],[],[],[],false⟩,⟨[19],[],[],[],false⟩,⟨[20],[],[],[],false⟩,⟨[21],[1],[],[],false⟩,⟨[6],[],[],[],false⟩,⟨[22,23],[],[],[],true⟩,⟨[24],[],[],[2],false⟩,⟨[18,25],[2],[],[3],false⟩,⟨[5],[],[],[],false⟩,⟨[26,27],[0],[0],[],false⟩] [0,1,2,3,4,5,6,7,8,9,10,11] [[],[0],[],[2],[2,3],[2,3,4],[],[2,3,4,5,6],[2,3,4,5,6,7],[0,1,2,3,4,5,6,7,8],[0,1,2,3,4,5,6,7,8,9],[0,1,2,3,4,5,6,7,8,9,10]] 4 (htbl := by simp; omega) (hnm := by simp) ?_
      intro O A K hO hA hK;simp only [atL_cons,atL_nil,Nat.reduceAdd,Nat.zero_add] at hO hA
      refine SO_ ?_
      refine lp_ (has_ok on 0 (by omega)) Tryz.call158 ?_
      refine hK _ (S_ ?_);clear hK K hO hA O A
      refine g_ [0,4,5,13,14] ?_
      have e1 : [PV.bool (on.getLsbD 0)] = bls (hasL on 1) := rfl
      rw [e1]
      refine .of' _ _ ⟨r - 1, by omega, .inr ⟨1, _, B + 4, by omega, by omega, by omega, ?_, rfl⟩⟩ ?_ ?_ ?_
      · first | omega | (simp -implicitDefEqProofs (disch := omega) only [go_sem]; done) | (simp -implicitDefEqProofs (disch := omega) only [go_sem]; omega)
      all_goals exact L_
    exfalso; omega
  dsimp only at hy
  try refine S_ ?_
  refine g_ [0,4,5,13,14,15] ?_
  refine c_ (fun hc0 => ?_) fun hc0 => ?_
  ·
    have e1 : bls (hasL on i0) ++ [PV.bool (on.getLsbD i0)] = bls (hasL on (i0 + 1)) := by rw [bls_app, ← hasL_succ]
    refine g_ [0,4,5,6,13,14] ?_
    refine dr_ mixed [0,4,5,13,14] 2 3 [B + 2, id, y, M0, M0 + 1] [⟨[5],[],[],[],false⟩,⟨[17],[0],[],[],false⟩,⟨[0],[],[],[],false⟩,⟨[19],[],[],[],false⟩,⟨[20],[],[],[],false⟩,⟨[21],[1],[],[],false⟩,⟨[6],[],[],[],false⟩,⟨[22,23],[],[],[],true⟩,⟨[24],[],[],[3],false⟩,⟨[18,25],[2,3],[2],[4],false⟩,⟨[5],[],[],[],false⟩,⟨[26,27],[0],[0],[],false⟩] [0,1,2,3,4,5,6,7,8,9,10,11] [[],[0],[],[2],[2,3],[2,3,4],[],[2,3,4,5,6],[2,3,4,5,6,7],[0,1,2,3,4,5,6,7,8],[0,1,2,3,4,5,6,7,8,9],[0,1,2,3,4,5,6,7,8,9,10]] 5 (htbl := by simp; omega) (hnm := by simp) ?_
    intro O A K hO hA hK;simp only [atL_cons,atL_nil,Nat.reduceAdd,Nat.zero_add] at hO hA
    refine SO_ ?_
    refine lp_ (has_ok on i0 (by omega)) Tryz.call158 ?_
    refine hK _ (S_ ?_);clear hK K hO hA O A
    refine g_ [0,4,5,13,14] ?_
    rw [e1]
    refine .of' _ _ ⟨r - 1, by omega, .inr ⟨i0 + 1, _, M0 + 1, by omega, by omega, by omega, ?_, rfl⟩⟩ ?_ ?_ ?_
    · first | omega | (simp -implicitDefEqProofs (disch := omega) only [go_sem]; done) | (simp -implicitDefEqProofs (disch := omega) only [go_sem]; omega)
    all_goals exact L_
  refine n_ ?_
  obtain rfl : i0 = n := by omega
  have hh := hasL_len on i0
  refine g_ [4] ?_
  refine wpM_ret ?_
  try refine S_ ?_
  refine hQ _ _ (retK [y, B + 1] [] ((⟨hasL on i0, kp⟩ : Mrk).ol nx ny) (rs' := [.agg ((⟨hasL on i0, kp⟩ : Mrk).oc nx ny)]) rfl rfl rfl (by rw [Tryz.results128] <;> simp (maxSteps := 1000000) -implicitDefEqProofs (disch := omega) only [go_sem] <;> rfl) ?_ ⟨nx, ny, rfl, rfl⟩ ?_ ?_ ?_ ?_ ?_ ?_)
  all_goals (first | (simp -implicitDefEqProofs (disch := omega) only [go_sem, hh, hk, List.nodup_cons, List.nodup_nil, true_or, or_true, List.mem_cons, List.not_mem_nil, if_true]; done) | (simp -implicitDefEqProofs (disch := omega) only [go_sem, hh, hk, List.nodup_cons, List.nodup_nil, true_or, or_true, List.mem_cons, List.not_mem_nil]; omega))
end Go.Proofs.YtnmfmeehmieifaaGreat
namespace Go.Proofs.YtnmfmeehmieifaaGreat
open Go Sg
set_option maxRecDepth 100000
set_option linter.unusedSimpArgs false
set_option linter.unusedVariables false
set_option linter.unusedSectionVars false
set_option maxHeartbeats 4000000
variable [Glob]
theorem istepT_ok (c : Cht) (k : Mrk) (m : MM) (mid : Nat) (hm : m.Six) (hc : c.Sm) (hk : k.kept.length = 6) (hg : c.Go k.on.length) (hn : 0 < k.on.length) (hf : ∀ i, i < c.as'.length → (c.as'.getD i default).Fine) :
    CallF Tryz.prog 75 [.agg c.cs, .agg k.cs, .ptr mid 0] (mobj mid m) 2 (fun ns o => ∃ x y, ns = [x, y] ∧ o = { rs := [.agg ((istep c k m).1.oc x y)], u := [(mid, some (.cells 193 (ints (istep c k m).2.flat)))], nw := (istep c k m).1.ol x y }) := by
  have hts := hc.ts
  have has := hc.as'
  have hon6 := hg.n6
  have hst := hg.st
  have hst2 := hg.steps
  refine callF_ofM Tryz.func75 rfl Tryz.ntmps75 (by simp) ?_
  intro f0 B ns Q hB hns hQ
  have hid : mid < B := hB mid (by simp [hasKey, lk, mobj])
  obtain ⟨nx, ny, rfl⟩ : ∃ x y, ns = [x, y] := by
    match ns, hns with
    | [x, y], _ => exact ⟨x, y, rfl⟩
  obtain ⟨asg, body, hcode⟩ : ∃ asg body, Tryz.f75.body.map rfs = some [(asg, body)] := ⟨_, _, rfl⟩
  refine g_ [2,3,4,6,28] ?_
  refine n_ ?_
  refine wpM_regionK [2,3,6,7,28] rfl fun Q1 hQ1 => ?_
  refine S_ ?_
  refine call_fn (l := []) (first := []) (cap := []) (ps := [.agg k.cs]) (turnOf_ok k (by omega) hk) Tryz.call65 rfl rfl rfl T_ T_ ?_
  rintro out ⟨x', hns', rfl⟩
  injection hns' with hn1 hns'
  subst hn1
  refine S_ ?_
  refine hQ1 _ _ (S_ ?_);clear hQ1 Q1
  refine g_ [2,3,6,7,8,28] ?_
  refine n_ ?_
  refine dr_ mixed [2,3,6,7,8,26,28] 3 4 [B, B + 4, B + 3, mid, B + 6, B + 7, B + 8] [⟨[3],[0],[],[],false⟩,⟨[7],[1],[],[],false⟩,⟨[21],[],[],[],false⟩,⟨[22],[],[],[],false⟩,⟨[23],[2],[],[],false⟩,⟨[2],[],[],[],false⟩,⟨[20,24,25],[3],[],[4,5,6],true⟩] [0,1,2,3,4,5,6] [[],[],[1],[1,2],[1,2,3],[],[0,1,2,3,4,5]] 7 (htbl := by simp; omega) (hnm := by simp) ?_
  intro O A K hO hA hK;simp only [atL_cons,atL_nil,Nat.reduceAdd,Nat.zero_add] at hO hA
  refine SO_ ?_
  refine loud_fn (first := []) (cap := []) (ps := [.agg c.cs, .int .u64 ((onBits k.on).toNat : Int), .ptr mid 0]) (l := mobj mid m) (ifires_ok c (onBits k.on) mid _) Tryz.call64 rfl rfl F_ (subG_spec T_) rfl ?_
  rintro out ⟨x', y', z', hns', rfl⟩
  injection hns' with hn1 hns'
  injection hns' with hn2 hns'
  injection hns' with hn3 hns'
  subst hn1 hn2 hn3
  refine ⟨rfl, ?_⟩
  refine SO_ ?_
  refine hK _ (S_ ?_);clear hK K hO hA O A
  refine n_ ?_
  have hcode' := Option.some.inj hcode
  simp only [rfs, List.nil_append, List.append_nil, List.cons.injEq, Prod.mk.injEq, and_true] at hcode'
  obtain ⟨hasg, hbody⟩ := hcode'
  simp -implicitDefEqProofs (disch := omega) only [go_sem, Nat.add_assoc]
  refine wpM_code (c' := Code.rangeFunc (.tmp 26) #[27, 28] asg body) (by rw [← hasg, ← hbody]) ?_
  clear hasg hbody
  refine wpM_rangeFunc (first := []) (cap := [.ptr (B + 6) 0, .ptr (B + 7) 0, .ptr (B + 8) 0]) T_ Tryz.func111 rfl Tryz.ntmps111 (by simp) Tryz.call111 ?_
  intro fn b d
  refine g_ [0,1,2,3,5] ?_
  refine g_ [0,2,3,5,10,11,12] ?_
  refine n_ ?_
  refine wpM_loopS (fun s n s' => ∃ (i0 M0 : Nat) , i0 + n = c.ts.length ∧ s.M ≤ M0 ∧ (Tr i0) ∧ s' = { s with env := setE 5 (.int .u64 ((fI m (onBits k.on) c i0).1.toNat : Int)) (setE 12 (.int .i64 (i0 : Nat)) s.env), l := setl (B + 5) (.cells 103 [.int .u64 ((fI m (onBits k.on) c i0).1.toNat : Int)]) (setl (B + 3) (.cells 106 (tcs (onBits k.on) (bgI c (fI m (onBits k.on) c i0).2) k.kept)) s.l), M := M0 }) (c.ts.length) ?_ ?_
  ·
    refine .of' _ _ ⟨0, _, by omega, Nat.le_refl _, trivial, rfl⟩ ?_ ?_ ?_ <;> exact L_
  rintro n0 s' ⟨i0, M0, hi0, hM0, hv0, rfl⟩
  try dsimp only at hM0
  try refine S_ ?_
  refine g_ [0,2,3,5,10,11,12,13] ?_
  refine c_ (fun hc0 => ?_) fun hc0 => ?_
  ·
    have hl0 : i0 < c.ts.length := by omega
    have ht := hc.t i0 hl0
    have hgo := hg.t i0 hl0
    have htf := ht.fr
    have htt := ht.to'
    refine g_ [0,2,3,5,6,7,10,11,12] ?_
    refine n_ ?_
    refine wpM_regionK [0,2,3,5,6,7,8,10,11,12] rfl fun Q1 hQ1 => ?_
    refine S_ ?_
    refine cp_ (bitsOf_ok (c.ts.getD i0 default).fr htf (fun j hj => (hgo.fr j hj).1)) Tryz.call112 ?_
    refine hQ1 _ _ (S_ ?_);clear hQ1 Q1
    refine n_ ?_
    refine wpM_regionK [0,2,3,5,6,7,8,10,11,12,37] rfl fun Q1 hQ1 => ?_
    refine SD_ ?_
    refine callG_r (l := mobj mid m) (fun hb => reckon_ok m hm mid 6 (c.ts.getD i0 default).w hgo.w) (by refine subF_spec ?_; simp -implicitDefEqProofs (disch := omega) only [go_sem]) Tryz.call114 rfl rfl (fun hb => by simp -implicitDefEqProofs (disch := omega) only [go_sem]) (fun hb => by first | rfl | simp -implicitDefEqProofs (disch := omega) only [go_sem, hb, gd_of hb] | (simp -implicitDefEqProofs (disch := omega) only [go_sem, hb, gd_of hb]; rfl)) ?_
    refine SD_ ?_
    first | refine cg_ (fun hb => ion_ok ((c.ts.getD i0 default).w.of m)) Tryz.call113 ?_ | refine cpD_ (ion_ok ((c.ts.getD i0 default).w.of m)) Tryz.call113 ?_
    refine hQ1 _ _ (S_ ?_);clear hQ1 Q1
    refine c_ (fun hc1 => ?_) fun hc1 => ?_
    ·
      refine g_ [0,2,3,5,10,11,12] ?_
      first
      | (have hst := fI_yes (m := m) (on := onBits k.on) (c := c) (n := i0) hc1
         refine .of' _ _ ⟨n0 - 1, by omega, i0 + 1, _, by omega, ?_, trivial, rfl⟩ ?_ ?_ ?_
         · first | omega | (simp -implicitDefEqProofs (disch := omega) only [go_sem]; done) | (simp -implicitDefEqProofs (disch := omega) only [go_sem]; omega)
         all_goals (rw [hst]; exact L_))
      | (have hst := fI_no (m := m) (on := onBits k.on) (c := c) (n := i0) hc1
         refine .of' _ _ ⟨n0 - 1, by omega, i0 + 1, _, by omega, ?_, trivial, rfl⟩ ?_ ?_ ?_
         · first | omega | (simp -implicitDefEqProofs (disch := omega) only [go_sem]; done) | (simp -implicitDefEqProofs (disch := omega) only [go_sem]; omega)
         all_goals (rw [hst]; simp only [bgI_app]; exact L_))
    refine g_ [0,2,3,5,6,7,10,11,12] ?_
    refine n_ ?_
    refine wpM_regionK [0,2,3,5,10,11,12,45] rfl fun Q1 hQ1 => ?_
    refine S_ ?_
    refine OpM_roundK (B + 10) rfl rfl rfl rfl (by simp -implicitDefEqProofs (disch := omega) only [go_sem]; rfl) rfl rfl ?_
    intro K' hK'
    have hcode' := Option.some.inj hcode
    simp only [rfs, List.nil_append, List.append_nil, List.cons.injEq, Prod.mk.injEq, and_true] at hcode'
    obtain ⟨hasg, hbody⟩ := hcode'
    refine wpM_code hasg ?_
    clear hasg hbody
    simp -implicitDefEqProofs (disch := omega) only [go_sem]
    refine g_ [7,8,10] ?_
    refine ⟨d, none, fn, 115, [(2, .ptr mid 0), (3, .ptr B 0), (6, .ptr (B + 2) 0), (7, .ptr (B + 4) 0), (8, .ptr (B + 5) 0), (26, .fn (.func 111) [] [.ptr (B + 6) 0, .ptr (B + 7) 0, .ptr (B + 8) 0])], #[27, 28], asg, body, by simp -implicitDefEqProofs (disch := omega) only [go_sem], ?_⟩
    have hcode' := Option.some.inj hcode
    simp only [rfs, List.nil_append, List.append_nil, List.cons.injEq, Prod.mk.injEq, and_true] at hcode'
    obtain ⟨hasg, hbody⟩ := hcode'
    refine wpM_code hbody ?_
    clear hasg hbody
    refine n_ ?_
    refine dr_ mixed [7,10] 0 2 [B+5, M0+1] [⟨[8],[0],[],[],false⟩,⟨[10],[],[],[],false⟩,⟨[30],[1],[],[],false⟩,⟨[31],[],[],[],true⟩,⟨[29,32],[],[],[],false⟩,⟨[8,33],[0],[0],[],false⟩] [0,1,2,3,4,5] [[],[],[1],[1,2],[0,1,2,3],[0,1,2,3,4]] 2 (htbl := by simp; omega) (hnm := by simp) ?_
    intro O A K hO hA hK;simp only [atL_cons,atL_nil,Nat.reduceAdd,Nat.zero_add] at hO hA
    refine SO_ ?_
    refine lp_ (bitsOf_ok (c.ts.getD i0 default).fr htf (fun j hj => (hgo.fr j hj).1)) Tryz.call112 ?_
    refine hK _ (S_ ?_);clear hK K hO hA O A
    refine dr_ mixed [] 0 3 [B + 4, M0 + 1, B + 3] [⟨[7],[0],[],[],false⟩,⟨[34],[],[],[],false⟩,⟨[35],[],[],[],false⟩,⟨[36],[2],[],[],false⟩,⟨[10],[],[],[],false⟩,⟨[38],[1],[],[],false⟩,⟨[39],[],[],[],true⟩,⟨[37,40],[],[],[],false⟩,⟨[34],[],[],[],false⟩,⟨[42],[],[],[],false⟩,⟨[41,43],[2],[2],[],false⟩] [0,1,2,3,4,5,6,7,8,9,10] [[],[0],[0,1],[0,1,2],[],[4],[4,5],[0,1,2,3,4,5,6],[0,1,2,3,4,5,6,7],[0,1,2,3,4,5,6,7,8],[0,1,2,3,4,5,6,7,8,9]] 3 (htbl := by simp; omega) (hnm := by simp) ?_
    intro O A K hO hA hK;simp only [atL_cons,atL_nil,Nat.reduceAdd,Nat.zero_add] at hO hA
    refine SO_ ?_
    refine lp_ (bitsOf_ok (c.ts.getD i0 default).to' htt (fun j hj => (hgo.to' j hj).1)) Tryz.call112 ?_
    refine hK _ (S_ ?_);clear hK K hO hA O A
    refine ⟨d, .busy, none, fn, 115, [(2, .ptr mid 0), (3, .ptr B 0), (6, .ptr (B + 2) 0), (7, .ptr (B + 4) 0), (8, .ptr (B + 5) 0), (26, .fn (.func 111) [] [.ptr (B + 6) 0, .ptr (B + 7) 0, .ptr (B + 8) 0])], #[27, 28], asg, body, by simp -implicitDefEqProofs (disch := omega) only [go_sem], ?_⟩
    refine hK' _ ?_; clear hK' K'
    refine S_ ?_
    refine hQ1 _ _ (S_ ?_);clear hQ1 Q1
    refine c1_ ?_
    refine g_ [0,2,3,5,10,11,12] ?_
    first
    | (have hst := fI_yes (m := m) (on := onBits k.on) (c := c) (n := i0) hc1
       refine .of' _ _ ⟨n0 - 1, by omega, i0 + 1, _, by omega, ?_, trivial, rfl⟩ ?_ ?_ ?_
       · first | omega | (simp -implicitDefEqProofs (disch := omega) only [go_sem]; done) | (simp -implicitDefEqProofs (disch := omega) only [go_sem]; omega)
       all_goals (rw [hst]; exact L_))
    | (have hst := fI_no (m := m) (on := onBits k.on) (c := c) (n := i0) hc1
       refine .of' _ _ ⟨n0 - 1, by omega, i0 + 1, _, by omega, ?_, trivial, rfl⟩ ?_ ?_ ?_
       · first | omega | (simp -implicitDefEqProofs (disch := omega) only [go_sem]; done) | (simp -implicitDefEqProofs (disch := omega) only [go_sem]; omega)
       all_goals (rw [hst]; simp only [bgI_app]; exact L_))
  refine n_ ?_
  refine ⟨[], rfl, trivial, [], (by first | (rw [Tryz.results111]; done) | (rw [Tryz.results111]; simp -implicitDefEqProofs (disch := omega) only [go_sem])), ?_⟩
  refine ⟨d, .ready, none, fn, 115, [(2, .ptr mid 0), (3, .ptr B 0), (6, .ptr (B + 2) 0), (7, .ptr (B + 4) 0), (8, .ptr (B + 5) 0), (26, .fn (.func 111) [] [.ptr (B + 6) 0, .ptr (B + 7) 0, .ptr (B + 8) 0])], #[27, 28], asg, body, T_, (by simp), ?_⟩
  simp -implicitDefEqProofs (disch := omega) only [go_sem, Nat.add_assoc]
  have hie : i0 = c.ts.length := by omega
  rw [hie]
  generalize hF : fI m (onBits k.on) c c.ts.length = F
  generalize hG : bgI c F.2 = bg
  refine n_ ?_
  refine dr_ mixed [2,3,6,7] 0 3 [B + 4, B + 5, B + 3] [⟨[7],[0],[],[],false⟩,⟨[7],[0],[],[],false⟩,⟨[45],[],[],[],false⟩,⟨[46],[],[],[],false⟩,⟨[47],[2],[],[],false⟩,⟨[8],[1],[],[],false⟩,⟨[48,49],[],[],[],false⟩,⟨[7],[0],[],[],false⟩,⟨[51],[],[],[],false⟩,⟨[52],[],[],[],false⟩,⟨[53],[2],[],[],false⟩,⟨[50,54],[],[],[],false⟩,⟨[44],[],[],[],false⟩,⟨[56],[],[],[],false⟩,⟨[55,57],[2],[2],[],false⟩] [0,1,2,3,4,5,6,7,8,9,10,11,12,13,14] [[],[],[1],[1,2],[1,2,3],[],[1,2,3,4,5],[],[7],[7,8],[7,8,9],[1,2,3,4,5,6,7,8,9,10],[0,1,2,3,4,5,6,7,8,9,10,11],[0,1,2,3,4,5,6,7,8,9,10,11,12],[0,1,2,3,4,5,6,7,8,9,10,11,12,13]] 3 ?_
  intro O A K hO hA hK;simp only [atL_cons,atL_nil,Nat.reduceAdd,Nat.zero_add] at hO hA
  refine SO_ ?_
  refine hK _ (S_ ?_);clear hK K hO hA O A
  generalize hO : onBits k.on &&& ~~~F.1 ||| bg = on
  refine g_ [2,3,6,7,58,59,60] ?_
  rw [show [PV.int .i64 2, PV.int .i64 3] = ints [2, 3] from rfl]
  have hcs : c.steps = (k.on.length : Int) := by omega
  refine n_ ?_
  refine wpM_loopS (fun s n s' => ∃ (i0 M0 : Nat) , i0 + n = 2 ∧ s.M ≤ M0 ∧ (Tr i0) ∧ s' = { s with env := setE 60 (.int .i64 (i0 : Nat)) s.env, l := setl (B + 3) (.cells 106 (tcs on bg (kAll on c.as' k.kept (([2, 3] : List Int).take i0)))) s.l, M := M0 }) (2) ?_ ?_
  ·
    refine .of' _ _ ⟨0, _, by omega, Nat.le_refl _, trivial, rfl⟩ ?_ ?_ ?_ <;> exact L_
  rintro n0 s' ⟨i0, M0, hi0, hM0, hv0, rfl⟩
  try dsimp only at hM0
  try refine S_ ?_
  refine g_ [2,3,6,7,58,59,60,61] ?_
  refine c_ (fun hc0 => ?_) fun hc0 => ?_
  ·
    have hl0 : i0 < 2 := by omega
    have hkt0 := kAll_take on c.as' k.kept [2, 3] i0 hl0
    have hkd : 1 ≤ ([2, 3] : List Int).getD i0 0 ∧ ([2, 3] : List Int).getD i0 0 ≤ 4 := by
      have : i0 = 0 ∨ i0 = 1 := by omega
      rcases this with rfl | rfl <;> simp
    have hkp0 : (kAll on c.as' k.kept (([2, 3] : List Int).take i0)).length = 6 := by rw [kAll_len, hk]
    have hl2' : i0 < ([2, 3] : List Int).length := hl0
    refine g_ [2,3,6,7,12,58,59,60] ?_
    generalize hK : ([2, 3] : List Int).getD i0 0 = kd at *
    generalize hP : kAll on c.as' k.kept (([2, 3] : List Int).take i0) = kp at *
    refine g_ [2,3,6,7,12,58,59,60,65,66,67] ?_
    refine n_ ?_
    refine wpM_loopS (fun s n s' => ∃ (i1 M1 : Nat) , i1 + n = c.as'.length ∧ s.M ≤ M1 ∧ (Tr i1) ∧ s' = { s with env := setE 67 (.int .i64 (i1 : Nat)) s.env, l := setl (B + 3) (.cells 106 (tcs on bg (kfold kd on kp (c.as'.take i1)))) s.l, M := M1 }) (c.as'.length) ?_ ?_
    ·
      refine .of' _ _ ⟨0, _, by omega, Nat.le_refl _, trivial, rfl⟩ ?_ ?_ ?_ <;> exact L_
    rintro n1 s' ⟨i1, M1, hi1, hM1, hv1, rfl⟩
    try dsimp only at hM1
    try refine S_ ?_
    refine g_ [2,3,6,7,12,58,59,60,65,66,67,68] ?_
    refine c_ (fun hc1 => ?_) fun hc1 => ?_
    ·
      have hl1 : i1 < c.as'.length := by omega
      have hin := hf i1 hl1
      unfold GAct.Fine at hin
      have hkl : (kfold kd on kp (c.as'.take i1)).length = 6 := by rw [kfold_len, hkp0]
      have hkt := kfold_take kd on kp c.as' i1 hl1
      refine g_ [2,3,6,7,12,14,58,59,60,65,66,67] ?_
      refine g_ [2,3,6,7,12,14,58,59,60,65,66,67,74] ?_
      refine c_ (fun hc2 => ?_) fun hc2 => ?_
      ·
        obtain ⟨t, fk, fd, hr, q1, q2, q3, q4, q5, q6⟩ := act_meth kd hkd.1 hkd.2
        refine dr_ mixed [2,3,6,7,12,58,59,60,65,66,67] 1 3 [B + 4, M1, B + 3, M1 + 1] [⟨[],[],[],[3],true⟩,⟨[12],[],[],[],false⟩,⟨[75,76],[3],[],[],false⟩,⟨[7],[0],[],[],false⟩,⟨[14],[1],[],[],false⟩,⟨[77,78,79],[2],[2],[],true⟩] [1,3,4,0,2,5] [[],[],[0,1],[],[],[0,1,2,3,4]] 4 (htbl := by simp; omega) (hnm := by simp) ?_
        intro O A K hO hA hK;simp only [atL_cons,atL_nil,Nat.reduceAdd,Nat.zero_add] at hO hA
        refine SO_ ?_
        refine loud_fn (first := []) (cap := []) (ps := []) (l := []) actings_ok Tryz.call123 rfl rfl F_ (fun i o h => by simp [lk] at h) rfl ?_
        rintro out ⟨x', hns', rfl⟩
        injection hns' with hn1 hns'
        subst hn1
        refine ⟨rfl, ?_⟩
        refine SO_ ?_
        refine loud_inv (l := tobj (B + 3) on bg (kfold kd on kp (c.as'.take i1))) (ps := [.ptr (B + 3) 0, .agg (c.as'.getD i1 default).cs]) (k := 0) (q3 (B + 3) on bg _ (c.as'.getD i1 default) hkl hin.2.2.1 hin.2.2.2.2.2) q1 q2 rfl (by simp -implicitDefEqProofs (disch := omega) only [go_sem, hr]) F_ (subG_spec T_) rfl ?_
        rintro out rfl
        refine ⟨rfl, ?_⟩
        refine SO_ ?_
        refine hK _ (S_ ?_);clear hK K hO hA O A
        refine g_ [2,3,6,7,12,58,59,60,65,66,67] ?_
        first
        | (rw [hc2, if_pos rfl] at hkt; rw [← hkt])
        | (rw [hc2, if_neg (by simp)] at hkt; rw [← hkt])
        refine .of' _ _ ⟨n1 - 1, by omega, i1 + 1, _, by omega, M_, ?_, rfl⟩ L_ L_ L_
        first | trivial | omega
      refine g_ [2,3,6,7,12,58,59,60,65,66,67] ?_
      first
      | (rw [hc2, if_pos rfl] at hkt; rw [← hkt])
      | (rw [hc2, if_neg (by simp)] at hkt; rw [← hkt])
      refine .of' _ _ ⟨n1 - 1, by omega, i1 + 1, _, by omega, M_, ?_, rfl⟩ L_ L_ L_
      first | trivial | omega
    refine n_ ?_
    have hie1 : i1 = c.as'.length := by omega
    rw [hie1, List.take_of_length_le (Nat.le_refl _), ← hkt0]
    refine g_ [2,3,6,7,58,59,60] ?_
    refine .of' _ _ ⟨n0 - 1, by omega, i0 + 1, _, by omega, M_, ?_, rfl⟩ L_ L_ L_
    first | trivial | omega
  refine n_ ?_
  have hie0 : i0 = 2 := by omega
  have hkp2 : (kAll on c.as' k.kept (([2, 3] : List Int).take i0)).length = 6 := by rw [kAll_len, hk]
  have hkq : kAll on c.as' k.kept (([2, 3] : List Int).take i0) = kAll on c.as' k.kept [2, 3] := by rw [hie0]; rfl
  generalize hP2 : kAll on c.as' k.kept (([2, 3] : List Int).take i0) = kp2 at *
  refine g_ [2,3,6,7,84,85,86] ?_
  refine n_ ?_
  refine wpM_loopS (fun s n s' => ∃ (i2 M2 : Nat) , i2 + n = c.as'.length ∧ s.M ≤ M2 ∧ (Tr i2) ∧ s' = { s with env := setE 86 (.int .i64 (i2 : Nat)) s.env, l := setl mid (.cells 193 (ints (imfold c kp2 on bg m (c.as'.take i2)).flat)) s.l, M := M2 }) (c.as'.length) ?_ ?_
  ·
    refine .of' _ _ ⟨0, _, by omega, Nat.le_refl _, trivial, rfl⟩ ?_ ?_ ?_ <;> exact L_
  rintro n2 s' ⟨i2, M2, hi2, hM2, hv2, rfl⟩
  try dsimp only at hM2
  try refine S_ ?_
  refine g_ [2,3,6,7,84,85,86,87] ?_
  refine c_ (fun hc3 => ?_) fun hc3 => ?_
  ·
    have hl2 : i2 < c.as'.length := by omega
    have hin := hf i2 hl2
    unfold GAct.Fine at hin
    obtain ⟨g1, g2, g3, g4, g5, g6, g7⟩ := hin
    have hms : (imfold c kp2 on bg m (c.as'.take i2)).Six := imfold_six _ _ _ _ _ _ hm
    have hmt := imfold_take c kp2 on bg m c.as' i2 hl2
    generalize hM : imfold c kp2 on bg m (c.as'.take i2) = mm at *
    refine g_ [2,3,6,7,16,84,85,86] ?_
    refine n_ ?_
    refine dr_ mixed [2,3,6,7,16,17,84,85,86] 0 4 [B + 4, M2, B, B + 3] [⟨[7],[0],[],[],false⟩,⟨[16],[],[],[],false⟩,⟨[91],[],[],[],false⟩,⟨[92],[1],[],[],false⟩,⟨[90],[],[],[],false⟩,⟨[94],[],[],[],false⟩,⟨[93,95],[],[],[],false⟩,⟨[96],[3],[],[],false⟩,⟨[97],[],[],[],false⟩,⟨[3,98],[],[],[],false⟩,⟨[98,99],[2],[],[],false⟩,⟨[7,16,98],[],[],[],false⟩,⟨[98,100,101],[0,1,3],[],[],true⟩,⟨[98,102],[],[],[],false⟩,⟨[103],[],[],[],false⟩] [0,1,2,3,4,5,6,7,8,9,10,11,12,13,14] [[],[],[1],[1,2],[0],[0,4],[0,1,2,3,4,5],[0,1,2,3,4,5,6],[0,1,2,3,4,5,6,7],[0,1,2,3,4,5,6,7,8],[0,1,2,3,4,5,6,7,8,9],[0,1,2,3,4,5,6,7,8],[0,1,2,3,4,5,6,7,8,9,10,11],[0,1,2,3,4,5,6,7,8,9,10,11,12],[0,1,2,3,4,5,6,7,8,9,10,11,12,13]] 4 (htbl := by simp; omega) (hnm := by simp) ?_
    intro O A K hO hA hK;simp only [atL_cons,atL_nil,Nat.reduceAdd,Nat.zero_add] at hO hA
    refine SE_ ?_
    refine loudG_r (fun hb => hasA_ok c.as' 125 [.ptr M2 0, .ptr (B + 4) 0] (drives on bg (c.as'.getD i2 default)) [(M2, .cells 158 (c.as'.getD i2 default).cs), (B + 4, .cells 107 [.ptr (B + 3) 0]), (B + 3, .cells 106 (tcs on bg kp2))] has Tryz.call125 (fun j hj => by
      have hj2 := hf j hj
      unfold GAct.Fine at hj2
      exact step1_ok M2 (B + 4) (B + 3) on bg kp2 (c.as'.getD i2 default) (c.as'.getD j default) (by omega) (by omega) (by omega) hkp2 hj2.2.2.1 hj2.1 hj2.2.1)) (subG_spec T_) Tryz.call124 rfl (fun hb => by simp -implicitDefEqProofs (disch := omega) only [go_sem]) (fun hb => by first | rfl | simp -implicitDefEqProofs (disch := omega) only [go_sem, hb, gd_of hb] | (simp -implicitDefEqProofs (disch := omega) only [go_sem, hb, gd_of hb]; rfl)) rfl ?_
    refine SE_ ?_
    refine hK _ (S_ ?_);clear hK K hO hA O A
    refine dr_ mixed [2,3,6,7,84,85,86] 0 2 [M2, mid] [⟨[2],[],[],[],false⟩,⟨[16],[],[],[],false⟩,⟨[105],[0],[],[],false⟩,⟨[17],[],[],[],false⟩,⟨[107],[],[],[],true⟩,⟨[104,106,108],[1],[1],[],true⟩] [0,1,2,3,4,5] [[],[],[1],[],[3],[0,1,2,3,4]] 2 (htbl := by simp; omega) (hnm := by simp) ?_
    intro O A K hO hA hK;simp only [atL_cons,atL_nil,Nat.reduceAdd,Nat.zero_add] at hO hA
    refine SO_ ?_
    refine lp_ (iis_ok (kp2.getD (c.as'.getD i2 default).to'.at'.toNat false || c.as'.any (drives on bg (c.as'.getD i2 default)))) Tryz.call127 ?_
    refine loud_fn (first := []) (cap := []) (ps := [.ptr mid 0, .agg (c.as'.getD i2 default).to'.cs, .int .i64 (numIs (kp2.getD (c.as'.getD i2 default).to'.at'.toNat false || c.as'.any (drives on bg (c.as'.getD i2 default))))]) (l := [(mid, .cells 193 (ints mm.flat))]) (iput_ok mid mm.flat (c.as'.getD i2 default).to' (numIs (kp2.getD (c.as'.getD i2 default).to'.at'.toNat false || c.as'.any (drives on bg (c.as'.getD i2 default)))) g4 (by omega) (MM.flat_len hms)) Tryz.call126 rfl rfl F_ (subG_spec T_) rfl ?_
    rintro out rfl
    refine ⟨rfl, ?_⟩
    refine SO_ ?_
    refine hK _ (S_ ?_);clear hK K hO hA O A
    refine g_ [2,3,6,7,84,85,86] ?_
    rw [← flat_put hms g4 g5]
    change imfold c kp2 on bg m (c.as'.take (i2 + 1)) = mm.put (c.as'.getD i2 default).to' (numIs (kp2.getD (c.as'.getD i2 default).to'.at'.toNat false || c.as'.any (drives on bg (c.as'.getD i2 default)))) at hmt
    rw [← hmt]
    refine .of' _ _ ⟨n2 - 1, by omega, i2 + 1, _, by omega, M_, ?_, rfl⟩ L_ L_ L_
    first | trivial | omega
  refine n_ ?_
  have hie2 : i2 = c.as'.length := by omega
  rw [hie2, List.take_of_length_le (Nat.le_refl _)]
  refine wpM_regionK [6] rfl fun Q1 hQ1 => ?_
  refine S_ ?_
  refine call_fn (l := tobj (B + 3) on bg kp2) (first := []) (cap := []) (ps := [.ptr (B + 3) 0, .int .i64 (k.on.length : Int)]) (marksT_ok (B + 3) on bg kp2 k.on.length hkp2 hn hon6) Tryz.call128 rfl rfl rfl (by simp -implicitDefEqProofs (disch := omega) only [go_sem, hcs]) T_ ?_
  rintro out ⟨x', y', hns', rfl⟩
  injection hns' with hn1 hns'
  injection hns' with hn2 hns'
  subst hn1 hn2
  have hh := hasL_len on k.on.length
  refine S_ ?_
  refine hQ1 _ _ (S_ ?_);clear hQ1 Q1
  refine wpM_le [(6, .ptr (B + 2) 0)] [(M2, .cells 4 (bls (hasL on k.on.length))), (M2 + 1, .cells 4 (bls kp2)), (B + 9, .dfr d), (B + 2, .cells 50 [.sl 4 M2 0 k.on.length, .sl 4 (M2 + 1) 0 kp2.length]), (mid, .cells 193 (ints (imfold c kp2 on bg m c.as').flat))] T_ T_ T_ ?_
  refine wpM_ret ?_
  try refine S_ ?_
  have hres : istep c k m = (⟨hasL on k.on.length, kp2⟩, imfold c kp2 on bg m c.as') := by
    rw [← hst2, hkq, ← hO, ← hG, ← hF]; rfl
  rw [hres] at hQ
  refine hQ _ _ ⟨[B + 9], rfl, ⟨⟨by simp (maxSteps := 1000000) -implicitDefEqProofs (disch := omega) only [go_sem], ⟨d, by simp (maxSteps := 1000000) -implicitDefEqProofs (disch := omega) only [go_sem]⟩, by simp⟩, trivial⟩, retK [M2, M2 + 1] [(mid, some (.cells 193 (ints (imfold c kp2 on bg m c.as').flat)))] ((⟨hasL on k.on.length, kp2⟩ : Mrk).ol nx ny) (rs' := [.agg ((⟨hasL on k.on.length, kp2⟩ : Mrk).oc nx ny)]) rfl rfl rfl (by rw [Tryz.results75] <;> simp (maxSteps := 1000000) -implicitDefEqProofs (disch := omega) only [go_sem] <;> rfl) ?_ ⟨nx, ny, rfl, rfl⟩ ?_ ?_ ?_ ?_ ?_ ?_⟩
  all_goals (first | (simp (maxSteps := 1000000) -implicitDefEqProofs (disch := omega) only [go_sem, hh, List.nodup_cons, List.nodup_nil, true_or, or_true, List.mem_cons, List.not_mem_nil, if_true]; done) | (simp (maxSteps := 1000000) -implicitDefEqProofs (disch := omega) only [go_sem, hh, List.nodup_cons, List.nodup_nil, true_or, or_true, List.mem_cons, List.not_mem_nil]; omega))
end Go.Proofs.YtnmfmeehmieifaaGreat
namespace Go.Proofs.YtnmfmeehmieifaaGreat
open Go Sg
set_option maxRecDepth 100000
set_option linter.unusedSimpArgs false
set_option linter.unusedVariables false
set_option linter.unusedSectionVars false
set_option maxHeartbeats 4000000
variable [Glob]
theorem ichtStepT_ok (c : Cht) (k : Mrk) (m : MM) (hc : c.Sm) (hm : m.Sm) : CallF Tryz.prog 34 [.agg c.cs, .agg k.cs, .agg m.cs] [] 5 (OwnR Tryz.prog (wAA 2) ((ichtStep c k m).1.cs ++ (ichtStep c k m).2.cs)) := by
  refine callF_of' Tryz.func34 rfl Tryz.ntmps34 (by simp) ?_
  intro f0 B ns Q hB hns hQ
  refine g_ [3,4,5,6,7] ?_
  refine n_ ?_
  refine wpM_regionK [3,4,6,7,8,9] rfl fun Q1 hQ1 => ?_
  refine S_ ?_
  refine call_fn (l := []) (first := []) (cap := []) (ps := [.agg c.cs, .agg k.cs, .agg m.cs]) (readTurn_ok c k m hc hm) Tryz.call63 rfl rfl rfl G_ T_ ?_
  rintro out ⟨x', p, l, ⟨⟩, hp1, hp2, rfl⟩
  refine S_ ?_
  refine hQ1 _ _ (S_ ?_);clear hQ1 Q1
  refine g_ [3,4,6,7,8,19] ?_
  refine c_ (fun hc0 => ?_) fun hc0 => ?_
  ·
    refine g_ [6,7] ?_
    have hcs : ichtStep c k m = (⟨[], []⟩, ⟨[], [], []⟩) := by rw [ichtStep, if_neg]; intro hh; rw [hh] at hc0; cases hc0
    refine wpM_nil 4 [(6, .ptr (B + 3) 0), (7, .ptr (B + 4) 0)] [(B + 3, .cells 50 [.sl 4 (B + 6) 0 0, .emp]), (B + 4, .cells 52 [.emp, .emp, .emp])] T_ T_ T_ ?_
    refine wpM_nil 4 [(6, .ptr (B + 3) 0), (7, .ptr (B + 4) 0)] [(B + 6, .cells 4 []), (B + 3, .cells 50 [.sl 4 (B + 6) 0 0, .sl 4 (B + 6 + 1) 0 0]), (B + 4, .cells 52 [.emp, .emp, .emp])] T_ T_ T_ ?_
    refine wpM_nil 3 [(6, .ptr (B + 3) 0), (7, .ptr (B + 4) 0)] [(B + 6 + 1, .cells 4 []), (B + 6, .cells 4 []), (B + 3, .cells 50 [.sl 4 (B + 6) 0 0, .sl 4 (B + 6 + 1) 0 0]), (B + 4, .cells 52 [.sl 3 (B + 6 + 1 + 1) 0 0, .emp, .emp])] T_ T_ T_ ?_
    refine wpM_nil 3 [(6, .ptr (B + 3) 0), (7, .ptr (B + 4) 0)] [(B + 6 + 1 + 1, .cells 3 []), (B + 6 + 1, .cells 4 []), (B + 6, .cells 4 []), (B + 3, .cells 50 [.sl 4 (B + 6) 0 0, .sl 4 (B + 6 + 1) 0 0]), (B + 4, .cells 52 [.sl 3 (B + 6 + 1 + 1) 0 0, .sl 3 (B + 6 + 1 + 1 + 1) 0 0, .emp])] T_ T_ T_ ?_
    refine wpM_nil 3 [(6, .ptr (B + 3) 0), (7, .ptr (B + 4) 0)] [(B + 6 + 1 + 1 + 1, .cells 3 []), (B + 6 + 1 + 1, .cells 3 []), (B + 6 + 1, .cells 4 []), (B + 6, .cells 4 []), (B + 3, .cells 50 [.sl 4 (B + 6) 0 0, .sl 4 (B + 6 + 1) 0 0]), (B + 4, .cells 52 [.sl 3 (B + 6 + 1 + 1) 0 0, .sl 3 (B + 6 + 1 + 1 + 1) 0 0, .sl 3 (B + 6 + 1 + 1 + 1 + 1) 0 0])] T_ T_ T_ ?_
    refine wpM_ret ?_
    try refine S_ ?_
    rw [hcs] at hQ
    refine hQ _ _ (retOwnW (M := B + 11) (wAA_ok 2) ((⟨[], []⟩ : Mrk).ol (B + 6) (B + 6 + 1) ++ (⟨[], [], []⟩ : MM).ol (B + 6 + 1 + 1) (B + 6 + 1 + 1 + 1) (B + 6 + 1 + 1 + 1 + 1)) (cs := (⟨[], []⟩ : Mrk).oc (B + 6) (B + 6 + 1) ++ (⟨[], [], []⟩ : MM).oc (B + 6 + 1 + 1) (B + 6 + 1 + 1 + 1) (B + 6 + 1 + 1 + 1 + 1)) ((own_mrk ⟨[], []⟩ _ _).app (own_mem ⟨[], [], []⟩ _ _ _)) rfl rfl rfl ?_ (by rw [hns]; rfl) ?_ (fun q hq => ?_) (by simp [ksL, MM.ol, Mrk.ol] <;> omega))
    · simp only [wAA, Mrk.oc, MM.oc, List.take, List.drop, List.cons_append, List.nil_append, List.length_nil]
      exact (by rw [Tryz.results34] <;> simp (maxSteps := 1000000) -implicitDefEqProofs (disch := omega) only [go_sem] <;> rfl)
    · simp [inR_cons, inR_nil] <;> omega
    · simp [MM.ol, Mrk.ol, ints, bls] at hq ⊢
      rcases hq with rfl | rfl | rfl | rfl | rfl <;> simp
  have hok : turnOk c k m = true := by simpa using hc0
  have hcs : ichtStep c k m = istep c k m := by rw [ichtStep, if_pos hok]
  obtain ⟨hok1, hok2, hok3, hok4⟩ := turnOk_inv hok
  obtain ⟨rfl, rfl⟩ := hp1 hok1
  have hsix := MM.ok_six hok1
  have hst := Cht.ok_st hok2
  have hgo : c.Go k.on.length := by
    have := Cht.ok_Go hok2
    rwa [show c.steps.toNat = k.on.length by omega] at this
  have hs6 := istep_six (c := c) (k := k) hsix
  refine n_ ?_
  refine wpM_regionK [6,7,8,10] rfl fun Q1 hQ1 => ?_
  refine S_ ?_
  refine call_fn (l := mobj (B + 5) m) (first := []) (cap := []) (ps := [.agg c.cs, .agg k.cs, .ptr (B + 5) 0]) (istepT_ok c k m (B + 5) hsix hc hok4 hgo (by omega) (Cht.ok_fine hok2)) Tryz.call75 rfl rfl rfl G_ T_ ?_
  rintro out ⟨xk, yk, ⟨⟩, rfl⟩
  refine S_ ?_
  refine hQ1 _ _ (S_ ?_);clear hQ1 Q1
  generalize hS : istep c k m = S at *
  refine n_ ?_
  refine dr_ mixed [6,7] 3 4 [B + 8, B + 5, B + 3, B + 4, B + 9, B + 10, B + 11] [⟨[10],[0],[],[],false⟩,⟨[8],[],[],[],false⟩,⟨[27],[1],[],[4,5,6],true⟩,⟨[6,26],[2],[2],[],false⟩,⟨[7,28],[3],[3],[],false⟩] [0,1,2,3,4] [[],[],[1],[0,1,2],[0,1,2,3]] 7 ?_
  intro O A K hO hA hK;simp only [atL_cons,atL_nil,Nat.reduceAdd,Nat.zero_add] at hO hA
  refine SO_ ?_
  refine loud_fn (first := []) (cap := []) (ps := [.ptr (B + 5) 0]) (l := mobj (B + 5) S.2) (mem_ok S.2 hs6 (B + 5)) Tryz.call76 rfl rfl F_ (subG_spec T_) rfl ?_
  rintro out ⟨x2, y2, z2, ⟨⟩, rfl⟩
  refine ⟨rfl, ?_⟩
  refine SO_ ?_
  refine hK _ (S_ ?_);clear hK K hO hA O A
  refine wpM_ret ?_
  try refine S_ ?_
  rw [hcs] at hQ
  refine hQ _ _ (retOwnW (M := B + 12) (wAA_ok 2) (S.1.ol (B + 6) (B + 7) ++ S.2.ol (B + 9) (B + 10) (B + 11)) (cs := S.1.oc (B + 6) (B + 7) ++ S.2.oc (B + 9) (B + 10) (B + 11)) ((own_mrk S.1 _ _).app (own_mem S.2 _ _ _)) rfl rfl rfl ?_ (by rw [hns]; rfl) ?_ (fun q hq => ?_) (by simp [ksL, MM.ol, Mrk.ol] <;> omega))
  · simp only [wAA, Mrk.oc, MM.oc, List.take, List.drop, List.cons_append, List.nil_append, hs6.i, hs6.o, hs6.v]
    exact (by rw [Tryz.results34] <;> simp (maxSteps := 1000000) -implicitDefEqProofs (disch := omega) only [go_sem] <;> rfl)
  · simp [inR_cons, inR_nil] <;> omega
  · simp only [MM.ol, Mrk.ol, List.cons_append, List.nil_append, List.mem_cons, List.not_mem_nil, or_false] at hq ⊢
    rcases hq with rfl | rfl | rfl | rfl | rfl <;> simp
end Go.Proofs.YtnmfmeehmieifaaGreat
namespace Go.Proofs.YtnmfmeehmieifaaGreat
open Go Sg
set_option maxRecDepth 100000
set_option linter.unusedSimpArgs false
set_option linter.unusedVariables false
set_option linter.unusedSectionVars false
set_option maxHeartbeats 4000000
variable [Glob]
def mkT (k : Int) (t : Trn) : Trn := ⟨mkI k t.fr.length, mkI (k + t.fr.length) t.to'.length, Ex.mk' (k + t.fr.length + t.to'.length) t.w⟩
def tk (t : Trn) : Nat := t.fr.length + t.to'.length + 4 * t.w.sz
theorem tk_le (l : List Trn) : (l.map tk).sum ≤ 4 * (l.length + (l.map tz).sum) := by
  induction l with
  | nil => simp
  | cons t l ih =>
    simp only [List.map_cons, List.sum_cons, List.length_cons]
    have h1 : tk t = t.fr.length + t.to'.length + 4 * t.w.sz := rfl
    have h2 : tz t = t.fr.length + t.to'.length + Ex.szL t.w.kids := rfl
    have h3 := t.w.sz_eq
    omega
theorem markTransS_ok (l : List Trn) (hl : l.length + (l.map tz).sum ≤ 1048576) (x : Nat) (T : List (Nat × AObj)) (k : Int) (hO : Owns Tryz.prog [.sl 154 x 0 l.length] [.rows 154 (rowsT l)] T) (hnd : (ksL T).Nodup) (hk0 : 0 ≤ k) (hk1 : k ≤ 1000000000) :
    CallF Tryz.prog 69 [.sl 154 x 0 l.length, .int .i64 k] T 0 (SetR Tryz.prog [.sl 154 x 0 l.length] (k + ((l.map tk).sum : Nat)) [.rows 154 (rowsT (mkG mkT tk k l))] T) := by
  have htk := tk_le l
  obtain ⟨x', c0, T0, cs', T', hx, rfl, h0, h1, _, _⟩ := hO.rows
  obtain rfl : x = x' := by injection hx with hx _; injection hx
  obtain ⟨rfl, rfl⟩ := h1.none
  rw [List.append_nil] at hO hnd ⊢
  have hnd0 : x ∉ ksL T0 ∧ (ksL T0).Nodup := by simpa [ksL] using hnd
  refine callF_of' Tryz.func69 rfl Tryz.ntmps69 (by simp) ?_
  intro f0 B ns Q hB hns hQ
  obtain rfl : ns = [] := List.eq_nil_of_length_eq_zero hns
  have hkB : ∀ j, j ∈ x :: ksL T0 → j < B := fun j hj => hB j (by rw [hasKey]; exact lk_some_of (by simpa [ksL] using hj))
  refine g_ [0,1] ?_
  refine g_ [0,1,5] ?_
  refine n_ ?_
  refine wpM_loopS (fun s r s' => ∃ (i0 : Nat) (C c1 : List PV) (D T1 : List (Nat × AObj)), i0 + r = l.length ∧ Owns Tryz.prog C ((mkG mkT tk k (l.take i0)).map Trn.cs).flatten D ∧ Owns Tryz.prog c1 ((l.drop i0).map Trn.cs).flatten T1 ∧ ksL D ++ ksL T1 = ksL T0 ∧ s' = { s with env := setE 5 (.int .i64 (i0 : Nat)) (setE 1 (.int .i64 (k + (((l.take i0).map tk).sum : Nat))) s.env), l := (x, .cells 154 (C ++ c1)) :: (D ++ T1) }) (l.length) ?_ ?_
  ·
    refine .of' _ _ ⟨0, [], c0, [], T0, by omega, .nil, h0, rfl, rfl⟩ ?_ ?_ ?_
    · simp; exact L_
    · exact subL_of hnd (fun p hp => hp)
    · exact keepB_of (fun p hp => .inr (.inr (ksL_mem hp)))
  rintro r s' ⟨i0, C, c1, D, T1, hir, hC, hD, hks, rfl⟩
  try refine S_ ?_
  refine g_ [0,1,5,9] ?_
  refine c_ (fun hc0 => ?_) fun hc0 => ?_
  ·
    have hl0 : i0 < l.length := by omega
    have hCl : C.length = i0 * 7 := by
      have := flat_len Trn.cs trn_len (mkG mkT tk k (l.take i0))
      rw [hC.len, this, mkG_len, List.length_take]; omega
    obtain ⟨ce, c2, Te, T2, rfl, rfl, hE, hD2⟩ := hD.elem hl0
    obtain ⟨y1, y2, z, T3, rfl, rfl, hE2⟩ := own_trn hE
    have hst := sum_take tk l i0 hl0
    have hsl := sum_le tk l (i0 + 1)
    have hsz := Ex.sz_eq (l.getD i0 default).w
    have htg := sum_get tz l i0 hl0
    have htz : tz (l.getD i0 default) = (l.getD i0 default).fr.length + (l.getD i0 default).to'.length + Ex.szL (l.getD i0 default).w.kids := rfl
    have htkg : tk (l.getD i0 default) = (l.getD i0 default).fr.length + (l.getD i0 default).to'.length + 4 * (l.getD i0 default).w.sz := rfl
    have hks2 : ksL D ++ (y1 :: y2 :: (ksL T3 ++ ksL T2)) = ksL T0 := by rw [← hks]; simp [ksL]
    have hnd2 : (x :: (ksL D ++ (y1 :: y2 :: (ksL T3 ++ ksL T2)))).Nodup := by rw [hks2]; exact List.nodup_cons.2 hnd0
    have hnd3 : (ksL T3).Nodup := by
      refine hnd2.sublist (List.Sublist.cons _ ?_)
      exact ((List.sublist_append_left _ _).trans ((List.sublist_cons_self _ _).trans (List.sublist_cons_self _ _))).trans (List.sublist_append_right _ _)
    obtain ⟨K, hK⟩ : ∃ K : Int, K = k + (((l.take i0).map tk).sum : Nat) := ⟨_, rfl⟩
    rw [← hK]
    generalize ht : l.getD i0 default = t at *
    refine n_ ?_
    refine wpM_regionK [0,1,5] rfl fun Q1 hQ1 => ?_
    simp -implicitDefEqProofs (disch := omega) only [go_sem, ld0, in7]
    refine call_set (ps := [.sl 3 y1 0 t.fr.length, .int .i64 K]) ((x, _) :: D) ((y2, _) :: (T3 ++ T2)) (markIntS_ok y1 t.fr (by omega) K (by omega) (by omega)) Tryz.call31 rfl rfl rfl F_ rfl (by simpa [ksL] using hnd2) ?_
    intro T' hO' hksT
    obtain rfl := own_intsX hO'
    simp -implicitDefEqProofs (disch := omega) only [go_sem, ld0, in7]
    refine hQ1 _ _ (S_ ?_);clear hQ1 Q1
    refine n_ ?_
    refine wpM_regionK [0,1,5] rfl fun Q1 hQ1 => ?_
    simp -implicitDefEqProofs (disch := omega) only [go_sem, ld1, in7, List.append_assoc]
    refine call_set (ps := [.sl 3 y2 0 t.to'.length, .int .i64 (K + t.fr.length)]) ((x, _) :: (D ++ [(y1, _)])) (T3 ++ T2) (markIntS_ok y2 t.to' (by omega) (K + t.fr.length) (by omega) (by omega)) Tryz.call31 rfl rfl rfl F_ (congrArg (List.cons _) (List.append_assoc D [_] _).symm) (by simpa [ksL] using hnd2) ?_
    intro T' hO' hksT
    obtain rfl := own_intsX hO'
    simp -implicitDefEqProofs (disch := omega) only [go_sem, ld1, in7, List.append_assoc]
    refine hQ1 _ _ (S_ ?_);clear hQ1 Q1
    refine n_ ?_
    refine wpM_regionK [0,1,5] rfl fun Q1 hQ1 => ?_
    simp -implicitDefEqProofs (disch := omega) only [go_sem, sp2, sp3, sp4, sp5, ld6, in7, List.append_assoc]
    refine hQ1 _ _ (S_ ?_);clear hQ1 Q1
    refine g_ [0,1,5] ?_
    refine n_ ?_
    refine wpM_regionK [0,1,5] rfl fun Q1 hQ1 => ?_
    simp -implicitDefEqProofs (disch := omega) only [go_sem, sp2, sp3, sp4, sp5, ld6, in7, List.append_assoc]
    refine hQ1 _ _ (S_ ?_);clear hQ1 Q1
    refine g_ [0,1,5] ?_
    refine n_ ?_
    refine wpM_regionK [0,1,5] rfl fun Q1 hQ1 => ?_
    simp -implicitDefEqProofs (disch := omega) only [go_sem, sp2, sp3, sp4, sp5, ld6, in7, List.append_assoc]
    refine hQ1 _ _ (S_ ?_);clear hQ1 Q1
    refine g_ [0,1,5] ?_
    refine n_ ?_
    refine wpM_regionK [0,1,5] rfl fun Q1 hQ1 => ?_
    simp -implicitDefEqProofs (disch := omega) only [go_sem, sp2, sp3, sp4, sp5, ld6, in7, List.append_assoc]
    refine hQ1 _ _ (S_ ?_);clear hQ1 Q1
    refine g_ [0,1,5] ?_
    refine wpM_regionK [0,1,5] rfl fun Q1 hQ1 => ?_
    simp -implicitDefEqProofs (disch := omega) only [go_sem, sp2, sp3, sp4, sp5, ld6, in7, List.append_assoc]
    refine call_set (ps := [.sl 77 z 0 t.w.kids.length, .int .i64 (K + t.fr.length + t.to'.length + 1 + 1 + 1 + 1)]) ((x, _) :: (D ++ [(y1, _), (y2, _)])) T2 (markExprS_ok _ t.w.kids (Nat.le_refl _) (by omega) z T3 (K + t.fr.length + t.to'.length + 1 + 1 + 1 + 1) hE2 hnd3 (by omega) (by omega)) Tryz.call46 rfl rfl rfl F_ (congrArg (List.cons _) (List.append_assoc D [_, _] _).symm) (by simpa [ksL] using hnd2) ?_
    intro T' hO' hksT
    simp -implicitDefEqProofs (disch := omega) only [go_sem, sp2, sp3, sp4, sp5, ld6, in7, List.append_assoc]
    refine hQ1 _ _ (S_ ?_);clear hQ1 Q1
    refine g_ [0,1,5] ?_
    have hcat : K + t.fr.length + t.to'.length + 1 + 1 + 1 + 1 + 4 * (Ex.szL t.w.kids : Nat) = k + (((l.take (i0 + 1)).map tk).sum : Nat) := by omega
    have hE3 : Owns Tryz.prog [.sl 3 y1 0 t.fr.length, .sl 3 y2 0 t.to'.length, .int .i64 (K + t.fr.length + t.to'.length), .int .i64 (K + t.fr.length + t.to'.length + 1), .int .i64 (K + t.fr.length + t.to'.length + 1 + 1), .int .i64 (K + t.fr.length + t.to'.length + 1 + 1 + 1), .sl 77 z 0 t.w.kids.length] (mkT K t).cs ((y1, .cells 3 (ints (mkI K t.fr.length))) :: (y2, .cells 3 (ints (mkI (K + t.fr.length) t.to'.length))) :: T') := by
      have g1 := own_ints y1 (mkI K t.fr.length)
      have g2 := own_ints y2 (mkI (K + t.fr.length) t.to'.length)
      rw [mkI_len] at g1 g2
      have g3 := g1.app (g2.app (Owns.lits [.int .i64 (K + t.fr.length + t.to'.length), .int .i64 (K + t.fr.length + t.to'.length + 1), .int .i64 (K + t.fr.length + t.to'.length + 1 + 1), .int .i64 (K + t.fr.length + t.to'.length + 1 + 1 + 1)] rfl hO'))
      rw [Trn.cs_eq]
      unfold mkT
      simp only [Ex.mk_eq, Ex.kind, Ex.n, Ex.a, Ex.kids]
      exact g3
    have hC3 := hC.snocL hE3
    rw [hK, ← ht, ← mkG_take mkT tk l i0 hl0 k] at hC3
    rw [← hK, ht] at hC3
    have hks3 : ksL (D ++ (y1, .cells 3 (ints (mkI K t.fr.length))) :: (y2, .cells 3 (ints (mkI (K + t.fr.length) t.to'.length))) :: T') ++ ksL T2 = ksL T0 := by rw [← hks2, ← hksT]; simp [ksL]
    have hndl : ∀ (o : AObj) (T1 : List (Nat × AObj)), ksL T1 = ksL T0 → (ksL ((x, o) :: T1)).Nodup := by
      intro o T1 h
      show (x :: ksL T1).Nodup
      rw [h]; exact List.nodup_cons.2 hnd0
    rw [hcat]
    refine .of' _ _ ⟨r - 1, by omega, i0 + 1, _, c2, _, T2, by omega, hC3, hD2, hks3, rfl⟩ ?_ ?_ ?_
    · exact L_
    · refine subL_of (hndl _ _ (by rw [← hks3]; simp [ksL])) (fun p hp => ?_)
      simpa using hp
    · refine keepB_of (fun p hp => .inr (.inr (ksL_mem ?_)))
      simpa using hp
  refine g_ [4] ?_
  refine wpM_ret ?_
  try refine S_ ?_
  obtain rfl : i0 = l.length := by omega
  rw [List.drop_length] at hD
  obtain ⟨rfl, rfl⟩ := Owns.none hD
  rw [List.take_of_length_le (Nat.le_refl _)] at hC ⊢
  have hks' : ksL D = ksL T0 := by simpa [ksL] using hks
  have hnd' : (ksL ((x, AObj.cells 154 (C ++ [])) :: (D ++ []))).Nodup := by
    rw [List.append_nil D]
    show (x :: ksL D).Nodup
    rw [hks']; exact List.nodup_cons.2 hnd0
  refine hQ _ _ (retSet (T' := (x, .cells 154 (C ++ [])) :: (D ++ [])) rfl ?_ ?_ rfl rfl rfl (by rw [Tryz.results69] <;> simp (maxSteps := 1000000) -implicitDefEqProofs (disch := omega) only [go_sem] <;> rfl) (fun q hq => by simp only [MS.f, lk_nd hnd' hq]) (keysIn_of fun p hp => .inr ?_))
  · refine ownsSl x l.length (by simp [rowsT, mkG_len]) (by rw [cellsOf154]; decide) (fun y hy => ?_) (by show Owns _ _ ((mkG mkT tk k l).map Trn.cs).flatten _; simpa using hC)
    obtain ⟨e, _, rfl⟩ := List.mem_map.1 hy
    rw [cellsOf154]; exact ⟨trn_len e, trn_pureL e⟩
  · show x :: ksL (D ++ []) = x :: ksL T0; rw [List.append_nil D, hks']
  · have := ksL_mem hp
    rw [List.append_nil D] at this
    change p.1 ∈ x :: ksL D at this
    rw [hks'] at this; exact this
def mkC (k : Int) (c : Cht) : Cht := ⟨c.steps, mkG mkT tk k c.ts, mkG mkA (fun _ => 4) (k + ((c.ts.map tk).sum : Nat)) c.as'⟩
def ck (c : Cht) : Nat := (c.ts.map tk).sum + 4 * c.as'.length
theorem own_actsX {x n : Nat} {l : List GAct} {T : List (Nat × AObj)} (h : Owns Tryz.prog [.sl 158 x 0 n] [.rows 158 (rowsA l)] T) : T = [(x, .cells 158 ((l.map GAct.cs).flatten))] := by
  obtain ⟨id, h1, rfl⟩ := own_actsI h
  injection h1 with h1 _
  injection h1 with _ h1 _ _
  rw [h1]
theorem markChart_ok (c : Cht) (hc : cz c ≤ 1048576) (cs : List PV) (T : List (Nat × AObj)) (hO : Owns Tryz.prog cs c.cs T) (hnd : (ksL T).Nodup) (k : Int) (hk0 : 0 ≤ k) (hk1 : k ≤ 100000000) : CallF Tryz.prog 28 [.agg cs, .int .i64 k] T 0 (SetR Tryz.prog cs (k + ck c) (mkC k c).cs T) := by
  have e1 : cz c = c.ts.length + (c.ts.map tz).sum + c.as'.length := rfl
  have htk := tk_le c.ts
  have hck : (k + ck c : Int) = k + ((c.ts.map tk).sum : Nat) + 4 * (c.as'.length : Nat) := by unfold ck; push_cast; omega
  obtain ⟨x, y, T1, rfl, rfl, hO1⟩ := own_cht hO
  have hnd1 : (ksL T1 ++ [y]).Nodup := by simpa [ksL] using hnd
  refine callF_of' Tryz.func28 rfl Tryz.ntmps28 (by simp) ?_
  intro f0 B ns Q hB hns hQ
  obtain rfl : ns = [] := List.eq_nil_of_length_eq_zero hns
  have hkB : ∀ j, j ∈ ksL T1 ++ [y] → j < B := fun j hj => hB j (by rw [hasKey]; exact lk_some_of (by simpa [ksL] using hj))
  have hndB : (B :: (ksL T1 ++ [y])).Nodup := List.nodup_cons.2 ⟨fun h => by have := hkB _ h; omega, hnd1⟩
  refine g_ [1,2] ?_
  refine n_ ?_
  refine wpM_regionK [1,2] rfl fun Q1 hQ1 => ?_
  refine S_ ?_
  refine call_set (ps := [.sl 154 x 0 c.ts.length, .int .i64 k]) [(B, _)] [(y, _)] (markTransS_ok c.ts (by omega) x T1 k hO1 (List.nodup_append.1 hnd1).1 hk0 (by omega)) Tryz.call69 rfl rfl rfl F_ rfl (by simpa [ksL] using hndB) ?_
  intro T' hO' hksT
  refine S_ ?_
  refine hQ1 _ _ (S_ ?_);clear hQ1 Q1
  refine n_ ?_
  refine wpM_regionK [1] rfl fun Q1 hQ1 => ?_
  refine S_ ?_
  refine call_set (ps := [.sl 158 y 0 c.as'.length, .int .i64 (k + ((c.ts.map tk).sum : Nat))]) ((B, _) :: T') [] (markActS_ok y c.as' (by omega) (k + ((c.ts.map tk).sum : Nat)) (by omega) (by omega)) Tryz.call70 rfl rfl rfl F_ rfl (by simp only [ksL, List.map_cons, List.map_append, List.map_nil] at hndB hksT ⊢; rw [hksT]; exact hndB) ?_
  intro T2 hO2 hks2
  obtain rfl := own_actsX hO2
  refine S_ ?_
  refine hQ1 _ _ (S_ ?_);clear hQ1 Q1
  refine g_ [4] ?_
  refine wpM_ret ?_
  try refine S_ ?_
  have hO3 : Owns Tryz.prog [.int .i64 c.steps, .sl 154 x 0 c.ts.length, .sl 158 y 0 c.as'.length] (mkC k c).cs (T' ++ [(y, .cells 158 (((mkG mkA (fun _ => 4) (k + ((c.ts.map tk).sum : Nat)) c.as').map GAct.cs).flatten))]) := .sc _ _ _ _ rfl (hO'.app hO2)
  have hndT : (ksL ((B, AObj.cells 48 [.int .i64 c.steps, .sl 154 x 0 c.ts.length, .sl 158 y 0 c.as'.length]) :: (T' ++ [(y, .cells 158 (((mkG mkA (fun _ => 4) (k + ((c.ts.map tk).sum : Nat)) c.as').map GAct.cs).flatten))]))).Nodup := by
    simp only [ksL, List.map_cons, List.map_append, List.map_nil] at hndB hksT ⊢
    rw [hksT]; exact hndB
  refine hQ _ _ (retSet rfl hO3 (by rw [ksL_app, ksL_app, hksT]; rfl) rfl rfl rfl (by rw [hck]; exact (by rw [Tryz.results28] <;> simp (maxSteps := 1000000) -implicitDefEqProofs (disch := omega) only [go_sem] <;> rfl)) (fun q hq => ?_) (keysIn_of fun p hp => ?_))
  · simp only [MS.f, lk_nd hndT (List.mem_cons_of_mem _ hq)]
  · simp only [List.mem_cons] at hp
    rcases hp with rfl | hp
    · exact .inl (Nat.le_refl _)
    · right
      have := ksL_mem hp
      rw [ksL_app, hksT] at this
      rw [ksL_app]; exact this
end Go.Proofs.YtnmfmeehmieifaaGreat
