/- A part of a proof: lemmas and contracts of functions; the last text of the claim says what is proved. -/
import Derived.Test.YtnmfmeehmieifaaGreatX404ec85d8e
set_option linter.unusedSectionVars false
set_option linter.unusedSimpArgs false
set_option linter.unusedVariables false
namespace Go.Proofs.YtnmfmeehmieifaaGreat
open Go Sg
set_option maxRecDepth 100000
set_option linter.unusedSimpArgs false
set_option linter.unusedVariables false
set_option linter.unusedSectionVars false
set_option maxHeartbeats 4000000
variable [Glob]
theorem Ex.ext' {a b : Ex} (h1 : a.kind = b.kind) (h2 : a.n = b.n) (h3 : a.a = b.a) (h4 : a.kids = b.kids) : a = b := by
  cases a; cases b
  simp only [Ex.kind, Ex.n, Ex.a, Ex.kids] at h1 h2 h3 h4
  subst h1; subst h2; subst h3; subst h4; rfl
open Classical in
noncomputable def same {α : Type} (a b : α) : Bool := decide (a = b)
theorem same_iff {α : Type} {a b : α} : same a b = true ↔ a = b := by simp [same]
theorem same_no {α : Type} {a b : α} (h : a ≠ b) : same a b = false := by simp [same, h]
theorem same_self {α : Type} (a : α) : same a a = true := by simp [same]
theorem range_ext {α : Type} [Inhabited α] {a b : List α} (h : a.length = b.length) (p : α → α → Bool) (hp : ∀ i, i < a.length → p (a.getD i default) (b.getD i default) = same (a.getD i default) (b.getD i default)) : (List.range a.length).all (fun i => p (a.getD i default) (b.getD i default)) = same a b := by
  by_cases hab : a = b
  · subst hab
    rw [same_self, List.all_eq_true]
    intro i hi
    rw [hp i (List.mem_range.1 hi), same_self]
  · rw [same_no hab, Bool.eq_false_iff]
    intro hall
    rw [List.all_eq_true] at hall
    refine hab (List.ext_getElem h fun i h1 h2 => ?_)
    have := hall i (List.mem_range.2 h1)
    rw [hp i h1, same_iff] at this
    simpa [List.getD, h1, h2] using this
theorem same_ex (a b : Ex) : (a.kind == b.kind && a.n == b.n && (a.a.kind == b.a.kind && a.a.at' == b.a.at') && (a.kids.length == b.kids.length && (List.range a.kids.length).all fun i => same (a.kids.getD i default) (b.kids.getD i default))) = same a b := by
  by_cases hl : a.kids.length = b.kids.length
  · rw [range_ext hl same fun _ _ => rfl, Bool.eq_iff_iff]
    simp only [Bool.and_eq_true, beq_iff_eq, same_iff]
    constructor
    · rintro ⟨⟨⟨h1, h2⟩, h3, h4⟩, _, h5⟩
      refine Ex.ext' h1 h2 ?_ h5
      cases hx : a.a; cases hy : b.a
      rw [hx, hy] at h3 h4
      simp only at h3 h4
      rw [h3, h4]
    · rintro rfl
      simp
  · rw [same_no (fun h => hl (by rw [h]))]
    have : (a.kids.length == b.kids.length) = false := by simpa using hl
    rw [this]; simp
end Go.Proofs.YtnmfmeehmieifaaGreat
namespace Go.Proofs.YtnmfmeehmieifaaGreat
open Go Sg
set_option maxRecDepth 100000
set_option linter.unusedSimpArgs false
set_option linter.unusedVariables false
set_option linter.unusedSectionVars false
set_option maxHeartbeats 4000000
variable [Glob]
end Go.Proofs.YtnmfmeehmieifaaGreat
namespace Go.Proofs.YtnmfmeehmieifaaGreat
open Go Sg
set_option linter.unusedSectionVars false
variable [Glob]
set_option maxRecDepth 100000
set_option linter.unusedSimpArgs false
set_option linter.unusedVariables false
set_option maxHeartbeats 4000000
end Go.Proofs.YtnmfmeehmieifaaGreat
namespace Go.Proofs.YtnmfmeehmieifaaGreat
open Go Sg
set_option maxRecDepth 100000
set_option linter.unusedSimpArgs false
set_option linter.unusedVariables false
set_option linter.unusedSectionVars false
set_option maxHeartbeats 4000000
variable [Glob]
theorem eqI_same (a b : List Int) : eqI a b = same a b := by
  unfold eqI
  by_cases h : a.length = b.length
  · rw [if_neg (by simp [h])]
    refine range_ext h (fun x y => !(x != y)) fun i hi => ?_
    by_cases hx : a.getD i 0 = b.getD i 0
    · show (!(a.getD i 0 != b.getD i 0)) = same (a.getD i 0) (b.getD i 0)
      rw [hx, same_self]; simp
    · show (!(a.getD i 0 != b.getD i 0)) = same (a.getD i 0) (b.getD i 0)
      rw [same_no hx]; simpa using hx
  · rw [if_pos (by simpa using (by omega : ¬ (a.length : Int) = b.length)), same_no (fun e => h (by rw [e]))]
theorem same_tr (t u : Trn) : (same t.fr u.fr && same t.to' u.to' && same t.w u.w) = same t u := by
  rw [Bool.eq_iff_iff]
  simp only [Bool.and_eq_true, same_iff]
  constructor
  · rintro ⟨⟨h1, h2⟩, h3⟩
    cases t; cases u
    simp only at h1 h2 h3
    rw [h1, h2, h3]
  · rintro rfl; simp
def eqAcB (x y : GAct) : Bool := x.kind == y.kind && x.step == y.step && x.to'.kind == y.to'.kind && x.to'.at' == y.to'.at'
theorem eqAcB_same (x y : GAct) : eqAcB x y = same x y := by
  rw [Bool.eq_iff_iff, same_iff]
  obtain ⟨a, b, ⟨c, d⟩⟩ := x
  obtain ⟨a', b', ⟨c', d'⟩⟩ := y
  simp [eqAcB, and_assoc]
theorem same_ch (a b : Cht) : (a.steps == b.steps && same a.ts b.ts && same a.as' b.as') = same a b := by
  rw [Bool.eq_iff_iff]
  simp only [Bool.and_eq_true, beq_iff_eq, same_iff]
  constructor
  · rintro ⟨⟨h1, h2⟩, h3⟩
    cases a; cases b
    simp only at h1 h2 h3
    rw [h1, h2, h3]
  · rintro rfl; simp
theorem len_same {α : Type} [Inhabited α] (a b : List α) : (a.length == b.length && (List.range a.length).all fun i => same (a.getD i default) (b.getD i default)) = same a b := by
  by_cases h : a.length = b.length
  · rw [range_ext h same fun _ _ => rfl]; simp [h]
  · rw [same_no (fun e => h (by rw [e]))]
    have : (a.length == b.length) = false := by simpa using h
    rw [this]; rfl
end Go.Proofs.YtnmfmeehmieifaaGreat
namespace Go.Proofs.YtnmfmeehmieifaaGreat
open Go Sg
set_option linter.unusedSectionVars false
variable [Glob]
set_option maxRecDepth 100000
set_option linter.unusedSimpArgs false
set_option linter.unusedVariables false
set_option maxHeartbeats 4000000
inductive Sm where
  | mk (kind : Int) (to' : AD) (e : Ex) (th el : List Sm)
  deriving Inhabited
def Sm.kind : Sm → Int | .mk k _ _ _ _ => k
def Sm.to' : Sm → AD | .mk _ a _ _ _ => a
def Sm.e : Sm → Ex | .mk _ _ e _ _ => e
def Sm.th : Sm → List Sm | .mk _ _ _ l _ => l
def Sm.el : Sm → List Sm | .mk _ _ _ _ l => l
mutual
def Sm.cs : Sm → List PV
  | .mk k a e th el => [.int .i64 k, .int .i64 a.kind, .int .i64 a.at', .int .i64 e.kind, .int .i64 e.n, .int .i64 e.a.kind, .int .i64 e.a.at', .rows 77 (Ex.csL e.kids), .rows 79 (Sm.csL th), .rows 79 (Sm.csL el)]
def Sm.csL : List Sm → List (List PV)
  | [] => []
  | s :: l => s.cs :: Sm.csL l
end
mutual
def Sm.sz : Sm → Nat | .mk _ _ e th el => 1 + e.sz + Sm.szL th + Sm.szL el
def Sm.szL : List Sm → Nat | [] => 0 | s :: l => s.sz + Sm.szL l
end
@[go_sem] theorem Sm.cs_eq (s : Sm) : s.cs = [.int .i64 s.kind, .int .i64 s.to'.kind, .int .i64 s.to'.at', .int .i64 s.e.kind, .int .i64 s.e.n, .int .i64 s.e.a.kind, .int .i64 s.e.a.at', .rows 77 (Ex.csL s.e.kids), .rows 79 (Sm.csL s.th), .rows 79 (Sm.csL s.el)] := by cases s; simp only [Sm.cs, Sm.kind, Sm.to', Sm.e, Sm.th, Sm.el]
theorem Sm.csL_map (l : List Sm) : Sm.csL l = l.map Sm.cs := by
  induction l with
  | nil => rfl
  | cons e l ih => simp [Sm.csL, ih]
@[go_sem] theorem Sm.csL_len (l : List Sm) : (Sm.csL l).length = l.length := by simp [Sm.csL_map]
@[go_sem] theorem Sm.csL_get (l : List Sm) (k : Nat) (h : k < l.length) : (Sm.csL l).getD k [] = (l.getD k default).cs := by simp [Sm.csL_map, List.getD, h]
theorem Sm.sz_eq (s : Sm) : s.sz = 1 + s.e.sz + Sm.szL s.th + Sm.szL s.el := by cases s; simp only [Sm.sz, Sm.e, Sm.th, Sm.el]
theorem Sm.len_szL (l : List Sm) : l.length ≤ Sm.szL l := by
  induction l with
  | nil => simp
  | cons s l ih => simp only [List.length_cons, Sm.szL]; have := s.sz_eq; omega
theorem Sm.get_szL (l : List Sm) (k : Nat) (h : k < l.length) : (l.getD k default).sz ≤ Sm.szL l := by
  induction l generalizing k with
  | nil => simp at h
  | cons e l ih =>
    simp only [Sm.szL]
    cases k with
    | zero => simp
    | succ k =>
      have := ih k (by simpa using h)
      simp only [List.getD_cons_succ]; omega
end Go.Proofs.YtnmfmeehmieifaaGreat
