/- A part of a proof: lemmas and contracts of functions; the last text of the claim says what is proved. -/
import Derived.Test.YtmicbfojofcigaaGreatDoorXe34f882392
set_option linter.unusedSectionVars false
set_option linter.unusedSimpArgs false
set_option linter.unusedVariables false
namespace Go.Proofs.YtmicbfojofcigaaGreatDoor
open Go Sg
set_option linter.unusedSectionVars false
variable [Glob]
set_option maxRecDepth 100000
set_option linter.unusedSimpArgs false
set_option linter.unusedVariables false
set_option maxHeartbeats 4000000
inductive Sm where
  | mk (kind : Int) (to' : AD) (e : Ex) (th el : List Sm)
  deriving Inhabited
def Sm.kind : Sm → Int | .mk k _ _ _ _ => k
def Sm.to' : Sm → AD | .mk _ a _ _ _ => a
def Sm.e : Sm → Ex | .mk _ _ e _ _ => e
def Sm.th : Sm → List Sm | .mk _ _ _ l _ => l
def Sm.el : Sm → List Sm | .mk _ _ _ _ l => l
mutual
def Sm.cs : Sm → List PV
  | .mk k a e th el => [.int .i64 k, .int .i64 a.kind, .int .i64 a.at', .int .i64 e.kind, .int .i64 e.n, .int .i64 e.a.kind, .int .i64 e.a.at', .rows 50 (Ex.csL e.kids), .rows 52 (Sm.csL th), .rows 52 (Sm.csL el)]
def Sm.csL : List Sm → List (List PV)
  | [] => []
  | s :: l => s.cs :: Sm.csL l
end
mutual
def Sm.sz : Sm → Nat | .mk _ _ e th el => 1 + e.sz + Sm.szL th + Sm.szL el
def Sm.szL : List Sm → Nat | [] => 0 | s :: l => s.sz + Sm.szL l
end
@[go_sem] theorem Sm.cs_eq (s : Sm) : s.cs = [.int .i64 s.kind, .int .i64 s.to'.kind, .int .i64 s.to'.at', .int .i64 s.e.kind, .int .i64 s.e.n, .int .i64 s.e.a.kind, .int .i64 s.e.a.at', .rows 50 (Ex.csL s.e.kids), .rows 52 (Sm.csL s.th), .rows 52 (Sm.csL s.el)] := by cases s; simp only [Sm.cs, Sm.kind, Sm.to', Sm.e, Sm.th, Sm.el]
theorem Sm.csL_map (l : List Sm) : Sm.csL l = l.map Sm.cs := by
  induction l with
  | nil => rfl
  | cons e l ih => simp [Sm.csL, ih]
@[go_sem] theorem Sm.csL_len (l : List Sm) : (Sm.csL l).length = l.length := by simp [Sm.csL_map]
@[go_sem] theorem Sm.csL_get (l : List Sm) (k : Nat) (h : k < l.length) : (Sm.csL l).getD k [] = (l.getD k default).cs := by simp [Sm.csL_map, List.getD, h]
theorem Sm.sz_eq (s : Sm) : s.sz = 1 + s.e.sz + Sm.szL s.th + Sm.szL s.el := by cases s; simp only [Sm.sz, Sm.e, Sm.th, Sm.el]
theorem Sm.len_szL (l : List Sm) : l.length ≤ Sm.szL l := by
  induction l with
  | nil => simp
  | cons s l ih => simp only [List.length_cons, Sm.szL]; have := s.sz_eq; omega
theorem Sm.get_szL (l : List Sm) (k : Nat) (h : k < l.length) : (l.getD k default).sz ≤ Sm.szL l := by
  induction l generalizing k with
  | nil => simp at h
  | cons e l ih =>
    simp only [Sm.szL]
    cases k with
    | zero => simp
    | succ k =>
      have := ih k (by simpa using h)
      simp only [List.getD_cons_succ]; omega
theorem Sm.get_in {l : List Sm} {k : Nat} (h : k < l.length) : (l.getD k default).e.sz + Sm.szL (l.getD k default).th + Sm.szL (l.getD k default).el < Sm.szL l := by
  have h1 := Sm.get_szL l k h
  have h2 := (l.getD k default).sz_eq
  omega
def manyS : Nat → List Sm → Nat
  | 0, l => l.length
  | d + 1, l => l.length + (l.map fun s => manyS d s.th + manyS d s.el).sum
theorem manyS_le (d : Nat) : ∀ l : List Sm, manyS d l ≤ Sm.szL l := by
  induction d with
  | zero => intro l; exact Sm.len_szL l
  | succ d ih =>
    intro l
    simp only [manyS]
    induction l with
    | nil => simp
    | cons s l ihl => simp only [List.length_cons, List.map_cons, List.sum_cons, Sm.szL]; have h1 := ih s.th; have h2 := ih s.el; have := s.sz_eq; omega
theorem l4Many_ok (d : Nat) : ∀ (l : List Sm) (deep : Int), deep.toNat = d → deep ≤ 1000000 → Sm.szL l ≤ 1099511627776 → PureF Tryz.prog 36 [.rows 52 (Sm.csL l), .int .i64 deep] [.int .i64 (manyS d l : Nat)] := by
  induction d with
  | zero =>
    intro l deep hd hdl hs
    have hlen := Sm.len_szL l
    refine pureF_of Tryz.func36 rfl Tryz.ntmps36 (by simp) T_ ?_
    intro f0 B Q hQ
    have hlt : decide (deep > 0) = false := by simp; omega
    refine g_ [0,1] ?_
    refine g_ [0,1,5] ?_
    refine g_ [0,1,5,6] ?_
    refine n_ ?_
    refine wpM_loopS (fun s n s' => s' = s) (0) ?_ ?_
    ·
      exact .here rfl
    rintro n s' rfl
    try refine S_ ?_
    refine gD_ [0,1,5,6,16] ?_
    refine c_ (fun hc0 => ?_) fun hc0 => ?_
    · simp [hlt] at hc0
    refine g_ [4] ?_
    refine e_ Tryz.results36 ?_
    first
    | exact True.intro
    | rfl
  | succ d ih =>
    intro l deep hd hdl hs
    have hlen := Sm.len_szL l
    refine pureF_of Tryz.func36 rfl Tryz.ntmps36 (by simp) T_ ?_
    intro f0 B Q hQ
    have hlt : decide (deep > 0) = true := by simp; omega
    have hmx := manyS_le (d + 1) l
    refine g_ [0,1] ?_
    refine g_ [0,1,5] ?_
    refine g_ [0,1,5,6] ?_
    refine n_ ?_
    refine wpM_loopS (fun s n s' => ∃ i M : Nat, i + n = l.length ∧ s.M ≤ M ∧ s' = { s with env := setE 6 (.int .i64 (i : Nat)) (setE 5 (.int .i64 ((l.length + ((l.take i).map fun s => manyS d s.th + manyS d s.el).sum : Nat) : Int)) s.env), M := M }) (l.length) ?_ ?_
    ·
      refine .of ⟨0, _, by omega, Nat.le_refl _, rfl⟩ ?_ ?_ ?_ rfl rfl (Nat.le_refl _) rfl <;> exact L_
    rintro n s' ⟨i, M, hi, hM, rfl⟩
    try refine S_ ?_
    refine n_ ?_
    refine wpM_regionK [0,1,5,6,16] rfl fun Q1 hQ1 => ?_
    simp (contextual := true) (maxSteps := 1000000) (implicitDefEqProofs := false) (disch := first | omega | (simp only [decide_eq_true_eq, decide_eq_false_iff_not, Bool.and_eq_true, Bool.or_eq_false_iff, Bool.not_eq_true'] at *; omega)) only [go_sem, hlt, Bool.and_true]
    refine hQ1 _ _ (S_ ?_);clear hQ1 Q1
    refine c_ (fun hc0 => ?_) fun hc0 => ?_
    ·
      have hi2 : i < l.length := by omega
      have hin := Sm.get_in hi2
      have hsum := take_sum (fun s : Sm => manyS d s.th + manyS d s.el) l i hi2
      have hle := take_sum_le (fun s : Sm => manyS d s.th + manyS d s.el) l (i + 1)
      simp only [manyS] at hmx
      rw [hsum] at hle
      refine n_ ?_
      refine dr_ mixed [0,1,5,6] 0 0 [] [⟨[5],[],[],[],false⟩,⟨[0],[],[],[],false⟩,⟨[6],[],[],[],false⟩,⟨[20,21],[],[],[],false⟩,⟨[22],[],[],[],false⟩,⟨[23],[],[],[],false⟩,⟨[1],[],[],[],false⟩,⟨[25],[],[],[],false⟩,⟨[24,26],[],[],[],true⟩,⟨[19,27],[],[],[],false⟩,⟨[0],[],[],[],false⟩,⟨[6],[],[],[],false⟩,⟨[29,30],[],[],[],false⟩,⟨[31],[],[],[],false⟩,⟨[32],[],[],[],false⟩,⟨[1],[],[],[],false⟩,⟨[34],[],[],[],false⟩,⟨[33,35],[],[],[],true⟩,⟨[28,36],[],[],[],false⟩,⟨[37],[],[],[],false⟩] [0,1,2,3,4,5,6,7,10,11,12,13,14,15,16,8,9,17,18,19] [[],[],[],[1,2],[1,2,3],[1,2,3,4],[],[6],[1,2,3,4,5,6,7],[0,1,2,3,4,5,6,7,8],[],[],[10,11],[10,11,12],[10,11,12,13],[],[15],[1,2,3,4,5,6,7,8,10,11,12,13,14,15,16],[0,1,2,3,4,5,6,7,8,9,10,11,12,13,14,15,16,17],[0,1,2,3,4,5,6,7,8,9,10,11,12,13,14,15,16,17,18]] 0 ?_
      intro O A K hO hA hK;simp only [atL_cons,atL_nil,Nat.reduceAdd,Nat.zero_add] at hO hA
      refine SO_ ?_
      refine lp_ (ih (l.getD i default).th (deep - 1) (by omega) (by omega) (by omega)) Tryz.call36 ?_
      refine lp_ (ih (l.getD i default).el (deep - 1) (by omega) (by omega) (by omega)) Tryz.call36 ?_
      refine hK _ (S_ ?_);clear hK K hO hA O A
      refine g_ [0,1,5,6] ?_
      refine .of ⟨n - 1, by omega, i + 1, M, by omega, hM, rfl⟩ ?_ ?_ ?_ rfl rfl (Nat.le_refl _) rfl
      · simp -implicitDefEqProofs (disch := omega) only [go_sem, PV.int.injEq]
        rw [hsum]
        constructor <;> omega
      all_goals exact L_
    refine g_ [4] ?_
    refine e_ Tryz.results36 ?_
    first
    | exact True.intro
    | have hie : i = l.length := by omega
      simp only [manyS]
      rw [hie, List.take_of_length_le (Nat.le_refl _)]
def Sm.plain (s : Sm) : Bool := if s.kind == 1 then s.to'.ok && s.to'.kind != 1 && (s.th.length : Int) == 0 && (s.el.length : Int) == 0
  else if s.kind == 2 then s.to'.kind == 0 && s.to'.at' == 0
  else if s.kind == 3 then s.to'.kind == 0 && s.to'.at' == 0 && (s.el.length : Int) == 0 else false
def formS : Nat → List Sm → Bool
  | 0, l => l.length == 0
  | d + 1, l => l.all fun s => s.plain && s.e.ok && formS d s.th && formS d s.el
theorem l4Form_ok (d : Nat) : ∀ (l : List Sm) (deep : Int), deep.toNat = d → deep ≤ 1000000 → Sm.szL l ≤ 1099511627776 → PureF Tryz.prog 37 [.rows 52 (Sm.csL l), .int .i64 deep] [.bool (formS d l)] := by
  induction d with
  | zero =>
    intro l deep hd hdl hs
    have hlen := Sm.len_szL l
    refine pureF_of Tryz.func37 rfl Tryz.ntmps37 (by simp) T_ ?_
    intro f0 B Q hQ
    have hlt : decide (deep < 1) = true := by simp; omega
    refine g_ [0,1] ?_
    refine n_ ?_
    refine wpM_regionK [0,1,14] rfl fun Q1 hQ1 => ?_
    simp (contextual := true) (maxSteps := 1000000) (implicitDefEqProofs := false) (disch := first | omega | (simp only [decide_eq_true_eq, decide_eq_false_iff_not, Bool.and_eq_true, Bool.or_eq_false_iff, Bool.not_eq_true'] at *; omega)) only [go_sem, hlt, Bool.and_true]
    refine hQ1 _ _ (S_ ?_);clear hQ1 Q1
    refine c_ (fun hc0 => ?_) fun hc0 => ?_
    ·
      refine g_ [4] ?_
      refine e_ Tryz.results37 ?_
      first
      | exact True.intro
      | first | rfl | (simp only [formS]; symm; rw [beq_eq_false_iff_ne]; omega)
    have hl0 : l = [] := by cases l with
      | nil => rfl
      | cons x y => simp at hc0
    subst hl0
    refine g_ [0,1,5] ?_
    refine n_ ?_
    refine wpM_loopS (fun s n s' => s' = s) (0) ?_ ?_
    ·
      exact .here rfl
    rintro n s' rfl
    try refine S_ ?_
    refine g_ [0,1,5,18] ?_
    refine c_ (fun hc1 => ?_) fun hc1 => ?_
    · simp at hc1
    refine g_ [4] ?_
    refine e_ Tryz.results37 ?_
    first
    | exact True.intro
    | first | rfl | (simp only [formS]; symm; rw [beq_eq_false_iff_ne]; omega)
  | succ d ih =>
    intro l deep hd hdl hs
    have hlen := Sm.len_szL l
    refine pureF_of Tryz.func37 rfl Tryz.ntmps37 (by simp) T_ ?_
    intro f0 B Q hQ
    have hlt : decide (deep < 1) = false := by simp; omega
    refine g_ [0,1] ?_
    refine n_ ?_
    refine wpM_regionK [0,1,14] rfl fun Q1 hQ1 => ?_
    simp (contextual := true) (maxSteps := 1000000) (implicitDefEqProofs := false) (disch := first | omega | (simp only [decide_eq_true_eq, decide_eq_false_iff_not, Bool.and_eq_true, Bool.or_eq_false_iff, Bool.not_eq_true'] at *; omega)) only [go_sem, hlt, Bool.and_false]
    refine hQ1 _ _ (S_ ?_);clear hQ1 Q1
    refine c1_ ?_
    refine g_ [0,1,5] ?_
    refine n_ ?_
    refine wpM_loopS (fun s n s' => ∃ i M : Nat, i + n = l.length ∧ s.M ≤ M ∧ (l.take i).all (fun s => s.plain && s.e.ok && formS d s.th && formS d s.el) = true ∧ s' = { s with env := setE 5 (.int .i64 i) s.env, M := M }) (l.length) ?_ ?_
    ·
      refine .of ⟨0, _, by omega, Nat.le_refl _, by simp, rfl⟩ ?_ ?_ ?_ rfl rfl (Nat.le_refl _) rfl <;> exact L_
    rintro n s' ⟨i, M, hi, hM, hall, rfl⟩
    try refine S_ ?_
    refine g_ [0,1,5,18] ?_
    refine c_ (fun hc1 => ?_) fun hc1 => ?_
    ·
      have hi2 : i < l.length := by omega
      have hin := Sm.get_in hi2
      refine g_ [0,1,5,6] ?_
      refine g_ [0,1,5,6,7] ?_
      refine g_ [0,1,5,6,7,26] ?_
      refine g_ [0,1,5,6,7,26,27] ?_
      refine c_ (fun hc2 => ?_) fun hc2 => ?_
      ·
        refine wpM_regionK [0,1,5,6,7] rfl fun Q1 hQ1 => ?_
        refine SD_ ?_
        refine cpD_ (addrOk_ok (l.getD i default).to') Tryz.call71 ?_
        refine hQ1 _ _ (S_ ?_);clear hQ1 Q1
        refine n_ ?_
        refine wpM_regionK [0,1,5,91] rfl fun Q1 hQ1 => ?_
        refine SD_ ?_
        first | refine cg_ (fun hb => exprOk_ok (l.getD i default).e (by omega)) Tryz.call72 ?_ | refine cpD_ (exprOk_ok (l.getD i default).e (by omega)) Tryz.call72 ?_
        first | refine cg_ (fun hb => ih (l.getD i default).th (deep - 1) (by omega) (by omega) (by omega)) Tryz.call37 ?_ | refine cpD_ (ih (l.getD i default).th (deep - 1) (by omega) (by omega) (by omega)) Tryz.call37 ?_
        first | refine cg_ (fun hb => ih (l.getD i default).el (deep - 1) (by omega) (by omega) (by omega)) Tryz.call37 ?_ | refine cpD_ (ih (l.getD i default).el (deep - 1) (by omega) (by omega) (by omega)) Tryz.call37 ?_
        refine hQ1 _ _ (S_ ?_);clear hQ1 Q1
        refine c_ (fun hc3 => ?_) fun hc3 => ?_
        ·
          refine g_ [4] ?_
          refine e_ Tryz.results37 ?_
          first
          | exact True.intro
          | first
            | (simp only [formS]; exact (all_yes hi hc1 hall).symm)
            | (simp only [formS]; refine (all_no hi2 ?_).symm
               try simp only [Bool.not_and, Bool.or_assoc] at hc3
               try simp only [Bool.not_and, Bool.or_assoc] at hc5
               try simp only [Bool.not_and, Bool.or_assoc] at hc7
               simp only [Sm.plain, *, ↓reduceIte, Bool.false_eq_true, Bool.not_and, Bool.or_assoc])
        refine g_ [0,1,5] ?_
        refine .of ⟨n - 1, by omega, i + 1, M + 1, by omega, Nat.le_succ_of_le hM, ?_, rfl⟩ ?_ ?_ ?_ rfl rfl (Nat.le_refl _) rfl
        · rw [take_all _ _ _ hi2, hall, Bool.true_and]
          try simp only [Bool.or_eq_false_iff, Bool.not_eq_false', Bool.and_eq_true] at hc3
          try simp only [Bool.or_eq_false_iff, Bool.not_eq_false', Bool.and_eq_true] at hc5
          try simp only [Bool.or_eq_false_iff, Bool.not_eq_false', Bool.and_eq_true] at hc7
          simp only [Sm.plain, *, ↓reduceIte, Bool.false_eq_true, Bool.and_self]
        all_goals exact L_
      refine g_ [0,1,5,6,7,26,50] ?_
      refine c_ (fun hc4 => ?_) fun hc4 => ?_
      ·
        refine g_ [0,1,5,6,7] ?_
        refine n_ ?_
        refine wpM_regionK [0,1,5,91] rfl fun Q1 hQ1 => ?_
        refine SD_ ?_
        first | refine cg_ (fun hb => exprOk_ok (l.getD i default).e (by omega)) Tryz.call72 ?_ | refine cpD_ (exprOk_ok (l.getD i default).e (by omega)) Tryz.call72 ?_
        first | refine cg_ (fun hb => ih (l.getD i default).th (deep - 1) (by omega) (by omega) (by omega)) Tryz.call37 ?_ | refine cpD_ (ih (l.getD i default).th (deep - 1) (by omega) (by omega) (by omega)) Tryz.call37 ?_
        first | refine cg_ (fun hb => ih (l.getD i default).el (deep - 1) (by omega) (by omega) (by omega)) Tryz.call37 ?_ | refine cpD_ (ih (l.getD i default).el (deep - 1) (by omega) (by omega) (by omega)) Tryz.call37 ?_
        refine hQ1 _ _ (S_ ?_);clear hQ1 Q1
        refine c_ (fun hc5 => ?_) fun hc5 => ?_
        ·
          refine g_ [4] ?_
          refine e_ Tryz.results37 ?_
          first
          | exact True.intro
          | first
            | (simp only [formS]; exact (all_yes hi hc1 hall).symm)
            | (simp only [formS]; refine (all_no hi2 ?_).symm
               try simp only [Bool.not_and, Bool.or_assoc] at hc3
               try simp only [Bool.not_and, Bool.or_assoc] at hc5
               try simp only [Bool.not_and, Bool.or_assoc] at hc7
               simp only [Sm.plain, *, ↓reduceIte, Bool.false_eq_true, Bool.not_and, Bool.or_assoc])
        refine g_ [0,1,5] ?_
        refine .of ⟨n - 1, by omega, i + 1, M + 1, by omega, Nat.le_succ_of_le hM, ?_, rfl⟩ ?_ ?_ ?_ rfl rfl (Nat.le_refl _) rfl
        · rw [take_all _ _ _ hi2, hall, Bool.true_and]
          try simp only [Bool.or_eq_false_iff, Bool.not_eq_false', Bool.and_eq_true] at hc3
          try simp only [Bool.or_eq_false_iff, Bool.not_eq_false', Bool.and_eq_true] at hc5
          try simp only [Bool.or_eq_false_iff, Bool.not_eq_false', Bool.and_eq_true] at hc7
          simp only [Sm.plain, *, ↓reduceIte, Bool.false_eq_true, Bool.and_self]
        all_goals exact L_
      refine g_ [0,1,5,6,7,56] ?_
      refine c_ (fun hc6 => ?_) fun hc6 => ?_
      ·
        refine gD_ [0,1,5,6,7] ?_
        refine n_ ?_
        refine wpM_regionK [0,1,5,91] rfl fun Q1 hQ1 => ?_
        refine SD_ ?_
        first | refine cg_ (fun hb => exprOk_ok (l.getD i default).e (by omega)) Tryz.call72 ?_ | refine cpD_ (exprOk_ok (l.getD i default).e (by omega)) Tryz.call72 ?_
        first | refine cg_ (fun hb => ih (l.getD i default).th (deep - 1) (by omega) (by omega) (by omega)) Tryz.call37 ?_ | refine cpD_ (ih (l.getD i default).th (deep - 1) (by omega) (by omega) (by omega)) Tryz.call37 ?_
        first | refine cg_ (fun hb => ih (l.getD i default).el (deep - 1) (by omega) (by omega) (by omega)) Tryz.call37 ?_ | refine cpD_ (ih (l.getD i default).el (deep - 1) (by omega) (by omega) (by omega)) Tryz.call37 ?_
        refine hQ1 _ _ (S_ ?_);clear hQ1 Q1
        refine c_ (fun hc7 => ?_) fun hc7 => ?_
        ·
          refine g_ [4] ?_
          refine e_ Tryz.results37 ?_
          first
          | exact True.intro
          | first
            | (simp only [formS]; exact (all_yes hi hc1 hall).symm)
            | (simp only [formS]; refine (all_no hi2 ?_).symm
               try simp only [Bool.not_and, Bool.or_assoc] at hc3
               try simp only [Bool.not_and, Bool.or_assoc] at hc5
               try simp only [Bool.not_and, Bool.or_assoc] at hc7
               simp only [Sm.plain, *, ↓reduceIte, Bool.false_eq_true, Bool.not_and, Bool.or_assoc])
        refine g_ [0,1,5] ?_
        refine .of ⟨n - 1, by omega, i + 1, M + 1, by omega, Nat.le_succ_of_le hM, ?_, rfl⟩ ?_ ?_ ?_ rfl rfl (Nat.le_refl _) rfl
        · rw [take_all _ _ _ hi2, hall, Bool.true_and]
          try simp only [Bool.or_eq_false_iff, Bool.not_eq_false', Bool.and_eq_true] at hc3
          try simp only [Bool.or_eq_false_iff, Bool.not_eq_false', Bool.and_eq_true] at hc5
          try simp only [Bool.or_eq_false_iff, Bool.not_eq_false', Bool.and_eq_true] at hc7
          simp only [Sm.plain, *, ↓reduceIte, Bool.false_eq_true, Bool.and_self]
        all_goals exact L_
      refine wpM_skip ?_
      refine S_ ?_
      refine wpM_seq ?_
      refine wpM_regionK [0, 1, 5, 91] rfl ?_; intro Q1 hQ1
      refine SD_ ?_
      refine hQ1 _ _ ?_; clear hQ1 Q1
      refine S_ ?_
      refine wpM_condK ?_
      refine S_ ?_
      refine wpM_seq ?_
      refine wpM_regionK [4] rfl ?_; intro Q1 hQ1
      refine S_ ?_
      refine hQ1 _ _ ?_; clear hQ1 Q1
      refine S_ ?_
      refine wpM_ret ?_
      try refine S_ ?_
      refine hQ _ _ rfl rfl rfl (by simp -implicitDefEqProofs (disch := omega) only [go_sem, le_yes, true_or]) ?_ (.inl rfl)
      rw [Tryz.results37]
      try simp -implicitDefEqProofs (disch := omega) only [go_sem, List.cons.injEq, PV.bool.injEq, PV.int.injEq, PV.agg.injEq]
      all_goals
        simp only [formS]; refine (all_no hi2 ?_).symm
        simp only [Sm.plain, hc2, hc4, hc6, ↓reduceIte, Bool.false_eq_true, Bool.false_and, Bool.not_false]
    refine g_ [4] ?_
    refine e_ Tryz.results37 ?_
    first
    | exact True.intro
    | first
      | (simp only [formS]; exact (all_yes hi hc1 hall).symm)
      | (simp only [formS]; refine (all_no hi2 ?_).symm
         try simp only [Bool.not_and, Bool.or_assoc] at hc3
         try simp only [Bool.not_and, Bool.or_assoc] at hc5
         try simp only [Bool.not_and, Bool.or_assoc] at hc7
         simp only [Sm.plain, *, ↓reduceIte, Bool.false_eq_true, Bool.not_and, Bool.or_assoc])
def okS (l : List Sm) : Bool := decide (manyS 4 l ≤ 16) && formS 4 l
theorem stmtsOk_ok (l : List Sm) (hs : Sm.szL l ≤ 1099511627776) : PureF Tryz.prog 13 [.rows 52 (Sm.csL l)] [.bool (okS l)] := by
  refine pureF_of Tryz.func13 rfl Tryz.ntmps13 (by simp) T_ ?_
  intro f0 B Q hQ
  refine g_ [0] ?_
  refine n_ ?_
  refine wpM_regionK [2] rfl fun Q1 hQ1 => ?_
  refine SD_ ?_
  refine cpD_ (l4Many_ok 4 l 4 rfl (by omega) hs) Tryz.call36 ?_
  first | refine cg_ (fun hb => l4Form_ok 4 l 4 rfl (by omega) hs) Tryz.call37 ?_ | refine cpD_ (l4Form_ok 4 l 4 rfl (by omega) hs) Tryz.call37 ?_
  refine hQ1 _ _ (S_ ?_);clear hQ1 Q1
  refine e_ Tryz.results13 ?_
  first
  | exact True.intro
  | have : decide ((manyS 4 l : Int) ≤ 16) = decide (manyS 4 l ≤ 16) := by simp; omega
    simp only [okS, this]
end Go.Proofs.YtmicbfojofcigaaGreatDoor
namespace Go.Proofs.YtmicbfojofcigaaGreatDoor
open Go Sg
set_option linter.unusedSectionVars false
variable [Glob]
set_option maxRecDepth 100000
set_option linter.unusedSimpArgs false
set_option linter.unusedVariables false
set_option maxHeartbeats 4000000
def MM.flat (m : MM) : List Int := m.i ++ (m.o ++ m.v)
theorem MM.flat_len {m : MM} (h : m.Six) : m.flat.length = 18 := by simp [MM.flat, h.i, h.o, h.v]
def MM.nth (m : MM) (i : Nat) : List Int := [m.i, m.o, m.v].getD i []
@[go_sem] theorem drop3 (e : TypeId) (m : MM) (i : Nat) (h : i < 3) : ([PV.rows e (rowsI m.i), PV.rows e (rowsI m.o), PV.rows e (rowsI m.v)].drop i)[0]? = some (.rows e (rowsI (m.nth i))) := by
  match i, h with
  | 0, _ => rfl
  | 1, _ => rfl
  | 2, _ => rfl
@[go_sem] theorem ints_cell (l : List Int) : (ints l).all PV.cell = true := by
  induction l with
  | nil => rfl
  | cons x l ih => simp only [ints, List.map_cons, List.all_cons, PV.cell, Bool.true_and] at ih ⊢; exact ih
@[go_sem] theorem ints_take6 (l : List Int) (h : l.length = 6) : (ints l).take 6 = ints l := by rw [List.take_of_length_le (by simp [ints, h])]
@[go_sem high] theorem splice_ints6 (L l : List Int) (k : Nat) : splice (ints L) k (ints l) = ints (L.take k ++ l ++ L.drop (k + l.length)) := by
  simp [splice, ints, List.map_take, List.map_drop]
def MM.bk (m : MM) : Nat → List Int
  | 0 => List.replicate 18 0
  | n + 1 => (m.bk n).take (n * 6) ++ m.nth n ++ (m.bk n).drop (n * 6 + (m.nth n).length)
theorem MM.bk3 {m : MM} (h : m.Six) : m.bk 3 = m.flat := by
  have h1 := h.i
  have h2 := h.o
  have h3 := h.v
  simp only [MM.bk, MM.nth, List.getD_cons_zero, List.getD_cons_succ, Nat.zero_mul, List.take_zero, List.nil_append, Nat.zero_add, h1, h2, h3, MM.flat]
  have a1 : ∀ x : List Int, (m.i ++ x).take (1 * 6) = m.i := fun x => by rw [List.take_append_of_le_length (by omega), List.take_of_length_le (by omega)]
  have a2 : ∀ x : List Int, (m.i ++ m.o ++ x).take (2 * 6) = m.i ++ m.o := fun x => by rw [List.take_append_of_le_length (by simp; omega), List.take_of_length_le (by simp; omega)]
  rw [a1, a2]
  have a3 : ((m.i ++ m.o ++ ((m.i ++ (List.replicate 18 (0 : Int)).drop 6).drop (1 * 6 + 6))).drop (2 * 6 + 6)) = [] := by
    rw [List.drop_eq_nil_iff]; simp; omega
  rw [a3]; simp
theorem MM.bk_len {m : MM} : ∀ n, (∀ j, j < n → (m.nth j).length = 6) → n ≤ 3 → (m.bk n).length = 18 := by
  intro n
  induction n with
  | zero => intro _ _; simp [MM.bk]
  | succ n ih =>
    intro h hn
    have := ih (fun j hj => h j (by omega)) (by omega)
    have h6 := h n (by omega)
    simp only [MM.bk, List.length_append, List.length_take, List.length_drop, this, h6]
    omega
theorem listOk_eq (l : List Int) : ((l.length : Int) != 6 || l.any (fun x => !isNum x)) = !listOk l := by
  have : (fun x => !isNum x) = fun x => cut x != x := by funext x; rw [isNum_cut]; rfl
  rw [this, listOk, List.all_eq_not_any_not]
  simp only [Bool.not_not]
  cases l.any (fun x => cut x != x) <;> cases h : ((l.length : Int) == 6) <;> simp_all
@[go_sem] theorem rep_two (z : List PV) : rep 2 z = z ++ z := by simp [rep, List.replicate_succ]
@[go_sem] theorem rep_three (z : List PV) : rep 3 z = z ++ (z ++ z) := by simp [rep, List.replicate_succ]
theorem notNum_ok (n : Int) : PureF Tryz.prog 80 [.int .i64 n] [.bool (!isNum n)] := by
  refine pureF_of Tryz.func80 rfl Tryz.ntmps80 (by simp) T_ ?_
  intro f0 B Q hQ
  refine g_ [0] ?_
  refine n_ ?_
  refine wpM_regionK [2] rfl fun Q1 hQ1 => ?_
  refine S_ ?_
  refine cp_ (isNum_ok n) Tryz.call81 ?_
  refine hQ1 _ _ (S_ ?_);clear hQ1 Q1
  refine e_ Tryz.results80 ?_
  first
  | exact True.intro
  | rfl
theorem MM.ok_nth (m : MM) : m.ok = (List.range 3).all (fun j => listOk (m.nth j)) := by
  simp only [MM.ok, MM.nth, List.range, List.range.loop, List.all_cons, List.all_nil, Bool.and_true, List.getD_cons_zero, List.getD_cons_succ, Bool.and_assoc]
theorem readMem_ok (m : MM) (hm : m.Sm) : CallF Tryz.prog 42 [.agg m.cs] [] 1 (fun ns o => ∃ x, ns = [x] ∧ ((m.ok = true ∧ o = { rs := [.ptr x 0, .bool true], nw := [(x, .cells 122 (ints m.flat))] }) ∨
    (m.ok = false ∧ ∃ l, o = { rs := [.nilp, .bool false], nw := [(x, .cells 122 (ints l))] }))) := by
  have hsm : ∀ j, (m.nth j).length ≤ 1099511627776 := by
    intro j
    match j with
    | 0 => exact hm.i
    | 1 => exact hm.o
    | 2 => exact hm.v
    | n + 3 => simp [MM.nth]
  refine callF_of' Tryz.func42 rfl Tryz.ntmps42 (by simp) ?_
  intro f0 B ns Q hB hns hQ
  obtain ⟨x, rfl⟩ : ∃ x, ns = [x] := by
    match ns, hns with
    | [x], _ => exact ⟨x, rfl⟩
  refine g_ [1] ?_
  refine g_ [1,4] ?_
  refine g_ [4,15,16,17] ?_
  have hlit : [PV.int .i64 0, .int .i64 0, .int .i64 0, .int .i64 0, .int .i64 0, .int .i64 0, .int .i64 0, .int .i64 0, .int .i64 0, .int .i64 0, .int .i64 0, .int .i64 0, .int .i64 0, .int .i64 0, .int .i64 0, .int .i64 0, .int .i64 0, .int .i64 0] = ints (m.bk 0) := rfl
  rw [hlit]
  refine n_ ?_
  refine wpM_loopS (fun s n s' => ∃ (i0 M0 : Nat) , i0 + n = 3 ∧ s.M ≤ M0 ∧ ((List.range i0).all (fun j => listOk (m.nth j)) = true) ∧ s' = { s with env := setE 17 (.int .i64 (i0 : Nat)) s.env, l := setl (B + 1) (.cells 122 (ints (m.bk i0))) s.l, M := M0 }) (3) ?_ ?_
  ·
    refine .of' _ _ ⟨0, _, by omega, Nat.le_refl _, rfl, rfl⟩ ?_ ?_ ?_ <;> exact L_
  rintro n0 s' ⟨i0, M0, hi0, hM0, hv0, rfl⟩
  try dsimp only at hM0
  try refine S_ ?_
  refine g_ [4,15,16,17,18] ?_
  refine c_ (fun hc0 => ?_) fun hc0 => ?_
  ·
    have hl0 : i0 < 3 := by omega
    have hsj := hsm i0
    have hbl : (m.bk i0).length = 18 := MM.bk_len i0 (fun j hj => by
      rw [List.all_eq_true] at hv0
      have := hv0 j (List.mem_range.2 hj)
      simp only [listOk, Bool.and_eq_true, beq_iff_eq] at this; omega) (by omega)
    refine g_ [4,5,6,15,16,17] ?_
    refine n_ ?_
    refine wpM_regionK [4,5,6,15,16,17,28] rfl fun Q1 hQ1 => ?_
    refine SD_ ?_
    refine callG_r (l := []) (fun hb => hasI_ok (m.nth i0) 80 [] (fun x => !isNum x) [] hsj Tryz.call80 (fun i hi => notNum_ok _)) (fun i o h => by simp [lk] at h) Tryz.call79 rfl rfl (fun hb => by simp -implicitDefEqProofs (disch := omega) only [go_sem]) (fun hb => by simp -implicitDefEqProofs (disch := omega) only [go_sem, hb, gd_of hb]) ?_
    refine SD_ ?_
    refine hQ1 _ _ (S_ ?_);clear hQ1 Q1
    refine c_ (fun hc1 => ?_) fun hc1 => ?_
    ·
      refine g_ [2,3] ?_
      refine wpM_ret ?_
      try refine S_ ?_
      have hok : m.ok = true ∨ m.ok = false := by cases m.ok <;> simp
      first
      | (have hbad : m.ok = false := by
           have h1 := listOk_eq (m.nth i0)
           rw [hc1] at h1
           have h2 : listOk (m.nth i0) = false := by simpa using h1.symm
           rw [MM.ok_nth]; exact range_no hl0 h2
         refine hQ _ _ (retK [B + 1] [] [(x, .cells 122 (ints (m.bk i0)))] rfl rfl rfl (by rw [Tryz.results42] <;> simp (maxSteps := 1000000) -implicitDefEqProofs (disch := omega) only [go_sem] <;> rfl) ?_ ⟨x, rfl, .inr ⟨hbad, _, rfl⟩⟩ ?_ ?_ ?_ ?_ ?_ ?_)
         all_goals (first | (simp -implicitDefEqProofs (disch := omega) only [go_sem, List.nodup_cons, List.nodup_nil, true_or, or_true, List.mem_cons, List.not_mem_nil]; done) | (simp -implicitDefEqProofs (disch := omega) only [go_sem, List.nodup_cons, List.nodup_nil, true_or, or_true, List.mem_cons, List.not_mem_nil]; omega)))
      | (have hi3 : i0 = 3 := by omega
         have hgood : m.ok = true := by rw [MM.ok_nth, ← hi3]; exact hv0
         have hfl : m.bk i0 = m.flat := by rw [hi3, MM.bk3 (MM.ok_six hgood)]
         rw [hfl]
         refine hQ _ _ (retK [B + 1] [] [(x, .cells 122 (ints m.flat))] rfl rfl rfl (by rw [Tryz.results42] <;> simp (maxSteps := 1000000) -implicitDefEqProofs (disch := omega) only [go_sem] <;> rfl) ?_ ⟨x, rfl, .inl ⟨hgood, rfl⟩⟩ ?_ ?_ ?_ ?_ ?_ ?_)
         all_goals (first | (simp -implicitDefEqProofs (disch := omega) only [go_sem, List.nodup_cons, List.nodup_nil, true_or, or_true, List.mem_cons, List.not_mem_nil]; done) | (simp -implicitDefEqProofs (disch := omega) only [go_sem, List.nodup_cons, List.nodup_nil, true_or, or_true, List.mem_cons, List.not_mem_nil]; omega)))
    have hok : listOk (m.nth i0) = true := by have := listOk_eq (m.nth i0); rw [hc1] at this; simpa using this.symm
    have hl6 : (m.nth i0).length = 6 := by
      simp only [listOk, Bool.and_eq_true, beq_iff_eq] at hok; omega
    refine n_ ?_
    refine dr_ mixed [4,15,16,17] 0 1 [B + 1] [⟨[4],[],[],[],false⟩,⟨[5],[],[],[],false⟩,⟨[6],[],[],[],false⟩,⟨[31],[],[],[],false⟩,⟨[32],[],[],[],false⟩,⟨[29],[],[],[],false⟩,⟨[34],[],[],[],false⟩,⟨[30,35],[],[],[],false⟩,⟨[33,36],[0],[0],[],false⟩] [0,1,2,3,4,5,6,7,8] [[],[],[],[2],[2,3],[0],[0,5],[0,1,2,3,4,5,6],[0,1,2,3,4,5,6,7]] 1 ?_
    intro O A K hO hA hK;simp only [atL_cons,atL_nil,Nat.reduceAdd,Nat.zero_add] at hO hA
    refine SO_ ?_
    refine hK _ (S_ ?_);clear hK K hO hA O A
    refine g_ [4,15,16,17] ?_
    rw [show List.take (i0 * 6) (m.bk i0) ++ m.nth i0 ++ List.drop (i0 * 6 + (m.nth i0).length) (m.bk i0) = m.bk (i0 + 1) from rfl]
    refine .of' _ _ ⟨n0 - 1, by omega, i0 + 1, _, by omega, M_, ?_, rfl⟩ L_ L_ L_
    rw [range_all, hv0, hok]; rfl
  refine g_ [2,3] ?_
  refine wpM_ret ?_
  try refine S_ ?_
  have hok : m.ok = true ∨ m.ok = false := by cases m.ok <;> simp
  first
  | (have hbad : m.ok = false := by
       have h1 := listOk_eq (m.nth i0)
       rw [hc1] at h1
       have h2 : listOk (m.nth i0) = false := by simpa using h1.symm
       rw [MM.ok_nth]; exact range_no hl0 h2
     refine hQ _ _ (retK [B + 1] [] [(x, .cells 122 (ints (m.bk i0)))] rfl rfl rfl (by rw [Tryz.results42] <;> simp (maxSteps := 1000000) -implicitDefEqProofs (disch := omega) only [go_sem] <;> rfl) ?_ ⟨x, rfl, .inr ⟨hbad, _, rfl⟩⟩ ?_ ?_ ?_ ?_ ?_ ?_)
     all_goals (first | (simp -implicitDefEqProofs (disch := omega) only [go_sem, List.nodup_cons, List.nodup_nil, true_or, or_true, List.mem_cons, List.not_mem_nil]; done) | (simp -implicitDefEqProofs (disch := omega) only [go_sem, List.nodup_cons, List.nodup_nil, true_or, or_true, List.mem_cons, List.not_mem_nil]; omega)))
  | (have hi3 : i0 = 3 := by omega
     have hgood : m.ok = true := by rw [MM.ok_nth, ← hi3]; exact hv0
     have hfl : m.bk i0 = m.flat := by rw [hi3, MM.bk3 (MM.ok_six hgood)]
     rw [hfl]
     refine hQ _ _ (retK [B + 1] [] [(x, .cells 122 (ints m.flat))] rfl rfl rfl (by rw [Tryz.results42] <;> simp (maxSteps := 1000000) -implicitDefEqProofs (disch := omega) only [go_sem] <;> rfl) ?_ ⟨x, rfl, .inl ⟨hgood, rfl⟩⟩ ?_ ?_ ?_ ?_ ?_ ?_)
     all_goals (first | (simp -implicitDefEqProofs (disch := omega) only [go_sem, List.nodup_cons, List.nodup_nil, true_or, or_true, List.mem_cons, List.not_mem_nil]; done) | (simp -implicitDefEqProofs (disch := omega) only [go_sem, List.nodup_cons, List.nodup_nil, true_or, or_true, List.mem_cons, List.not_mem_nil]; omega)))
end Go.Proofs.YtmicbfojofcigaaGreatDoor
namespace Go.Proofs.YtmicbfojofcigaaGreatDoor
open Go Sg
set_option linter.unusedSectionVars false
variable [Glob]
set_option maxRecDepth 100000
set_option linter.unusedSimpArgs false
set_option linter.unusedVariables false
set_option maxHeartbeats 4000000
@[go_sem] theorem ints_dt (l : List Int) (a b : Nat) : ((ints l).drop a).take b = ints ((l.drop a).take b) := by simp [ints, List.map_take, List.map_drop]
theorem cloneI_ok (id off : Nat) (T : TypeId) (L : List Int) (h : off + 6 ≤ L.length) : CallF Tryz.prog 115 [.sl 3 id off 6] [(id, .cells T (ints L))] 1 (fun ns o => ∃ x, ns = [x] ∧ o = { rs := [.sl 3 x 0 6], nw := [(x, .cells 3 (ints ((L.drop off).take 6)))] }) := by
  refine callF_of' Tryz.func115 rfl Tryz.ntmps115 (by simp) ?_
  intro f0 B ns Q hB hns hQ
  have hid : id < B := hB id (by simp [hasKey, lk])
  obtain ⟨x, rfl⟩ : ∃ x, ns = [x] := by
    match ns, hns with
    | [x], _ => exact ⟨x, rfl⟩
  refine g_ [0] ?_
  refine g_ [0,4] ?_
  refine c1_ ?_
  refine g_ [2] ?_
  refine wpM_ret ?_
  try refine S_ ?_
  refine hQ _ _ (retK [B + 1] [] [(x, .cells 3 (ints ((L.drop off).take 6)))] rfl rfl rfl (by rw [Tryz.results115] <;> simp (maxSteps := 1000000) -implicitDefEqProofs (disch := omega) only [go_sem] <;> rfl) ?_ ⟨x, rfl, rfl⟩ ?_ ?_ ?_ ?_ ?_ ?_)
  all_goals (first | (simp -implicitDefEqProofs (disch := omega) only [go_sem, List.nodup_cons, List.nodup_nil, true_or, or_true, List.mem_cons, List.not_mem_nil]; done) | (simp -implicitDefEqProofs (disch := omega) only [go_sem, List.nodup_cons, List.nodup_nil, true_or, or_true, List.mem_cons, List.not_mem_nil]; omega))
theorem place_ok (id : Nat) (L : List Int) (a : AD) (h : a.ok = true) (hL : L.length = 18) : CallF Tryz.prog 156 [.ptr id 0, .agg a.cs] [(id, .cells 122 (ints L))] 0 (fun _ o => o = { rs := [.ptr id ((a.kind - 1).toNat * 6 + a.at'.toNat)] }) := by
  have hk : 1 ≤ a.kind ∧ a.kind ≤ 3 ∧ 0 ≤ a.at' ∧ a.at' < 6 := by simp only [AD.ok, Bool.and_eq_true, decide_eq_true_eq] at h; omega
  refine callF_of' Tryz.func156 rfl Tryz.ntmps156 (by simp) ?_
  intro f0 B ns Q hB hns hQ
  have hid : id < B := hB id (by simp [hasKey, lk])
  obtain rfl : ns = [] := List.eq_nil_of_length_eq_zero hns
  refine g_ [0,3] ?_
  refine n_ ?_
  refine dr_ mixed [4] 0 2 [B, id] [⟨[0],[],[],[],false⟩,⟨[3],[],[],[],false⟩,⟨[6],[0],[],[],false⟩,⟨[7],[],[],[],false⟩,⟨[3],[],[],[],false⟩,⟨[9],[0],[],[],false⟩,⟨[5],[],[],[],false⟩,⟨[11],[1],[],[],false⟩,⟨[8,12],[1],[],[],false⟩,⟨[10,13],[1],[],[],false⟩,⟨[14],[],[],[],false⟩] [0,1,2,3,4,5,6,7,8,9,10] [[],[],[1],[1,2],[],[4],[0],[0,6],[0,1,2,3,6,7],[0,1,2,3,4,5,6,7,8],[0,1,2,3,4,5,6,7,8,9]] 2 (htbl := by simp; omega) (hnm := by simp) ?_
  intro O A K hO hA hK;simp only [atL_cons,atL_nil,Nat.reduceAdd,Nat.zero_add] at hO hA
  refine SO_ ?_
  refine hK _ (S_ ?_);clear hK K hO hA O A
  refine wpM_ret ?_
  try refine S_ ?_
  refine hQ _ _ (ret0 [] rfl rfl rfl (by rw [Tryz.results156] <;> simp (maxSteps := 1000000) -implicitDefEqProofs (disch := omega) only [go_sem] <;> rfl) rfl ?_ ?_ ?_ ?_)
  all_goals simp -implicitDefEqProofs (disch := omega) only [go_sem, true_or, or_true]
theorem puts_ok (a : AD) : PureF Tryz.prog 121 [.agg a.cs] [.bool (a.ok && a.kind != 1)] := by
  refine pureF_of Tryz.func121 rfl Tryz.ntmps121 (by simp) T_ ?_
  intro f0 B Q hQ
  refine g_ [1] ?_
  refine n_ ?_
  refine wpM_regionK [2] rfl fun Q1 hQ1 => ?_
  refine SD_ ?_
  refine cpD_ (iaddrOk_ok a) Tryz.call120 ?_
  refine hQ1 _ _ (S_ ?_);clear hQ1 Q1
  refine e_ Tryz.results121 ?_
  first
  | exact True.intro
  | rfl
def pos (a : AD) : Nat := (a.kind - 1).toNat * 6 + a.at'.toNat
theorem iget_ok (id : Nat) (L : List Int) (a : AD) (h : a.ok = true) (hL : L.length = 18) : CallF Tryz.prog 128 [.ptr id 0, .agg a.cs] [(id, .cells 122 (ints L))] 0 (fun _ o => o = { rs := [.int .i64 (L.getD (pos a) 0)] }) := by
  have hk : 1 ≤ a.kind ∧ a.kind ≤ 3 ∧ 0 ≤ a.at' ∧ a.at' < 6 := by simp only [AD.ok, Bool.and_eq_true, decide_eq_true_eq] at h; omega
  have hp : pos a < L.length := by unfold pos; omega
  refine callF_of' Tryz.func128 rfl Tryz.ntmps128 (by simp) ?_
  intro f0 B ns Q hB hns hQ
  have hid : id < B := hB id (by simp [hasKey, lk])
  obtain rfl : ns = [] := List.eq_nil_of_length_eq_zero hns
  refine g_ [0,3] ?_
  refine n_ ?_
  refine wpM_regionK [0,3,7] rfl fun Q1 hQ1 => ?_
  simp -implicitDefEqProofs (disch := omega) only [go_sem, h]
  refine call_p (iaddrOk_ok a) Tryz.call120 rfl rfl rfl (by first | rfl | (simp -implicitDefEqProofs (disch := omega) only [go_sem] <;> rfl)) ?_
  simp -implicitDefEqProofs (disch := omega) only [go_sem, h]
  refine hQ1 _ _ (S_ ?_);clear hQ1 Q1
  refine c1_ ?_
  refine n_ ?_
  refine wpM_regionK [4] rfl fun Q1 hQ1 => ?_
  refine S_ ?_
  refine call_rs (place_ok id L a h hL) T_ Tryz.call156 rfl rfl rfl F_ ?_
  rw [show (a.kind - 1).toNat * 6 + a.at'.toNat = pos a from rfl]
  refine S_ ?_
  refine hQ1 _ _ (S_ ?_);clear hQ1 Q1
  refine wpM_ret ?_
  try refine S_ ?_
  refine hQ _ _ (ret0 [] rfl rfl rfl (by rw [Tryz.results128] <;> simp (maxSteps := 1000000) -implicitDefEqProofs (disch := omega) only [go_sem] <;> rfl) rfl ?_ ?_ ?_ ?_)
  all_goals simp -implicitDefEqProofs (disch := omega) only [go_sem, true_or, or_true]
theorem iput_ok (id : Nat) (L : List Int) (a : AD) (n : Int) (h : a.ok = true) (h1 : a.kind ≠ 1) (hL : L.length = 18) : CallF Tryz.prog 130 [.ptr id 0, .agg a.cs, .int .i64 n] [(id, .cells 122 (ints L))] 0 (fun _ o => o = { rs := [], u := [(id, some (.cells 122 (ints (L.set (pos a) (cut n)))))] }) := by
  have hk : 1 ≤ a.kind ∧ a.kind ≤ 3 ∧ 0 ≤ a.at' ∧ a.at' < 6 := by simp only [AD.ok, Bool.and_eq_true, decide_eq_true_eq] at h; omega
  have hp : pos a < L.length := by unfold pos; omega
  have hpt : (a.ok && a.kind != 1) = true := by simp [h, h1]
  refine callF_of' Tryz.func130 rfl Tryz.ntmps130 (by simp) ?_
  intro f0 B ns Q hB hns hQ
  have hid : id < B := hB id (by simp [hasKey, lk])
  obtain rfl : ns = [] := List.eq_nil_of_length_eq_zero hns
  refine g_ [0,2,4] ?_
  refine n_ ?_
  refine wpM_regionK [0,2,4,7] rfl fun Q1 hQ1 => ?_
  refine S_ ?_
  refine call_p (puts_ok a) Tryz.call121 rfl rfl rfl (by first | rfl | (simp -implicitDefEqProofs (disch := omega) only [go_sem] <;> rfl)) ?_
  simp -implicitDefEqProofs (disch := omega) only [go_sem, hpt]
  refine hQ1 _ _ (S_ ?_);clear hQ1 Q1
  refine c1_ ?_
  refine wpM_regionK [] rfl fun Q1 hQ1 => ?_
  refine S_ ?_
  refine call_rs (place_ok id L a h hL) T_ Tryz.call156 rfl rfl rfl F_ ?_
  rw [show (a.kind - 1).toNat * 6 + a.at'.toNat = pos a from rfl]
  refine S_ ?_
  refine cp_ (icut_ok n) Tryz.call157 ?_
  refine hQ1 _ _ (S_ ?_);clear hQ1 Q1
  refine hQ _ _ (ret0n [(id, some (.cells 122 (ints (L.set (pos a) (cut n)))))] rfl rfl rfl (by rw [Tryz.results130] <;> simp (maxSteps := 1000000) -implicitDefEqProofs (disch := omega) only [go_sem] <;> rfl) rfl ?_ ?_ ?_ ?_)
  all_goals simp -implicitDefEqProofs (disch := omega) only [go_sem, true_or, or_true]
end Go.Proofs.YtmicbfojofcigaaGreatDoor
namespace Go.Proofs.YtmicbfojofcigaaGreatDoor
open Go Sg
set_option linter.unusedSectionVars false
variable [Glob]
set_option maxRecDepth 100000
set_option linter.unusedSimpArgs false
set_option linter.unusedVariables false
set_option maxHeartbeats 4000000
theorem MM.flat_get (m : MM) (hm : m.Six) (a : AD) (h : a.ok = true) : m.flat.getD (pos a) 0 = m.get a := by
  have hk : 1 ≤ a.kind ∧ a.kind ≤ 3 ∧ 0 ≤ a.at' ∧ a.at' < 6 := by simp only [AD.ok, Bool.and_eq_true, decide_eq_true_eq] at h; omega
  have e1 := hm.i
  have e2 := hm.o
  have e3 := hm.v
  unfold MM.flat pos MM.get
  have hk3 : a.kind = 1 ∨ a.kind = 2 ∨ a.kind = 3 := by omega
  simp only [List.getD_eq_getElem?_getD]
  rcases hk3 with h | h | h <;> rw [h] <;> simp only [Int.reduceSub, Int.reduceToNat, Int.reduceBEq, Nat.zero_mul, Nat.one_mul, Nat.zero_add, Int.sub_self, Int.toNat_zero, if_true, if_false, Bool.false_eq_true]
  · rw [List.getElem?_append_left (by omega)]
  · rw [List.getElem?_append_right (by omega), List.getElem?_append_left (by omega)]
    congr 2; omega
  · rw [List.getElem?_append_right (by omega), List.getElem?_append_right (by omega)]
    congr 2; omega
theorem itwo_ok (k a b : Int) : PureF Tryz.prog 133 [.int .i64 k, .int .i64 a, .int .i64 b] [.int .i64 (two k a b)] := by
  refine pureF_of Tryz.func133 rfl Tryz.ntmps133 (by simp) T_ ?_
  intro f0 B Q hQ
  refine g_ [0,1,2] ?_
  refine g_ [1,2,7] ?_
  refine g_ [1,2,7,8] ?_
  refine c_ (fun hc0 => ?_) fun hc0 => ?_
  ·
    refine n_ ?_
    refine wpM_regionK [6] rfl fun Q1 hQ1 => ?_
    refine S_ ?_
    refine cp_ (iadd_ok a b) Tryz.call158 ?_
    refine hQ1 _ _ (S_ ?_);clear hQ1 Q1
    refine e_ Tryz.results133 ?_
    first
    | exact True.intro
    | simp only [two, *, ↓reduceIte, Bool.false_eq_true]
  refine g_ [1,2,7,13] ?_
  refine c_ (fun hc1 => ?_) fun hc1 => ?_
  ·
    refine n_ ?_
    refine wpM_regionK [6] rfl fun Q1 hQ1 => ?_
    refine S_ ?_
    refine cp_ (isub_ok a b) Tryz.call159 ?_
    refine hQ1 _ _ (S_ ?_);clear hQ1 Q1
    refine e_ Tryz.results133 ?_
    first
    | exact True.intro
    | simp only [two, *, ↓reduceIte, Bool.false_eq_true]
  refine g_ [1,2,7,18] ?_
  refine c_ (fun hc2 => ?_) fun hc2 => ?_
  ·
    refine n_ ?_
    refine wpM_regionK [6] rfl fun Q1 hQ1 => ?_
    refine S_ ?_
    refine cp_ (imul_ok a b) Tryz.call160 ?_
    refine hQ1 _ _ (S_ ?_);clear hQ1 Q1
    refine e_ Tryz.results133 ?_
    first
    | exact True.intro
    | simp only [two, *, ↓reduceIte, Bool.false_eq_true]
  refine g_ [1,2,7,23] ?_
  refine c_ (fun hc3 => ?_) fun hc3 => ?_
  ·
    refine n_ ?_
    refine wpM_regionK [6] rfl fun Q1 hQ1 => ?_
    refine S_ ?_
    refine cp_ (iis_ok (decide (a < b))) Tryz.call135 ?_
    refine hQ1 _ _ (S_ ?_);clear hQ1 Q1
    refine e_ Tryz.results133 ?_
    first
    | exact True.intro
    | simp only [two, *, ↓reduceIte, Bool.false_eq_true]
  refine g_ [1,2,7,29] ?_
  refine c_ (fun hc4 => ?_) fun hc4 => ?_
  ·
    refine n_ ?_
    refine wpM_regionK [6] rfl fun Q1 hQ1 => ?_
    refine S_ ?_
    refine cp_ (iis_ok (a == b)) Tryz.call135 ?_
    refine hQ1 _ _ (S_ ?_);clear hQ1 Q1
    refine e_ Tryz.results133 ?_
    first
    | exact True.intro
    | simp only [two, *, ↓reduceIte, Bool.false_eq_true]
  refine g_ [1,2,35] ?_
  refine c_ (fun hc5 => ?_) fun hc5 => ?_
  ·
    refine n_ ?_
    refine wpM_regionK [6] rfl fun Q1 hQ1 => ?_
    refine SD_ ?_
    refine cpD_ (ion_ok a) Tryz.call136 ?_
    first | refine cg_ (fun hb => ion_ok b) Tryz.call136 ?_ | refine cpD_ (ion_ok b) Tryz.call136 ?_
    refine cpD_ (iis_ok (a != 0 && b != 0)) Tryz.call135 ?_
    refine hQ1 _ _ (S_ ?_);clear hQ1 Q1
    refine e_ Tryz.results133 ?_
    first
    | exact True.intro
    | simp only [two, *, ↓reduceIte, Bool.false_eq_true]
  refine n_ ?_
  refine wpM_regionK [6] rfl fun Q1 hQ1 => ?_
  refine SD_ ?_
  refine cpD_ (ion_ok a) Tryz.call136 ?_
  first | refine cg_ (fun hb => ion_ok b) Tryz.call136 ?_ | refine cpD_ (ion_ok b) Tryz.call136 ?_
  refine cpD_ (iis_ok (a != 0 || b != 0)) Tryz.call135 ?_
  refine hQ1 _ _ (S_ ?_);clear hQ1 Q1
  refine e_ Tryz.results133 ?_
  first
  | exact True.intro
  | simp only [two, *, ↓reduceIte, Bool.false_eq_true]
def mobj (id : Nat) (m : MM) : List (Nat × AObj) := [(id, .cells 122 (ints m.flat))]
@[go_sem] theorem mobj_eq (id : Nat) (m : MM) : mobj id m = [(id, .cells 122 (ints m.flat))] := rfl
def OfK (m : MM) (id fo : Nat) (e : Ex) : Prop := CallF Tryz.prog fo [.agg [], .ptr id 0, .agg e.cs] (mobj id m) 0 (fun _ o => o = { rs := [.int .i64 (e.of m)] })
theorem of1_ok (m : MM) (id : Nat) (e : Ex) (h : e.kind = 1) : OfK m id 216 e := by
  have he : e.of m = e.n := by rw [Ex.of_eq, h]; rfl
  unfold OfK; rw [he]
  refine callF_of' Tryz.func216 rfl Tryz.ntmps216 (by simp) ?_
  intro f0 B ns Q hB hns hQ
  have hid : id < B := hB id (by simp [hasKey, lk, mobj])
  obtain rfl : ns = [] := List.eq_nil_of_length_eq_zero hns
  refine g_ [5] ?_
  refine g_ [6] ?_
  refine wpM_ret ?_
  try refine S_ ?_
  refine hQ _ _ (ret0 [] rfl rfl rfl (by rw [Tryz.results216] <;> simp (maxSteps := 1000000) -implicitDefEqProofs (disch := omega) only [go_sem] <;> rfl) rfl ?_ ?_ ?_ ?_)
  all_goals simp -implicitDefEqProofs (disch := omega) only [go_sem, true_or, or_true]
theorem of2_ok (m : MM) (hm : m.Six) (id : Nat) (e : Ex) (h : e.kind = 2) (ha : e.a.ok = true) : OfK m id 220 e := by
  have he : e.of m = m.flat.getD (pos e.a) 0 := by rw [Ex.of_eq, h, MM.flat_get m hm e.a ha]; rfl
  unfold OfK; rw [he]
  refine callF_of' Tryz.func220 rfl Tryz.ntmps220 (by simp) ?_
  intro f0 B ns Q hB hns hQ
  have hid : id < B := hB id (by simp [hasKey, lk, mobj])
  obtain rfl : ns = [] := List.eq_nil_of_length_eq_zero hns
  refine g_ [1,5] ?_
  refine n_ ?_
  refine wpM_regionK [6] rfl fun Q1 hQ1 => ?_
  refine S_ ?_
  refine call_rs (iget_ok id m.flat e.a ha (MM.flat_len hm)) T_ Tryz.call128 rfl rfl rfl F_ ?_
  refine S_ ?_
  refine hQ1 _ _ (S_ ?_);clear hQ1 Q1
  refine wpM_ret ?_
  try refine S_ ?_
  refine hQ _ _ (ret0 [] rfl rfl rfl (by rw [Tryz.results220] <;> simp (maxSteps := 1000000) -implicitDefEqProofs (disch := omega) only [go_sem] <;> rfl) rfl ?_ ?_ ?_ ?_)
  all_goals simp -implicitDefEqProofs (disch := omega) only [go_sem, true_or, or_true]
def RecK (m : MM) (id : Nat) (e : Ex) : Prop := CallF Tryz.prog 169 [.ptr id 0, .agg e.cs] (mobj id m) 0 (fun _ o => o = { rs := [.int .i64 (e.of m)] })
theorem of4_ok (m : MM) (id : Nat) (e : Ex) (h : e.kind = 10) (hl : 0 < e.kids.length) (hr : RecK m id (e.kids.getD 0 default)) : OfK m id 228 e := by
  have he : e.of m = numIs (!((e.kids.getD 0 default).of m != 0)) := by rw [Ex.of_eq m e, h, Ex.ofL_get _ _ 0 hl]; rfl
  unfold OfK; rw [he]
  refine callF_of' Tryz.func228 rfl Tryz.ntmps228 (by simp) ?_
  intro f0 B ns Q hB hns hQ
  have hid : id < B := hB id (by simp [hasKey, lk, mobj])
  obtain rfl : ns = [] := List.eq_nil_of_length_eq_zero hns
  refine g_ [1,5] ?_
  refine n_ ?_
  refine wpM_regionK [6] rfl fun Q1 hQ1 => ?_
  refine S_ ?_
  refine call_rs hr T_ Tryz.call169 rfl rfl rfl F_ ?_
  refine S_ ?_
  refine cp_ (ion_ok ((e.kids.getD 0 default).of m)) Tryz.call136 ?_
  refine cp_ (iis_ok (!((e.kids.getD 0 default).of m != 0))) Tryz.call135 ?_
  refine hQ1 _ _ (S_ ?_);clear hQ1 Q1
  refine wpM_ret ?_
  try refine S_ ?_
  refine hQ _ _ (ret0 [] rfl rfl rfl (by rw [Tryz.results228] <;> simp (maxSteps := 1000000) -implicitDefEqProofs (disch := omega) only [go_sem] <;> rfl) rfl ?_ ?_ ?_ ?_)
  all_goals simp -implicitDefEqProofs (disch := omega) only [go_sem, true_or, or_true]
theorem of3_ok (m : MM) (id : Nat) (e : Ex) (h1 : (e.kind == 1) = false) (h2 : (e.kind == 2) = false) (h3 : (e.kind == 10) = false) (hl : 1 < e.kids.length) (hr : RecK m id (e.kids.getD 0 default)) (hr1 : RecK m id (e.kids.getD 1 default)) : OfK m id 224 e := by
  have hl0 : 0 < e.kids.length := by omega
  have he : e.of m = two e.kind ((e.kids.getD 0 default).of m) ((e.kids.getD 1 default).of m) := by rw [Ex.of_eq m e, h1, h2, h3, Ex.ofL_get _ _ 0 hl0, Ex.ofL_get _ _ 1 hl]; rfl
  unfold OfK; rw [he]
  refine callF_of' Tryz.func224 rfl Tryz.ntmps224 (by simp) ?_
  intro f0 B ns Q hB hns hQ
  have hid : id < B := hB id (by simp [hasKey, lk, mobj])
  obtain rfl : ns = [] := List.eq_nil_of_length_eq_zero hns
  refine g_ [1,5] ?_
  refine n_ ?_
  refine dr_ mixed [6] 0 2 [B + 1, id] [⟨[5],[],[],[],false⟩,⟨[7],[0],[],[],false⟩,⟨[1],[],[],[],false⟩,⟨[5],[],[],[],false⟩,⟨[10],[0],[],[],false⟩,⟨[11],[],[],[],false⟩,⟨[12],[],[],[],false⟩,⟨[9,13],[1],[],[],true⟩,⟨[1],[],[],[],false⟩,⟨[5],[],[],[],false⟩,⟨[16],[0],[],[],false⟩,⟨[17],[],[],[],false⟩,⟨[18],[],[],[],false⟩,⟨[15,19],[1],[],[],true⟩,⟨[8,14,20],[],[],[],true⟩,⟨[21],[],[],[],false⟩] [0,1,2,3,4,5,6,8,9,10,11,12,7,13,14,15] [[],[0],[],[],[3],[3,4],[3,4,5],[2,3,4,5,6],[],[],[9],[9,10],[9,10,11],[2,3,4,5,6,7,8,9,10,11,12],[0,1,2,3,4,5,6,7,8,9,10,11,12,13],[0,1,2,3,4,5,6,7,8,9,10,11,12,13,14]] 2 (htbl := by simp; omega) (hnm := by simp) ?_
  intro O A K hO hA hK;simp only [atL_cons,atL_nil,Nat.reduceAdd,Nat.zero_add] at hO hA
  refine SO_ ?_
  refine loud_r hr (subG_spec T_) Tryz.call169 rfl rfl F_ rfl ?_
  refine SO_ ?_
  refine loud_r hr1 (subG_spec T_) Tryz.call169 rfl rfl F_ rfl ?_
  refine SO_ ?_
  refine lp_ (itwo_ok e.kind ((e.kids.getD 0 default).of m) ((e.kids.getD 1 default).of m)) Tryz.call133 ?_
  refine hK _ (S_ ?_);clear hK K hO hA O A
  refine wpM_ret ?_
  try refine S_ ?_
  refine hQ _ _ (ret0 [] rfl rfl rfl (by rw [Tryz.results224] <;> simp (maxSteps := 1000000) -implicitDefEqProofs (disch := omega) only [go_sem] <;> rfl) rfl ?_ ?_ ?_ ?_)
  all_goals simp -implicitDefEqProofs (disch := omega) only [go_sem, true_or, or_true]
theorem rec_of (m : MM) (hm : m.Six) (id d : Nat) (e : Ex) (h : formD (d + 1) e = true) (ih : ∀ i, i < e.kids.length → RecK m id (e.kids.getD i default)) : ∃ t fo, recOf e.kind = .iface t (.agg []) ∧
    (∀ args w, (callFunc fo args).run Tryz.prog w = .ok (.enter fo args) w) ∧ (∀ (v : Value) w, (method (Tryz.prog.types.size + Made.depth) t v "loop.example/stopgate/impl.of").run Tryz.prog w = .ok (fo, v) w) ∧ OfK m id fo e := by
  obtain ⟨hk, ha, _⟩ := form_inv h
  by_cases h1 : e.kind = 1
  · exact ⟨196, 216, by rw [h1]; rfl, Tryz.call216, method_run info196 Tryz.underlying196 (by simp) (by rfl) rfl rfl, of1_ok m id e h1⟩
  by_cases h2 : e.kind = 2
  · exact ⟨197, 220, by rw [h2]; rfl, Tryz.call220, method_run info197 Tryz.underlying197 (by simp) (by rfl) rfl rfl, of2_ok m hm id e h2 (ha h2)⟩
  by_cases h10 : e.kind = 10
  · have hl : 0 < e.kids.length := by rw [h10] at hk; simp [kidsN] at hk; omega
    exact ⟨199, 228, by rw [h10]; rfl, Tryz.call228, method_run info199 Tryz.underlying199 (by simp) (by rfl) rfl rfl, of4_ok m id e h10 hl (ih 0 hl)⟩
  have g1 : (e.kind == 1) = false := by simpa using h1
  have g2 : (e.kind == 2) = false := by simpa using h2
  have g10 : (e.kind == 10) = false := by simpa using h10
  have h2' := kidsN_two g1 g2 g10 (by omega)
  have ht : isTwo e.kind = true := by
    unfold kidsN at h2'
    rw [g1, g2, g10] at h2'
    simp only [Bool.or_self, Bool.false_eq_true, if_false] at h2'
    unfold isTwo
    cases hh : (decide (e.kind ≥ 3) && decide (e.kind ≤ 9))
    · rw [hh] at h2'; simp at h2'
    · rfl
  have hl : 1 < e.kids.length := by omega
  exact ⟨198, 224, by simp [recOf, g1, g2, ht], Tryz.call224, method_run info198 Tryz.underlying198 (by simp) (by rfl) rfl rfl, of3_ok m id e g1 g2 g10 hl (ih 0 (by omega)) (ih 1 hl)⟩
theorem reckon_ok (m : MM) (hm : m.Six) (id : Nat) (d : Nat) : ∀ (e : Ex), formD d e = true → RecK m id e := by
  induction d with
  | zero => intro e h; cases h
  | succ d ih =>
    intro e he
    have hkids := (form_inv he).2.2
    obtain ⟨t, fo, hr, q1, q2, q3⟩ := rec_of m hm id d e he (fun i hi => ih _ (hkids i hi))
    unfold RecK
    refine callF_of' Tryz.func169 rfl Tryz.ntmps169 (by simp) ?_
    intro f0 B ns Q hB hns hQ
    have hid : id < B := hB id (by simp [hasKey, lk, mobj])
    obtain rfl : ns = [] := List.eq_nil_of_length_eq_zero hns
    refine g_ [0,3] ?_
    refine n_ ?_
    refine dr_ mixed [4] 0 2 [B, id] [⟨[3],[],[],[],false⟩,⟨[5],[0],[],[],false⟩,⟨[6],[],[],[],true⟩,⟨[0],[],[],[],false⟩,⟨[3],[0],[],[],false⟩,⟨[7,8,9],[1],[],[],true⟩,⟨[10],[],[],[],false⟩] [0,1,3,4,2,5,6] [[],[0],[0,1],[],[],[0,1,2,3,4],[0,1,2,3,4,5]] 2 (htbl := by simp; omega) (hnm := by simp) ?_
    intro O A K hO hA hK;simp only [atL_cons,atL_nil,Nat.reduceAdd,Nat.zero_add] at hO hA
    refine SO_ ?_
    refine lp_ (recOf_ok e.kind) Tryz.call117 ?_
    refine loud_inv (l := mobj id m) (ps := [.ptr id 0, .agg e.cs]) (k := 0) q3 q1 q2 rfl (by simp -implicitDefEqProofs (disch := omega) only [go_sem, hr]) F_ (subG_spec T_) rfl ?_
    rintro out rfl
    refine ⟨rfl, ?_⟩
    refine SO_ ?_
    refine hK _ (S_ ?_);clear hK K hO hA O A
    refine wpM_ret ?_
    try refine S_ ?_
    refine hQ _ _ (ret0 [] rfl rfl rfl (by rw [Tryz.results169] <;> simp (maxSteps := 1000000) -implicitDefEqProofs (disch := omega) only [go_sem] <;> rfl) rfl ?_ ?_ ?_ ?_)
    all_goals simp -implicitDefEqProofs (disch := omega) only [go_sem, true_or, or_true]
theorem flat_dt (m : MM) (hm : m.Six) : (m.flat.drop 0).take 6 = m.i ∧ (m.flat.drop 6).take 6 = m.o ∧ (m.flat.drop 12).take 6 = m.v := by
  have e1 := hm.i
  have e2 := hm.o
  have e3 := hm.v
  unfold MM.flat
  refine ⟨?_, ?_, ?_⟩
  · rw [List.drop_zero, List.take_append_of_le_length (by omega), List.take_of_length_le (by omega)]
  · rw [List.drop_append_of_le_length (by omega), List.drop_eq_nil_of_le (by omega), List.nil_append, List.take_append_of_le_length (by omega), List.take_of_length_le (by omega)]
  · rw [show m.i ++ (m.o ++ m.v) = (m.i ++ m.o) ++ m.v by simp, List.drop_append_of_le_length (by simp; omega), List.drop_eq_nil_of_le (by simp; omega), List.nil_append, List.take_of_length_le (by omega)]
theorem mem_ok (m : MM) (hm : m.Six) (id : Nat) : CallF Tryz.prog 83 [.ptr id 0] (mobj id m) 3 (fun ns o => ∃ x y z, ns = [x, y, z] ∧ o = { rs := [.agg (ocs x y z)], nw := m.ol x y z }) := by
  have hlen := MM.flat_len hm
  obtain ⟨d1, d2, d3⟩ := flat_dt m hm
  refine callF_of' Tryz.func83 rfl Tryz.ntmps83 (by simp) ?_
  intro f0 B ns Q hB hns hQ
  have hid : id < B := hB id (by simp [hasKey, lk, mobj])
  obtain ⟨x, y, z, rfl⟩ : ∃ x y z, ns = [x, y, z] := by
    match ns, hns with
    | [x, y, z], _ => exact ⟨x, y, z, rfl⟩
  refine g_ [0,2] ?_
  refine n_ ?_
  refine dr_ mixed [2] 3 2 [B, id, B + 1, B + 2, B + 3] [⟨[0],[],[],[],false⟩,⟨[3],[],[],[],false⟩,⟨[4],[1],[],[],false⟩,⟨[5],[1],[],[],false⟩,⟨[6],[1],[],[],false⟩,⟨[7],[1],[],[2],true⟩,⟨[0],[],[],[],false⟩,⟨[9],[],[],[],false⟩,⟨[10],[1],[],[],false⟩,⟨[11],[1],[],[],false⟩,⟨[12],[1],[],[],false⟩,⟨[13],[1],[],[3],true⟩,⟨[0],[],[],[],false⟩,⟨[15],[],[],[],false⟩,⟨[16],[1],[],[],false⟩,⟨[17],[1],[],[],false⟩,⟨[18],[1],[],[],false⟩,⟨[19],[1],[],[4],true⟩,⟨[8,14,20],[],[],[],false⟩,⟨[2,21],[0],[0],[],false⟩] [0,1,2,3,4,6,7,8,9,10,12,13,14,15,16,5,11,17,18,19] [[],[0],[0,1],[0,1,2],[0,1,2,3],[0,1,2,3,4],[],[6],[6,7],[6,7,8],[6,7,8,9],[0,1,2,3,4,5,6,7,8,9,10],[],[12],[12,13],[12,13,14],[12,13,14,15],[0,1,2,3,4,5,6,7,8,9,10,11,12,13,14,15,16],[0,1,2,3,4,5,6,7,8,9,10,11,12,13,14,15,16,17],[0,1,2,3,4,5,6,7,8,9,10,11,12,13,14,15,16,17,18]] 5 (htbl := by simp; omega) (hnm := by simp) ?_
  intro O A K hO hA hK;simp only [atL_cons,atL_nil,Nat.reduceAdd,Nat.zero_add] at hO hA
  refine SO_ ?_
  refine loud_fn (first := []) (cap := []) (ps := [.sl 3 id 0 6]) (l := mobj id m) (cloneI_ok id 0 122 m.flat (by omega)) Tryz.call115 rfl rfl F_ (subG_spec T_) rfl ?_
  rintro out ⟨x', hn', rfl⟩
  injection hn' with hn1 hn'
  subst hn1
  rw [d1]
  refine ⟨rfl, ?_⟩
  refine SO_ ?_
  refine loud_fn (first := []) (cap := []) (ps := [.sl 3 id 6 6]) (l := mobj id m) (cloneI_ok id 6 122 m.flat (by omega)) Tryz.call115 rfl rfl F_ (subG_spec T_) rfl ?_
  rintro out ⟨x', hn', rfl⟩
  injection hn' with hn1 hn'
  subst hn1
  rw [d2]
  refine ⟨rfl, ?_⟩
  refine SO_ ?_
  refine loud_fn (first := []) (cap := []) (ps := [.sl 3 id 12 6]) (l := mobj id m) (cloneI_ok id 12 122 m.flat (by omega)) Tryz.call115 rfl rfl F_ (subG_spec T_) rfl ?_
  rintro out ⟨x', hn', rfl⟩
  injection hn' with hn1 hn'
  subst hn1
  rw [d3]
  refine ⟨rfl, ?_⟩
  refine SO_ ?_
  refine hK _ (S_ ?_);clear hK K hO hA O A
  refine wpM_ret ?_
  try refine S_ ?_
  refine hQ _ _ (retK [B + 1, B + 2, B + 3] [] (m.ol x y z) rfl rfl rfl (by rw [Tryz.results83] <;> simp (maxSteps := 1000000) -implicitDefEqProofs (disch := omega) only [go_sem] <;> rfl) ?_ ⟨x, y, z, rfl, rfl⟩ ?_ ?_ ?_ ?_ ?_ ?_)
  all_goals (first | (simp -implicitDefEqProofs (disch := omega) only [go_sem, List.nodup_cons, List.nodup_nil, true_or, or_true, List.mem_cons, List.not_mem_nil]; done) | (simp -implicitDefEqProofs (disch := omega) only [go_sem, List.nodup_cons, List.nodup_nil, true_or, or_true, List.mem_cons, List.not_mem_nil]; omega))
end Go.Proofs.YtmicbfojofcigaaGreatDoor
namespace Go.Proofs.YtmicbfojofcigaaGreatDoor
open Go Sg
set_option linter.unusedSectionVars false
variable [Glob]
set_option maxRecDepth 100000
set_option linter.unusedSimpArgs false
set_option linter.unusedVariables false
set_option maxHeartbeats 4000000
theorem readMem_ok' (m : MM) (hm : m.Sm) : CallF Tryz.prog 42 [.agg m.cs] [] 1 (fun ns o => ∃ x p l, ns = [x] ∧ ((m.ok = true ∧ p = .ptr x 0 ∧ l = m.flat) ∨ (m.ok = false ∧ p = .nilp)) ∧ o = { rs := [p, .bool m.ok], nw := [(x, .cells 122 (ints l))] }) := by
  refine (readMem_ok m hm).mono ?_
  rintro ns o ⟨x, rfl, ⟨h, rfl⟩ | ⟨h, l, rfl⟩⟩
  · exact ⟨x, _, _, rfl, .inl ⟨h, rfl, rfl⟩, by rw [h]⟩
  · exact ⟨x, _, l, rfl, .inr ⟨h, rfl⟩, by rw [h]⟩
@[go_sem] theorem subL_bls (θ : TypeId → Nat → Nat → Nat → Option PV) (l : List Bool) : PV.subL θ (bls l) = bls l := by
  induction l with
  | nil => rfl
  | cons x l ih => simp only [bls, List.map_cons, PV.subL, PV.sub] at ih ⊢; rw [ih]
@[go_sem] theorem subL_ints (θ : TypeId → Nat → Nat → Nat → Option PV) (l : List Int) : PV.subL θ (ints l) = ints l := by
  induction l with
  | nil => rfl
  | cons x l ih => simp only [ints, List.map_cons, PV.subL, PV.sub] at ih ⊢; rw [ih]
theorem loc_eq (e : Ex) : (recNil e.kind || (e.kids.length : Int) != kidsR e.kind || !shapeR e) =
    (kidsN e.kind != (e.kids.length : Int) || ((e.kind == 1 && cut e.n != e.n) || (e.kind != 1 && e.n != 0)) || ((e.kind == 2 && !e.a.ok) || (e.kind != 2 && !(e.a.kind == 0 && e.a.at' == 0)))) := by
  unfold recNil kidsR shapeR kidsN noAddr isTwo
  simp only [isNum_cut]
  have hL : 0 ≤ (e.kids.length : Int) := by omega
  generalize (e.kids.length : Int) = L at *
  generalize cut e.n = cn
  generalize e.n = n
  generalize e.a.ok = ok
  generalize e.a.kind = ak
  generalize e.a.at' = aa
  generalize e.kind = k
  by_cases h1 : k = 1
  · subst h1
    rw [Bool.eq_iff_iff]
    cases ok <;> simp <;> omega
  by_cases h2 : k = 2
  · subst h2
    rw [Bool.eq_iff_iff]
    cases ok <;> simp <;> omega
  by_cases h10 : k = 10
  · subst h10
    rw [Bool.eq_iff_iff]
    cases ok <;> simp <;> omega
  have e1 : (k == 1) = false := by simpa using h1
  have e2 : (k == 2) = false := by simpa using h2
  have e3 : (k == 10) = false := by simpa using h10
  rw [e1, e2, e3]
  by_cases h3 : 3 ≤ k ∧ k ≤ 9
  · have f1 : decide (k ≥ 3) = true := by simp; omega
    have f2 : decide (k ≤ 9) = true := by simp; omega
    rw [f1, f2, Bool.eq_iff_iff]
    cases ok <;> simp <;> omega
  · have f : (decide (k ≥ 3) && decide (k ≤ 9)) = false := by
      rw [Bool.and_eq_false_iff]; simp; omega
    have fk : ((k ≥ 3) ∧ (k ≤ 9)) = False := by simp; omega
    rw [f, Bool.eq_iff_iff]
    cases ok <;> simp [bne, h1, h2] <;> omega
theorem form_eq (d : Nat) (e : Ex) : formD (d + 1) e = (!(recNil e.kind || (e.kids.length : Int) != kidsR e.kind || !shapeR e) && e.kids.all (formD d)) := by
  rw [loc_eq, formD]
  cases (kidsN e.kind != (e.kids.length : Int)) <;> simp only [Bool.false_eq_true, if_false, if_true, Bool.true_or, Bool.false_or, Bool.not_true, Bool.false_and]
  cases ((e.kind == 1 && cut e.n != e.n) || (e.kind != 1 && e.n != 0)) <;> simp only [Bool.false_eq_true, if_false, if_true, Bool.true_or, Bool.false_or, Bool.not_true, Bool.false_and]
  cases ((e.kind == 2 && !e.a.ok) || (e.kind != 2 && !(e.a.kind == 0 && e.a.at' == 0))) <;> simp
theorem bad_eq (c deep : Nat) (e : Ex) : badE ((c : Int) + 1) (deep : Int) e = (decide (14 ≤ c) || decide (6 ≤ deep) || (recNil e.kind || (e.kids.length : Int) != kidsR e.kind || !shapeR e)) := by
  unfold badE
  have h1 : decide ((c : Int) + 1 > 14) = decide (14 ≤ c) := by simp; omega
  have h2 : decide ((deep : Int) ≥ 6) = decide (6 ≤ deep) := by simp; omega
  rw [h1, h2]
  simp only [Bool.or_assoc]
theorem vis_sound (d : Nat) : d ≤ 6 → ∀ (e : Ex) (c c' : Nat), vis e (6 - d) c = some c' → formD d e = true ∧ c' = c + manyD d e ∧ c' ≤ 14 := by
  induction d with
  | zero =>
    intro _ e c c' h
    rw [vis_eq, bad_eq] at h
    simp at h
  | succ d ih =>
    intro hd e c c' h
    have hL : ∀ (l : List Ex) (c c' : Nat), c ≤ 14 → visL l (6 - d) c = some c' → l.all (formD d) = true ∧ c' = c + (l.map (manyD d)).sum ∧ c' ≤ 14 := by
      intro l
      induction l with
      | nil => intro c c' hc h; simp [visL] at h; subst h; simp [hc]
      | cons x l ihl =>
        intro c c' hc h
        simp only [visL] at h
        split at h
        · cases h
        · rename_i c1 h1
          obtain ⟨a1, a2, a3⟩ := ih (by omega) x c c1 h1
          obtain ⟨b1, b2, b3⟩ := ihl c1 c' a3 h
          refine ⟨by simp [a1, b1], ?_, b3⟩
          simp only [List.map_cons, List.sum_cons]; omega
    rw [vis_eq, bad_eq] at h
    split at h
    · cases h
    · rename_i hb
      simp only [Bool.or_eq_true, decide_eq_true_eq, not_or] at hb
      obtain ⟨⟨hb1, hb2⟩, hb3⟩ := hb
      have hdeep : 6 - (d + 1) + 1 = 6 - d := by omega
      rw [hdeep] at h
      obtain ⟨a1, a2, a3⟩ := hL e.kids (c + 1) c' (by omega) h
      refine ⟨?_, ?_, a3⟩
      · rw [form_eq, a1]
        simp only [Bool.and_true, Bool.not_eq_true', Bool.or_eq_false_iff]
        simp only [Bool.not_eq_true] at hb3
        exact ⟨⟨hb3.1.1, hb3.1.2⟩, hb3.2⟩
      · simp only [manyD]; omega
theorem vis_complete (d : Nat) : d ≤ 6 → ∀ (e : Ex) (c : Nat), formD d e = true → c + manyD d e ≤ 14 → vis e (6 - d) c = some (c + manyD d e) := by
  induction d with
  | zero => intro _ e c h; cases h
  | succ d ih =>
    intro hd e c hf hm
    have hL : ∀ (l : List Ex) (c : Nat), l.all (formD d) = true → c + (l.map (manyD d)).sum ≤ 14 → visL l (6 - d) c = some (c + (l.map (manyD d)).sum) := by
      intro l
      induction l with
      | nil => intro c _ _; simp [visL]
      | cons x l ihl =>
        intro c hl hs
        simp only [List.all_cons, Bool.and_eq_true] at hl
        simp only [List.map_cons, List.sum_cons] at hs ⊢
        simp only [visL, ih (by omega) x c hl.1 (by omega)]
        rw [ihl _ hl.2 (by omega)]
        congr 1; omega
    rw [form_eq] at hf
    simp only [Bool.and_eq_true, Bool.not_eq_true'] at hf
    simp only [manyD] at hm ⊢
    rw [vis_eq, bad_eq, hf.1]
    have h1 : decide (14 ≤ c) = false := by simp; omega
    have h2 : decide (6 ≤ 6 - (d + 1)) = false := by simp; omega
    rw [h1, h2]
    have hdeep : 6 - (d + 1) + 1 = 6 - d := by omega
    simp only [Bool.or_self, Bool.false_eq_true, if_false, hdeep]
    rw [hL e.kids (c + 1) hf.2 (by omega)]
    congr 1; omega
theorem vis_ok (e : Ex) : (vis e 0 0).isSome = e.ok := by
  rw [Bool.eq_iff_iff, Ex.ok, Bool.and_eq_true, decide_eq_true_eq]
  constructor
  · intro h
    obtain ⟨c', hc⟩ := Option.isSome_iff_exists.1 h
    obtain ⟨a1, a2, a3⟩ := vis_sound 6 (by omega) e 0 c' hc
    exact ⟨a1, by omega⟩
  · rintro ⟨h1, h2⟩
    have := vis_complete 6 (by omega) e 0 h1 (by omega)
    simp at this
    rw [this]; rfl
def iof (e : Ex) (m : MM) : Int := if m.ok && e.ok then e.of m else 0
end Go.Proofs.YtmicbfojofcigaaGreatDoor
namespace Go.Proofs.YtmicbfojofcigaaGreatDoor
open Go Sg
set_option linter.unusedSectionVars false
variable [Glob]
set_option maxRecDepth 100000
set_option linter.unusedSimpArgs false
set_option linter.unusedVariables false
set_option maxHeartbeats 4000000
def doOf (s : Sm) : PV :=
  if s.kind == 1 then .iface 149 (.agg [.int .i64 s.to'.kind, .int .i64 s.to'.at', .int .i64 s.e.kind, .int .i64 s.e.n, .int .i64 s.e.a.kind, .int .i64 s.e.a.at', .rows 50 (Ex.csL s.e.kids)])
  else if s.kind == 2 then .iface 151 (.agg [.int .i64 s.e.kind, .int .i64 s.e.n, .int .i64 s.e.a.kind, .int .i64 s.e.a.at', .rows 50 (Ex.csL s.e.kids), .rows 52 (Sm.csL s.th), .rows 52 (Sm.csL s.el)])
  else if s.kind == 3 then .iface 153 (.agg [.int .i64 s.e.kind, .int .i64 s.e.n, .int .i64 s.e.a.kind, .int .i64 s.e.a.at', .rows 50 (Ex.csL s.e.kids), .rows 52 (Sm.csL s.th)]) else .nilif
theorem doOf_pure (s : Sm) : (doOf s).pure = true := by
  unfold doOf
  repeat' split
  all_goals rfl
theorem doOf_ok (s : Sm) : PureF Tryz.prog 64 [.agg s.cs] [doOf s] := by
  refine pureF_of Tryz.func64 rfl Tryz.ntmps64 (by simp) (by simp [PV.pureL, doOf_pure]) ?_
  intro f0 B Q hQ
  refine g_ [1] ?_
  refine g_ [1,4] ?_
  refine g_ [1,4,5] ?_
  refine c_ (fun hc0 => ?_) fun hc0 => ?_
  ·
    refine g_ [2] ?_
    refine e_ Tryz.results64 ?_
    first
    | exact True.intro
    | simp only [doOf, *, ↓reduceIte, Bool.false_eq_true]
  refine g_ [1,4,13] ?_
  refine c_ (fun hc1 => ?_) fun hc1 => ?_
  ·
    refine g_ [2] ?_
    refine e_ Tryz.results64 ?_
    first
    | exact True.intro
    | simp only [doOf, *, ↓reduceIte, Bool.false_eq_true]
  refine g_ [1,23] ?_
  refine c_ (fun hc2 => ?_) fun hc2 => ?_
  ·
    refine g_ [2] ?_
    refine e_ Tryz.results64 ?_
    first
    | exact True.intro
    | simp only [doOf, *, ↓reduceIte, Bool.false_eq_true]
  refine g_ [2] ?_
  refine e_ Tryz.results64 ?_
  first
  | exact True.intro
  | simp only [doOf, *, ↓reduceIte, Bool.false_eq_true]
theorem plain1_ok (s : Sm) (v : List PV) (hv : v.all PV.cell = true) : PureF Tryz.prog 192 [.agg v, .agg s.cs] [.bool (s.to'.ok && s.to'.kind != 1 && (s.th.length : Int) == 0 && (s.el.length : Int) == 0)] := by
  refine pureF_of Tryz.func192 rfl Tryz.ntmps192 (by simp) T_ ?_
  intro f0 B Q hQ
  refine n_ ?_
  refine wpM_regionK [3] rfl fun Q1 hQ1 => ?_
  simp -implicitDefEqProofs (disch := omega) only [go_sem, hv, true_and]
  refine hQ1 _ _ (S_ ?_);clear hQ1 Q1
  refine n_ ?_
  refine wpM_regionK [4] rfl fun Q1 hQ1 => ?_
  refine SD_ ?_
  refine cpD_ (puts_ok s.to') Tryz.call121 ?_
  refine hQ1 _ _ (S_ ?_);clear hQ1 Q1
  refine e_ Tryz.results192 ?_
  first
  | exact True.intro
  | rfl
theorem plain2_ok (s : Sm) (v : List PV) (hv : v.all PV.cell = true) : PureF Tryz.prog 196 [.agg v, .agg s.cs] [.bool (s.to'.kind == 0 && s.to'.at' == 0)] := by
  refine pureF_of Tryz.func196 rfl Tryz.ntmps196 (by simp) T_ ?_
  intro f0 B Q hQ
  refine n_ ?_
  refine wpM_regionK [3] rfl fun Q1 hQ1 => ?_
  simp -implicitDefEqProofs (disch := omega) only [go_sem, hv, true_and]
  refine hQ1 _ _ (S_ ?_);clear hQ1 Q1
  refine g_ [4] ?_
  refine e_ Tryz.results196 ?_
  first
  | exact True.intro
  | rfl
theorem plain3_ok (s : Sm) (v : List PV) (hv : v.all PV.cell = true) : PureF Tryz.prog 200 [.agg v, .agg s.cs] [.bool (s.to'.kind == 0 && s.to'.at' == 0 && (s.el.length : Int) == 0)] := by
  refine pureF_of Tryz.func200 rfl Tryz.ntmps200 (by simp) T_ ?_
  intro f0 B Q hQ
  refine n_ ?_
  refine wpM_regionK [3] rfl fun Q1 hQ1 => ?_
  simp -implicitDefEqProofs (disch := omega) only [go_sem, hv, true_and]
  refine hQ1 _ _ (S_ ?_);clear hQ1 Q1
  refine gD_ [4] ?_
  refine e_ Tryz.results200 ?_
  first
  | exact True.intro
  | rfl
def doNil (s : Sm) : Bool := !(s.kind == 1 || s.kind == 2 || s.kind == 3)
@[go_sem] theorem eql_do (x : Operand) (v : Value) (s : Sm) : binOpA Tryz.prog .eql 106 x (.const v) (doOf s) .nilif = some (.bool (doNil s)) := by
  unfold doOf doNil
  cases h1 : s.kind == 1 <;> cases h2 : s.kind == 2 <;> cases h3 : s.kind == 3 <;> simp [binOpA, eqPair, eqA, Tryz.underlying106, isConstOp]
theorem do_plain (s : Sm) (hn : doNil s = false) : ∃ t v fp, doOf s = .iface t v ∧ (∀ args w, (callFunc fp args).run Tryz.prog w = .ok (.enter fp args) w) ∧
    (∀ (u : Value) w, (method (Tryz.prog.types.size + Made.depth) t u "loop.example/stopgate/impl.plain").run Tryz.prog w = .ok (fp, u) w) ∧ PureF Tryz.prog fp [v, .agg s.cs] [.bool s.plain] := by
  by_cases h1 : s.kind = 1
  · refine ⟨149, _, 192, by simp only [doOf, h1, beq_self_eq_true, if_true]; rfl, Tryz.call192, method_run info149 Tryz.underlying149 (by simp) (by rfl) rfl rfl, ?_⟩
    have := plain1_ok s
    simp only [Sm.plain, h1, beq_self_eq_true, if_true]
    exact this _ (by rfl)
  by_cases h2 : s.kind = 2
  · refine ⟨151, _, 196, by simp only [doOf, h2, beq_self_eq_true, if_true]; rfl, Tryz.call196, method_run info151 Tryz.underlying151 (by simp) (by rfl) rfl rfl, ?_⟩
    have := plain2_ok s
    simp only [Sm.plain, h2, beq_self_eq_true, if_true]
    exact this _ (by rfl)
  have h3 : s.kind = 3 := by simpa [doNil, h1, h2] using hn
  refine ⟨153, _, 200, by simp only [doOf, h3, beq_self_eq_true, if_true]; rfl, Tryz.call200, method_run info153 Tryz.underlying153 (by simp) (by rfl) rfl rfl, ?_⟩
  have := plain3_ok s
  simp only [Sm.plain, h3, beq_self_eq_true, if_true]
  exact this _ (by rfl)
def badS (n : Int) (deep : Int) (s : Sm) : Bool := decide (n > 16) || decide (deep ≥ 4) || doNil s || !s.plain || !(vis s.e 0 0).isSome
mutual
def Sm.vis : Sm → Nat → Nat → Option Nat
  | .mk k a e th el, d, c => if badS ((c : Int) + 1) (d : Int) (.mk k a e th el) then none else match Sm.visL th (d + 1) (c + 1) with
    | some c2 => Sm.visL el (d + 1) c2
    | none => none
def Sm.visL : List Sm → Nat → Nat → Option Nat
  | [], _, c => some c
  | s :: l, d, c => match s.vis d c with
    | some c2 => Sm.visL l d c2
    | none => none
end
end Go.Proofs.YtmicbfojofcigaaGreatDoor
namespace Go.Proofs.YtmicbfojofcigaaGreatDoor
open Go Sg
set_option linter.unusedSectionVars false
variable [Glob]
set_option maxRecDepth 100000
set_option linter.unusedSimpArgs false
set_option linter.unusedVariables false
set_option maxHeartbeats 4000000
theorem Sm.vis_eq (s : Sm) (d c : Nat) : s.vis d c = if badS ((c : Int) + 1) (d : Int) s then none else match Sm.visL s.th (d + 1) (c + 1) with
    | some c2 => Sm.visL s.el (d + 1) c2
    | none => none := by cases s; simp only [Sm.vis, Sm.th, Sm.el] <;> rfl
theorem Sm.visL_app (l : List Sm) : ∀ (r : List Sm) (d c : Nat), Sm.visL (l ++ r) d c = match Sm.visL l d c with
    | some c2 => Sm.visL r d c2
    | none => none := by
  induction l with
  | nil => intro r d c; rfl
  | cons s l ih =>
    intro r d c
    simp only [List.cons_append, Sm.visL]
    cases s.vis d c with
    | none => rfl
    | some c2 => exact ih r d c2
theorem Sm.visL_take (l : List Sm) (d c i : Nat) (h : i < l.length) : Sm.visL (l.take (i + 1)) d c = match Sm.visL (l.take i) d c with
    | some c2 => (l.getD i default).vis d c2
    | none => none := by
  rw [List.take_succ_eq_append_getElem h, Sm.visL_app]
  cases Sm.visL (l.take i) d c with
  | none => rfl
  | some c2 =>
    simp only [Sm.visL, List.getD, List.getElem?_eq_getElem h, Option.getD_some]
    cases (l[i]).vis d c2 <;> rfl
theorem Sm.visL_none {l : List Sm} {d c i : Nat} (h : Sm.visL (l.take i) d c = none) : Sm.visL l d c = none := by
  have := Sm.visL_app (l.take i) (l.drop i) d c
  rw [List.take_append_drop, h] at this
  exact this
def CntO (id : Nat) (l : List Sm) (d c : Nat) (_ : List Nat) (o : COut) : Prop :=
  ∃ (r : Option Nat) (c' : Nat), Sm.visL l d c = r ∧ c' ≤ 17 ∧ (∀ k, r = some k → c' = k ∧ k ≤ 16) ∧ o = { rs := [.bool r.isSome], u := [(id, some (.cells 3 [.int .i64 (c' : Nat)]))] }
def CntF (id : Nat) (l : List Sm) (d c : Nat) : Prop := CallF Tryz.prog 46 [.rows 52 (Sm.csL l), .int .i64 (d : Nat), .ptr id 0] [(id, .cells 3 [.int .i64 (c : Nat)])] 0 (CntO id l d c)
end Go.Proofs.YtmicbfojofcigaaGreatDoor
namespace Go.Proofs.YtmicbfojofcigaaGreatDoor
open Go Sg
set_option linter.unusedSectionVars false
variable [Glob]
set_option maxRecDepth 100000
set_option linter.unusedSimpArgs false
set_option linter.unusedVariables false
set_option maxHeartbeats 4000000
theorem count_ok (id : Nat) : ∀ (N : Nat) (l : List Sm), Sm.szL l ≤ N → Sm.szL l ≤ 1099511627776 → ∀ d c : Nat, d ≤ 4 → c ≤ 16 → CntF id l d c := by
  intro N
  induction N with
  | zero =>
    intro l hN
    have h0 : l.length = 0 := by have := Sm.len_szL l; omega
    obtain rfl : l = [] := List.eq_nil_of_length_eq_zero h0
    intro hs d c hd hc
    refine callF_of' Tryz.func46 rfl Tryz.ntmps46 (by simp) ?_
    intro f0 B ns Q hB hns hQ
    have hid : id < B := hB id (by simp [hasKey, lk])
    obtain rfl : ns = [] := List.eq_nil_of_length_eq_zero hns
    refine g_ [0,1,2] ?_
    refine g_ [1,2,10,11,12] ?_
    refine n_ ?_
    refine wpM_loopS (fun s n s' => s' = s) (0) ?_ ?_
    ·
      exact .here rfl
    rintro n s' rfl
    try refine S_ ?_
    refine g_ [1,2,10,11,12,13] ?_
    refine c_ (fun hc0 => ?_) fun hc0 => ?_
    · simp at hc0
    refine g_ [6] ?_
    refine wpM_ret ?_
    try refine S_ ?_
    refine hQ _ _ (ret0 [(id, some (.cells 3 [.int .i64 (c : Nat)]))] rfl rfl rfl (by rw [Tryz.results46] <;> simp (maxSteps := 1000000) -implicitDefEqProofs (disch := omega) only [go_sem] <;> rfl) ⟨some c, c, rfl, by omega, fun k hk => (by injection hk with hk; omega), rfl⟩ ?_ ?_ ?_ ?_)
    all_goals simp -implicitDefEqProofs (disch := omega) only [go_sem, true_or, or_true]
  | succ N ih =>
    intro l hN hs d c hd hc
    have hlen := Sm.len_szL l
    refine callF_of' Tryz.func46 rfl Tryz.ntmps46 (by simp) ?_
    intro f0 B ns Q hB hns hQ
    have hid : id < B := hB id (by simp [hasKey, lk])
    obtain rfl : ns = [] := List.eq_nil_of_length_eq_zero hns
    have hT : Tryz.prog.cellsOf 3 = 1 := cellsOf3
    refine g_ [0,1,2] ?_
    refine g_ [1,2,10,11,12] ?_
    refine n_ ?_
    refine wpM_loopS (fun s n s' => ∃ (i M ci : Nat), i + n = l.length ∧ B ≤ M ∧ Sm.visL (l.take i) d c = some ci ∧ ci ≤ 16 ∧ s' = { s with env := setE 12 (.int .i64 (i : Nat)) s.env, l := [(id, .cells 3 [.int .i64 (ci : Nat)])], M := M }) (l.length) ?_ ?_
    ·
      refine .of' _ _ ⟨0, _, c, by omega, Nat.le_refl _, rfl, hc, rfl⟩ ?_ ?_ ?_ <;> exact L_
    rintro n s' ⟨i, M, ci, hi, hM, hv, hci, rfl⟩
    try refine S_ ?_
    refine g_ [1,2,10,11,12,13] ?_
    refine c_ (fun hc0 => ?_) fun hc0 => ?_
    ·
      have hi2 : i < l.length := by omega
      have hin := Sm.get_in hi2
      refine g_ [1,2,8,10,11,12] ?_
      refine g_ [1,2,8,10,11,12] ?_
      refine n_ ?_
      refine wpM_regionK [1,2,8,9,10,11,12] rfl fun Q1 hQ1 => ?_
      refine S_ ?_
      refine cp_ (doOf_ok (l.getD i default)) Tryz.call64 ?_
      refine hQ1 _ _ (S_ ?_);clear hQ1 Q1
      refine n_ ?_
      refine wpM_regionK [1,2,8,10,11,12,46] rfl fun Q1 hQ1 => ?_
      refine SD_ ?_
      refine callG (v := .bool (l.getD i default).plain) (fun _ _ hb hk' => ?_) ?_
      · have hb2 := hb
        simp only [Bool.not_eq_true', Bool.or_eq_false_iff] at hb2
        obtain ⟨t, v, fp, hr, q1, q2, q3⟩ := do_plain _ hb2.2
        exact inv_p (args := [.agg (l.getD i default).cs]) q3 q1 q2 rfl rfl (by simp -implicitDefEqProofs (disch := omega) only [go_sem, hb, gd_of hb, hr]) (by simp -implicitDefEqProofs (disch := omega) only [go_sem, hb, gd_of hb]) hk'
      refine SD_ ?_
      first | refine cg_ (fun hb => iexprOk_ok (l.getD i default).e (by omega)) Tryz.call84 ?_ | refine cpD_ (iexprOk_ok (l.getD i default).e (by omega)) Tryz.call84 ?_
      refine hQ1 _ _ (S_ ?_);clear hQ1 Q1
      refine c_ (fun hc1 => ?_) fun hc1 => ?_
      ·
        refine g_ [6] ?_
        refine wpM_ret ?_
        try refine S_ ?_
        refine hQ _ _ (ret0 [(id, some (.cells 3 [.int .i64 ((ci + 1 : Nat) : Int)]))] rfl rfl rfl (by rw [Tryz.results46] <;> simp (maxSteps := 1000000) -implicitDefEqProofs (disch := omega) only [go_sem] <;> rfl) ⟨none, ci + 1, ?_, by omega, fun k hk => (by cases hk), rfl⟩ ?_ ?_ ?_ ?_)
        · refine Sm.visL_none (i := i + 1) ?_
          rw [Sm.visL_take l d c i hi2, hv]
          have hbad : badS ((ci : Int) + 1) (d : Int) (l.getD i default) = true := hc1
          simp only [Sm.vis_eq, hbad, if_true]
        all_goals simp -implicitDefEqProofs (disch := omega) only [go_sem, true_or, or_true]
        rfl
      have hbad : badS ((ci : Int) + 1) (d : Int) (l.getD i default) = false := hc1
      have hdd : d + 1 ≤ 4 := by
        simp only [badS, Bool.or_eq_false_iff, decide_eq_false_iff_not] at hbad; omega
      have hcc : ci + 1 ≤ 16 := by
        simp only [badS, Bool.or_eq_false_iff, decide_eq_false_iff_not] at hbad; omega
      refine n_ ?_
      refine wpM_regionK [1,2,10,11,12,62] rfl fun Q1 hQ1 => ?_
      refine SD_ ?_
      refine call_fn (l := [(id, .cells 3 [.int .i64 ((ci + 1 : Nat) : Int)])]) (first := []) (cap := []) (ps := [.rows 52 (Sm.csL (l.getD i default).th), .int .i64 ((d + 1 : Nat) : Int), .ptr id 0]) (ih (l.getD i default).th (by omega) (by omega) (d + 1) (ci + 1) hdd hcc) Tryz.call46 rfl rfl rfl (by simp -implicitDefEqProofs (disch := omega) only [go_sem] <;> rfl) (by simp -implicitDefEqProofs (disch := omega) only [go_sem] <;> rfl) ?_
      rintro out ⟨r1, c1, hr1, hc1', hk1, rfl⟩
      rcases r1 with _ | k1
      · refine S_ ?_
        refine hQ1 _ _ (S_ ?_)
        refine c1_ ?_
        refine g_ [6] ?_
        refine n_ ?_
        refine wpM_ret ?_
        try refine S_ ?_
        refine hQ _ _ (ret0 [(id, some (.cells 3 [.int .i64 (c1 : Nat)]))] rfl rfl rfl (by rw [Tryz.results46] <;> simp (maxSteps := 1000000) -implicitDefEqProofs (disch := omega) only [go_sem] <;> rfl) ⟨none, c1, ?_, hc1', fun k hk => (by cases hk), rfl⟩ ?_ ?_ ?_ ?_)
        · refine Sm.visL_none (i := i + 1) ?_
          rw [Sm.visL_take l d c i hi2, hv]
          simp only [Sm.vis_eq, hbad, hr1, Bool.false_eq_true, if_false]
        all_goals simp -implicitDefEqProofs (disch := omega) only [go_sem, true_or, or_true]
      obtain ⟨rfl, hk1⟩ := hk1 k1 rfl
      refine SD_ ?_
      refine call_fn (l := [(id, .cells 3 [.int .i64 (c1 : Nat)])]) (first := []) (cap := []) (ps := [.rows 52 (Sm.csL (l.getD i default).el), .int .i64 ((d + 1 : Nat) : Int), .ptr id 0]) (ih (l.getD i default).el (by omega) (by omega) (d + 1) c1 hdd hk1) Tryz.call46 rfl rfl rfl (by simp -implicitDefEqProofs (disch := omega) only [go_sem] <;> rfl) T_ ?_
      rintro out ⟨r2, c2, hr2, hc2', hk2, rfl⟩
      refine SD_ ?_
      refine hQ1 _ _ (S_ ?_);clear hQ1 Q1
      refine c_ (fun hc2 => ?_) fun hc2 => ?_
      ·
        refine g_ [6] ?_
        refine wpM_ret ?_
        try refine S_ ?_
        obtain rfl : r2 = none := by
          cases r2 with
          | none => rfl
          | some k2 => simp at hc2
        refine hQ _ _ (ret0 [(id, some (.cells 3 [.int .i64 (c2 : Nat)]))] rfl rfl rfl (by rw [Tryz.results46] <;> simp (maxSteps := 1000000) -implicitDefEqProofs (disch := omega) only [go_sem] <;> rfl) ⟨none, c2, ?_, hc2', fun k hk => (by cases hk), rfl⟩ ?_ ?_ ?_ ?_)
        · refine Sm.visL_none (i := i + 1) ?_
          rw [Sm.visL_take l d c i hi2, hv]
          simp only [Sm.vis_eq, hbad, hr1, hr2, Bool.false_eq_true, if_false]
        all_goals simp -implicitDefEqProofs (disch := omega) only [go_sem, true_or, or_true]
      refine g_ [1,2,10,11,12] ?_
      obtain ⟨k2, rfl⟩ : ∃ k2, r2 = some k2 := by
        cases r2 with
        | none => simp at hc2
        | some k2 => exact ⟨k2, rfl⟩
      obtain ⟨rfl, hk2⟩ := hk2 k2 rfl
      refine .of' _ _ ⟨n - 1, by omega, i + 1, _, c2, by omega, ?_, ?_, hk2, rfl⟩ ?_ ?_ ?_
      · exact M_
      · rw [Sm.visL_take l d c i hi2, hv]
        simp only [Sm.vis_eq, hbad, hr1, hr2, Bool.false_eq_true, if_false]
      all_goals exact L_
    refine g_ [6] ?_
    refine wpM_ret ?_
    try refine S_ ?_
    obtain rfl : i = l.length := by omega
    rw [List.take_of_length_le (Nat.le_refl _)] at hv
    refine hQ _ _ (ret0 [(id, some (.cells 3 [.int .i64 (ci : Nat)]))] rfl rfl rfl (by rw [Tryz.results46] <;> simp (maxSteps := 1000000) -implicitDefEqProofs (disch := omega) only [go_sem] <;> rfl) ⟨some ci, ci, hv, by omega, fun k hk => (by injection hk with hk; omega), rfl⟩ ?_ ?_ ?_ ?_)
    all_goals simp -implicitDefEqProofs (disch := omega) only [go_sem, true_or, or_true]
end Go.Proofs.YtmicbfojofcigaaGreatDoor
namespace Go.Proofs.YtmicbfojofcigaaGreatDoor
open Go Sg
set_option maxRecDepth 100000
set_option linter.unusedSimpArgs false
set_option linter.unusedVariables false
set_option linter.unusedSectionVars false
set_option maxHeartbeats 4000000
class ErrL extends Glob where
  eb : Nat
  eo : Nat
  tab0 : tab 0 = some [.iface 212 (.kptr eb eo)]
variable [ErrL]
def errL : PV := .iface 212 (.kptr ErrL.eb ErrL.eo)
@[go_sem] theorem tab_err : Glob.tab 0 = some [errL] := ErrL.tab0
theorem errL_eq : errL = .iface 212 (.kptr ErrL.eb ErrL.eo) := rfl
@[go_sem] theorem errL_cell : errL.cell = true := rfl
@[go_sem] theorem errL_pure : errL.pure = true := rfl
@[go_sem] theorem errL_ren (ρ : Nat → Nat) : errL.ren ρ = errL := rfl
@[go_sem] theorem errL_ids (p : Nat → Prop) : errL.ids p = True := rfl
def errV (b : Bool) : PV := if b then errL else .nilif
@[go_sem] theorem errV_true : errV true = errL := rfl
@[go_sem] theorem errV_false : errV false = .nilif := rfl
theorem errV_pure (b : Bool) : (errV b).pure = true := by cases b <;> rfl
@[go_sem] theorem errV_ren (b : Bool) (ρ : Nat → Nat) : (errV b).ren ρ = errV b := by cases b <;> rfl
@[go_sem] theorem errV_ids (b : Bool) (p : Nat → Prop) : (errV b).ids p = True := by cases b <;> rfl
theorem kp_err : kpT Tryz.prog 212 = true := by
  unfold kpT
  rw [Tryz.underlying212]
  kernel_rfl
@[go_sem] theorem eql_err (x y : Operand) : binOpA Tryz.prog .eql 70 x y errL errL = some (.bool true) := by
  simp [binOpA, errL, eqPair, eqA, Tryz.underlying70, kp_err]
@[go_sem] theorem eql_nil2 (x : Operand) (v : Value) : binOpA Tryz.prog .eql 70 x (.const v) .nilif .nilif = some (.bool true) := by
  simp [binOpA, isConstOp, Tryz.underlying70]
@[go_sem] theorem neq_nil2 (x : Operand) (v : Value) : binOpA Tryz.prog .neq 70 x (.const v) .nilif .nilif = some (.bool false) := by
  simp [binOpA, isConstOp, Tryz.underlying70]
@[go_sem] theorem eql_errn (x y : Operand) : binOpA Tryz.prog .eql 70 x y errL .nilif = some (.bool false) := by
  simp [binOpA, errL, eqPair, eqA, Tryz.underlying70]
@[go_sem] theorem eql_nerr (x y : Operand) : binOpA Tryz.prog .eql 70 x y .nilif errL = some (.bool false) := by
  simp [binOpA, errL, eqPair, eqA, Tryz.underlying70]
@[go_sem] theorem neq_errn (x y : Operand) : binOpA Tryz.prog .neq 70 x y errL .nilif = some (.bool true) := by
  simp [binOpA, errL, eqPair, eqA, Tryz.underlying70]
theorem typeOf_err : InPlace Tryz.prog 113 [errL] (.iface 184 (.agg [.kptr 1 212])) := by
  intro g w vals h
  obtain ⟨hs, h1⟩ := h
  have h0 := h1 0 (by simp)
  have : vals = #[vals.getD 0 undef] := by
    apply Array.ext
    · simpa using hs
    · intro i h2 h3
      obtain rfl : i = 0 := by simpa using h3
      simp [Array.getD, h2]
  generalize vals.getD 0 undef = v at h0 this
  subst this
  simp only [List.getElem_cons_zero, errL] at h0
  cases h0 with
  | iface _ _ u hu =>
    refine ⟨.iface 184 (.agg #[.pointer (some ⟨1, 212, none⟩)]), ?_, ?_⟩
    · rw [run_callFunc_extern Tryz.func113 (by kernel_rfl) (by kernel_rfl) (by kernel_rfl) (e := Extern.ReflectliteType.typeOf) (by kernel_rfl)]
      have : (Extern.ReflectliteType.typeOf #[.iface 212 u]).run Tryz.prog w = .ok (.iface 184 (.agg #[.pointer (some ⟨1, 212, none⟩)])) w := by kernel_rfl
      rw [this]; rfl
    · refine .iface _ _ _ (.agg _ _ rfl fun j hj => ?_)
      obtain rfl : j = 0 := by simpa using hj
      exact .kptr 1 _
theorem comparable_err : InPlace Tryz.prog 206 [.agg [.kptr 1 212]] (.bool true) := by
  intro g w vals h
  obtain ⟨hs, h1⟩ := h
  have h0 := h1 0 (by simp)
  have : vals = #[vals.getD 0 undef] := by
    apply Array.ext
    · simpa using hs
    · intro i h2 h3
      obtain rfl : i = 0 := by simpa using h3
      simp [Array.getD, h2]
  generalize vals.getD 0 undef = v at h0 this
  subst this
  simp only [List.getElem_cons_zero] at h0
  cases h0 with
  | agg _ vs hl hr =>
    have h2 := hr 0 (by simp)
    have : vs = #[vs.getD 0 undef] := by
      apply Array.ext
      · simpa using hl
      · intro i h2 h3
        obtain rfl : i = 0 := by simpa using h3
        simp [Array.getD, h2]
    generalize vs.getD 0 undef = v2 at h2 this
    subst this
    simp only [List.getElem_cons_zero] at h2
    cases h2
    refine ⟨.bool true, ?_, .bool _⟩
    rw [run_callFunc_extern Tryz.func206 (by kernel_rfl) (by kernel_rfl) (by kernel_rfl) (e := Extern.ReflectliteType.method fun t => do Extern.Rtype.noPackHeld "Comparable" t; pure (.bool (← typeInfo t).comparable)) (by kernel_rfl)]
    have : ((Extern.ReflectliteType.method fun t => do Extern.Rtype.noPackHeld "Comparable" t; pure (.bool (← typeInfo t).comparable)) #[.agg #[.pointer (some ⟨1, 212, none⟩)]]).run Tryz.prog w = .ok (.bool true) w := by kernel_rfl
    rw [this]; rfl
theorem method_cmp (v : Value) (w : World) : (method (Tryz.prog.types.size + Made.depth) 184 v "Comparable").run Tryz.prog w = .ok (206, v) w := method_run info184 Tryz.underlying184 (by simp) (by rfl) rfl rfl v w
theorem eis_ok : PureF Tryz.prog 114 [errL, errL, .bool true] [.bool true] := by
  refine pureF_of Tryz.func114 rfl Tryz.ntmps114 (by simp) T_ ?_
  intro f0 B Q hQ
  refine g_ [0,1,2] ?_
  refine n_ ?_
  refine wpM_loopS (fun s n s' => s' = s) (0) ?_ ?_
  ·
    exact .here rfl
  rintro n s' rfl
  try refine S_ ?_
  refine gD_ [0,1,2,19] ?_
  refine c1_ ?_
  refine g_ [6] ?_
  exact e_ Tryz.results114 True.intro
theorem errIs_ok (b : Bool) : PureF Tryz.prog 82 [errV b, errL] [.bool b] := by
  cases b
  · refine pureF_of Tryz.func82 rfl Tryz.ntmps82 (by simp) T_ ?_
    intro f0 B Q hQ
    refine g_ [0,1] ?_
    refine gD_ [0,1,11] ?_
    refine c1_ ?_
    refine g_ [4] ?_
    refine e_ Tryz.results82 ?_
    first
    | exact True.intro
    | rfl
  · refine pureF_of Tryz.func82 rfl Tryz.ntmps82 (by simp) T_ ?_
    intro f0 B Q hQ
    refine g_ [0,1] ?_
    refine gD_ [0,1,11] ?_
    refine c1_ ?_
    refine n_ ?_
    refine wpM_regionK [0,1,5] rfl fun Q1 hQ1 => ?_
    refine S_ ?_
    refine OpM_vcall typeOf_err rfl rfl T_ T_ ?_
    refine S_ ?_
    refine OpM_vinvoke comparable_err method_cmp rfl rfl T_ T_ ?_
    refine S_ ?_
    refine hQ1 _ _ (S_ ?_);clear hQ1 Q1
    refine n_ ?_
    refine wpM_regionK [4] rfl fun Q1 hQ1 => ?_
    refine S_ ?_
    refine cp_ (eis_ok) Tryz.call114 ?_
    refine hQ1 _ _ (S_ ?_);clear hQ1 Q1
    refine e_ Tryz.results82 ?_
    first
    | exact True.intro
    | rfl
end Go.Proofs.YtmicbfojofcigaaGreatDoor
namespace Go.Proofs.YtmicbfojofcigaaGreatDoor
open Go Sg
set_option maxRecDepth 100000
set_option linter.unusedSimpArgs false
set_option linter.unusedVariables false
set_option linter.unusedSectionVars false
set_option maxHeartbeats 4000000
variable [ErrL]
def wh (c : MM → Bool) (b : MM → Nat → MM × Nat × Bool) : Nat → MM → Nat → MM × Nat × Bool
  | 0, m, _ => (m, 0, true)
  | g + 1, m, F => if c m then (if (b m F).2.2 then b m F else if (b m F).2.1 = 0 then ((b m F).1, 0, true) else wh c b g (b m F).1 ((b m F).2.1 - 1)) else (m, F, false)
mutual
def Sm.ex : Sm → MM → Nat → MM × Nat × Bool
  | .mk k a e th el, m, F => if k == 1 then (m.put a (e.of m), F, false)
    else if k == 3 then wh (fun m => e.of m != 0) (fun m F => Sm.exL th m F) (F + 1) m F
    else if e.of m != 0 then Sm.exL th m F else Sm.exL el m F
def Sm.exL : List Sm → MM → Nat → MM × Nat × Bool
  | [], m, F => (m, F, false)
  | s :: l, m, F => if (s.ex m F).2.2 then s.ex m F else Sm.exL l (s.ex m F).1 (s.ex m F).2.1
end
@[go_sem] theorem Sm.exL_nil (m : MM) (F : Nat) : Sm.exL [] m F = (m, F, false) := by simp only [Sm.exL]
theorem Sm.ex_eq (s : Sm) (m : MM) (F : Nat) : s.ex m F = if s.kind == 1 then (m.put s.to' (s.e.of m), F, false)
    else if s.kind == 3 then wh (fun m => s.e.of m != 0) (fun m F => Sm.exL s.th m F) (F + 1) m F
    else if s.e.of m != 0 then Sm.exL s.th m F else Sm.exL s.el m F := by cases s; simp only [Sm.ex, Sm.kind, Sm.to', Sm.e, Sm.th, Sm.el] <;> rfl
theorem wh_le {c : MM → Bool} {b : MM → Nat → MM × Nat × Bool} (h : ∀ m F, (b m F).2.1 ≤ F) : ∀ g m F, (wh c b g m F).2.1 ≤ F
  | 0, m, F => by simp [wh]
  | g + 1, m, F => by
    simp only [wh]
    split
    · split
      · exact h m F
      · split
        · simp
        · exact Nat.le_trans (wh_le h g _ _) (by have := h m F; omega)
    · simp
theorem wh_six {c : MM → Bool} {b : MM → Nat → MM × Nat × Bool} (h : ∀ m F, m.Six → (b m F).1.Six) : ∀ g m F, m.Six → (wh c b g m F).1.Six
  | 0, m, F => fun hm => hm
  | g + 1, m, F => fun hm => by
    simp only [wh]
    split
    · split
      · exact h m F hm
      · split
        · exact h m F hm
        · exact wh_six h g _ _ (h m F hm)
    · exact hm
mutual
theorem Sm.ex_le : (s : Sm) → (m : MM) → (F : Nat) → (s.ex m F).2.1 ≤ F
  | .mk k a e th el, m, F => by
    simp only [Sm.ex]
    split
    · simp
    · split
      · exact wh_le (fun m F => Sm.exL_le th m F) _ _ _
      · split
        · exact Sm.exL_le th m F
        · exact Sm.exL_le el m F
theorem Sm.exL_le : (l : List Sm) → (m : MM) → (F : Nat) → (Sm.exL l m F).2.1 ≤ F
  | [], m, F => by simp [Sm.exL]
  | s :: l, m, F => by
    simp only [Sm.exL]
    split
    · exact Sm.ex_le s m F
    · exact Nat.le_trans (Sm.exL_le l _ _) (Sm.ex_le s m F)
end
mutual
theorem Sm.ex_six : (s : Sm) → (m : MM) → (F : Nat) → m.Six → (s.ex m F).1.Six
  | .mk k a e th el, m, F => fun hm => by
    simp only [Sm.ex]
    split
    · exact MM.put_six hm _ _
    · split
      · exact wh_six (fun m F hm => Sm.exL_six th m F hm) _ _ _ hm
      · split
        · exact Sm.exL_six th m F hm
        · exact Sm.exL_six el m F hm
theorem Sm.exL_six : (l : List Sm) → (m : MM) → (F : Nat) → m.Six → (Sm.exL l m F).1.Six
  | [], m, F => fun hm => hm
  | s :: l, m, F => fun hm => by
    simp only [Sm.exL]
    split
    · exact Sm.ex_six s m F hm
    · exact Sm.exL_six l _ _ (Sm.ex_six s m F hm)
end
theorem pair3 {x : MM × Nat × Bool} (h : x.2.2 = false) : (x.1, x.2.1, false) = x := by rw [← h]
theorem Sm.exL_app (l r : List Sm) (m : MM) (F : Nat) : Sm.exL (l ++ r) m F = if (Sm.exL l m F).2.2 then Sm.exL l m F else Sm.exL r (Sm.exL l m F).1 (Sm.exL l m F).2.1 := by
  induction l generalizing m F with
  | nil => simp [Sm.exL]
  | cons s l ih =>
    simp only [List.cons_append, Sm.exL]
    split
    · rfl
    · rw [ih]
theorem Sm.exL_take (l : List Sm) (m : MM) (F i : Nat) (h : i < l.length) : Sm.exL (l.take (i + 1)) m F = if (Sm.exL (l.take i) m F).2.2 then Sm.exL (l.take i) m F else (l.getD i default).ex (Sm.exL (l.take i) m F).1 (Sm.exL (l.take i) m F).2.1 := by
  rw [List.take_succ_eq_append_getElem h, Sm.exL_app]
  split
  · rfl
  · simp only [Sm.exL, List.getD, List.getElem?_eq_getElem h, Option.getD_some]
    split
    · rfl
    · rename_i h1; rw [Bool.not_eq_true] at h1; exact pair3 h1
theorem Sm.exL_long {l : List Sm} {m : MM} {F i : Nat} (h : (Sm.exL (l.take i) m F).2.2 = true) : Sm.exL l m F = Sm.exL (l.take i) m F := by
  have := Sm.exL_app (l.take i) (l.drop i) m F
  rw [List.take_append_drop, if_pos h] at this
  exact this
theorem formS_at {d : Nat} {l : List Sm} (h : formS d l = true) {i : Nat} (hi : i < l.length) : (l.getD i default).plain = true ∧ (l.getD i default).e.ok = true ∧ ∃ d', formS d' (l.getD i default).th = true ∧ formS d' (l.getD i default).el = true := by
  cases d with
  | zero => simp only [formS, beq_iff_eq] at h; omega
  | succ d =>
    simp only [formS, List.all_eq_true] at h
    have := h (l.getD i default) (by simp [List.getD, hi])
    simp only [Bool.and_eq_true] at this
    exact ⟨this.1.1.1, this.1.1.2, d, this.1.2, this.2⟩
theorem ok_form {e : Ex} (h : e.ok = true) : formD 6 e = true := by
  simp only [Ex.ok, Bool.and_eq_true] at h; first | exact h.1 | exact h.2
theorem put_flat {m : MM} (hm : m.Six) {a : AD} (ha : a.ok = true) (h1 : a.kind ≠ 1) (n : Int) : (m.put a n).flat = m.flat.set (pos a) (cut n) := by
  have hk : 1 ≤ a.kind ∧ a.kind ≤ 3 ∧ 0 ≤ a.at' ∧ a.at' < 6 := by simp only [AD.ok, Bool.and_eq_true, decide_eq_true_eq] at ha; omega
  have e1 := hm.i
  have e2 := hm.o
  have h23 : a.kind = 2 ∨ a.kind = 3 := by omega
  rcases h23 with h2 | h2
  · rw [MM.put2 (by rw [h2]; rfl)]
    unfold MM.flat pos
    rw [h2]
    show m.i ++ (m.o.set a.at'.toNat (cut n) ++ m.v) = (m.i ++ (m.o ++ m.v)).set (1 * 6 + a.at'.toNat) (cut n)
    rw [List.set_append_right _ _ (by omega), List.set_append_left _ _ (by omega)]
    congr 3; omega
  · rw [MM.put3 (by rw [h2]; rfl) (by rw [h2]; rfl)]
    unfold MM.flat pos
    rw [h2]
    show m.i ++ (m.o ++ m.v.set a.at'.toNat (cut n)) = (m.i ++ (m.o ++ m.v)).set (2 * 6 + a.at'.toNat) (cut n)
    rw [List.set_append_right _ _ (by omega), List.set_append_right _ _ (by omega)]
    congr 3; omega
def rfoot (r id F : Nat) (m : MM) : List (Nat × AObj) := [(r, .cells 68 [.ptr id 0, .int .i64 (F : Int)]), (id, .cells 122 (ints m.flat))]
@[go_sem] theorem rfoot_eq (r id F : Nat) (m : MM) : rfoot r id F m = [(r, .cells 68 [.ptr id 0, .int .i64 (F : Int)]), (id, .cells 122 (ints m.flat))] := rfl
def ru (r id : Nat) (x : MM × Nat × Bool) : List (Nat × Option AObj) := [(r, some (.cells 68 [.ptr id 0, .int .i64 (x.2.1 : Int)])), (id, some (.cells 122 (ints x.1.flat)))]
@[go_sem] theorem ru_eq (r id : Nat) (x : MM × Nat × Bool) : ru r id x = [(r, some (.cells 68 [.ptr id 0, .int .i64 (x.2.1 : Int)])), (id, some (.cells 122 (ints x.1.flat)))] := rfl
def ROut (r id : Nat) (x : MM × Nat × Bool) (_ : List Nat) (o : COut) : Prop := o = { rs := [errV x.2.2], u := ru r id x }
def AllK (r id : Nat) (l : List Sm) : Prop := ∀ (m : MM) (F : Nat), m.Six → F ≤ 1000 → CallF Tryz.prog 43 [.ptr r 0, .rows 52 (Sm.csL l)] (rfoot r id F m) 0 (ROut r id (Sm.exL l m F))
def DoK (r id : Nat) (s : Sm) (fo : Nat) (v : PV) : Prop := ∀ (m : MM) (F : Nat), m.Six → F ≤ 1000 → CallF Tryz.prog fo [v, .ptr r 0] (rfoot r id F m) 0 (ROut r id (s.ex m F))
theorem take_ok (r id F : Nat) (m : MM) (hrd : r ≠ id) (hF : F ≤ 1000) : CallF Tryz.prog 190 [.ptr r 0] (rfoot r id F m) 0 (ROut r id (m, F - 1, decide (F = 0))) := by
  refine callF_of' Tryz.func190 rfl Tryz.ntmps190 (by simp) ?_
  intro f0 B ns Q hB hns hQ
  have hid : r < B := hB r (by simp [hasKey, lk, rfoot])
  obtain rfl : ns = [] := List.eq_nil_of_length_eq_zero hns
  refine g_ [0] ?_
  refine g_ [0,7] ?_
  refine c_ (fun hc0 => ?_) fun hc0 => ?_
  ·
    refine g_ [2] ?_
    refine wpM_ret ?_
    try refine S_ ?_
    have h0 : F = 0 := by simpa using hc0
    subst h0
    refine hQ _ _ (ret0 (ru r id (m, 0, true)) rfl rfl rfl (by rw [Tryz.results190] <;> simp (maxSteps := 1000000) -implicitDefEqProofs (disch := omega) only [go_sem] <;> rfl) rfl ?_ ?_ ?_ ?_)
    all_goals simp -implicitDefEqProofs (disch := omega) only [go_sem, true_or, or_true]
  refine g_ [] ?_
  refine g_ [2] ?_
  refine wpM_ret ?_
  try refine S_ ?_
  have h0 : ¬ F = 0 := by simpa using hc0
  have h1 : ((F - 1 : Nat) : Int) = (F : Int) - 1 := by omega
  refine hQ _ _ (ret0 (ru r id (m, F - 1, false)) rfl rfl rfl (by rw [Tryz.results190] <;> simp (maxSteps := 1000000) -implicitDefEqProofs (disch := omega) only [go_sem] <;> rfl) (by rw [ROut, decide_eq_false h0]; rfl) ?_ ?_ ?_ ?_)
  all_goals simp -implicitDefEqProofs (disch := omega) only [go_sem, h1, true_or, or_true]
theorem set_do (r id : Nat) (hrd : r ≠ id) (s : Sm) (hk : (s.kind == 1) = true) (ha : s.to'.ok = true) (h1 : s.to'.kind ≠ 1) (he : s.e.ok = true) : DoK r id s 191 (.agg [.int .i64 s.to'.kind, .int .i64 s.to'.at', .int .i64 s.e.kind, .int .i64 s.e.n, .int .i64 s.e.a.kind, .int .i64 s.e.a.at', .rows 50 (Ex.csL s.e.kids)]) := by
  intro m F hm hF
  rw [Sm.ex_eq, hk, if_pos rfl]
  have hr := reckon_ok m hm id 6 s.e (ok_form he)
  have hp := put_flat hm ha h1 (s.e.of m)
  refine callF_of' Tryz.func191 rfl Tryz.ntmps191 (by simp) ?_
  intro f0 B ns Q hB hns hQ
  have hid : r < B := hB r (by simp [hasKey, lk, rfoot])
  have hid2 : id < B := hB id (by simp [hasKey, lk, rfoot, hrd])
  obtain rfl : ns = [] := List.eq_nil_of_length_eq_zero hns
  refine g_ [1,2] ?_
  refine n_ ?_
  refine dr_ mixed [] 0 3 [B, r, id] [⟨[1],[],[],[],false⟩,⟨[5],[],[],[],false⟩,⟨[6],[],[],[],false⟩,⟨[7],[1],[],[],false⟩,⟨[2],[],[],[],false⟩,⟨[9],[0],[],[],false⟩,⟨[1],[],[],[],false⟩,⟨[11],[],[],[],false⟩,⟨[12],[],[],[],false⟩,⟨[13],[1],[],[],false⟩,⟨[2],[],[],[],false⟩,⟨[15],[0],[],[],false⟩,⟨[14,16],[2],[],[],true⟩,⟨[8,10,17],[2],[2],[],true⟩] [0,1,2,3,4,5,6,7,8,9,10,11,12,13] [[],[0],[0,1],[0,1,2],[],[4],[],[6],[6,7],[6,7,8],[],[10],[6,7,8,9,10,11],[0,1,2,3,4,5,6,7,8,9,10,11,12]] 3 (htbl := by simp; omega) (hnm := by simp) ?_
  intro O A K hO hA hK;simp only [atL_cons,atL_nil,Nat.reduceAdd,Nat.zero_add] at hO hA
  refine SO_ ?_
  refine loud_r hr (subG_spec T_) Tryz.call169 rfl rfl F_ rfl ?_
  refine SO_ ?_
  refine loud_fn (first := []) (cap := []) (ps := [.ptr id 0, .agg s.to'.cs, .int .i64 (s.e.of m)]) (l := mobj id m) (iput_ok id m.flat s.to' (s.e.of m) ha h1 (MM.flat_len hm)) Tryz.call130 rfl rfl F_ (subG_spec T_) rfl ?_
  rintro out rfl
  rw [← hp]
  refine ⟨rfl, ?_⟩
  refine SO_ ?_
  refine hK _ (S_ ?_);clear hK K hO hA O A
  refine g_ [4] ?_
  refine wpM_ret ?_
  try refine S_ ?_
  refine hQ _ _ (ret0 (ru r id (m.put s.to' (s.e.of m), F, false)) rfl rfl rfl (by rw [Tryz.results191] <;> simp (maxSteps := 1000000) -implicitDefEqProofs (disch := omega) only [go_sem] <;> rfl) rfl ?_ ?_ ?_ ?_)
  all_goals simp -implicitDefEqProofs (disch := omega) only [go_sem, true_or, or_true]
theorem if_do (r id : Nat) (hrd : r ≠ id) (s : Sm) (hk : (s.kind == 1) = false) (hk3 : (s.kind == 3) = false) (he : s.e.ok = true) (ht : AllK r id s.th) (hl : AllK r id s.el) : DoK r id s 195 (.agg [.int .i64 s.e.kind, .int .i64 s.e.n, .int .i64 s.e.a.kind, .int .i64 s.e.a.at', .rows 50 (Ex.csL s.e.kids), .rows 52 (Sm.csL s.th), .rows 52 (Sm.csL s.el)]) := by
  intro m F hm hF
  rw [Sm.ex_eq, hk, hk3, if_neg (by simp), if_neg (by simp)]
  have hr := reckon_ok m hm id 6 s.e (ok_form he)
  refine callF_of' Tryz.func195 rfl Tryz.ntmps195 (by simp) ?_
  intro f0 B ns Q hB hns hQ
  have hid : r < B := hB r (by simp [hasKey, lk, rfoot])
  have hid2 : id < B := hB id (by simp [hasKey, lk, rfoot, hrd])
  obtain rfl : ns = [] := List.eq_nil_of_length_eq_zero hns
  refine g_ [1,2] ?_
  refine n_ ?_
  refine dr_ mixed [1,2,12] 0 3 [B, r, id] [⟨[1],[],[],[],false⟩,⟨[5],[],[],[],false⟩,⟨[6],[],[],[],false⟩,⟨[7],[1],[],[],false⟩,⟨[2],[],[],[],false⟩,⟨[9],[0],[],[],false⟩,⟨[8,10],[2],[],[],true⟩,⟨[11],[],[],[],true⟩] [0,1,2,3,4,5,6,7] [[],[0],[0,1],[0,1,2],[],[4],[0,1,2,3,4,5],[0,1,2,3,4,5,6]] 3 (htbl := by simp; omega) (hnm := by simp) ?_
  intro O A K hO hA hK;simp only [atL_cons,atL_nil,Nat.reduceAdd,Nat.zero_add] at hO hA
  refine SO_ ?_
  refine loud_r hr (subG_spec T_) Tryz.call169 rfl rfl F_ rfl ?_
  refine SO_ ?_
  refine lp_ (ion_ok (s.e.of m)) Tryz.call136 ?_
  refine hK _ (S_ ?_);clear hK K hO hA O A
  refine c_ (fun hc0 => ?_) fun hc0 => ?_
  ·
    refine n_ ?_
    refine wpM_regionK [4] rfl fun Q1 hQ1 => ?_
    refine S_ ?_
    refine call_fn (l := rfoot r id F m) (first := []) (cap := []) (ps := [.ptr r 0, .rows 52 (Sm.csL s.th)]) (ht m F hm hF) Tryz.call43 rfl rfl rfl G_ T_ ?_
    rintro out rfl
    refine S_ ?_
    refine hQ1 _ _ (S_ ?_);clear hQ1 Q1
    refine wpM_ret ?_
    try refine S_ ?_
    rw [if_pos hc0] at hQ
    refine hQ _ _ (ret0 (ru r id (Sm.exL s.th m F)) rfl rfl rfl (by rw [Tryz.results195] <;> simp (maxSteps := 1000000) -implicitDefEqProofs (disch := omega) only [go_sem] <;> rfl) rfl ?_ ?_ ?_ ?_)
    all_goals simp -implicitDefEqProofs (disch := omega) only [go_sem, true_or, or_true]
  refine n_ ?_
  refine wpM_regionK [4] rfl fun Q1 hQ1 => ?_
  refine S_ ?_
  refine call_fn (l := rfoot r id F m) (first := []) (cap := []) (ps := [.ptr r 0, .rows 52 (Sm.csL s.el)]) (hl m F hm hF) Tryz.call43 rfl rfl rfl G_ T_ ?_
  rintro out rfl
  refine S_ ?_
  refine hQ1 _ _ (S_ ?_);clear hQ1 Q1
  refine wpM_ret ?_
  try refine S_ ?_
  rw [if_neg (by rw [hc0]; simp)] at hQ
  refine hQ _ _ (ret0 (ru r id (Sm.exL s.el m F)) rfl rfl rfl (by rw [Tryz.results195] <;> simp (maxSteps := 1000000) -implicitDefEqProofs (disch := omega) only [go_sem] <;> rfl) rfl ?_ ?_ ?_ ?_)
  all_goals simp -implicitDefEqProofs (disch := omega) only [go_sem, true_or, or_true]
@[go_sem] theorem neq_errV (x : Operand) (v : Value) (b : Bool) : binOpA Tryz.prog .neq 70 x (.const v) (errV b) .nilif = some (.bool b) := by
  cases b
  · exact neq_nil2 x v
  · exact neq_errn x (.const v)
theorem while_do (r id : Nat) (hrd : r ≠ id) (s : Sm) (hk : (s.kind == 1) = false) (hk3 : (s.kind == 3) = true) (he : s.e.ok = true) (ht : AllK r id s.th) : DoK r id s 199 (.agg [.int .i64 s.e.kind, .int .i64 s.e.n, .int .i64 s.e.a.kind, .int .i64 s.e.a.at', .rows 50 (Ex.csL s.e.kids), .rows 52 (Sm.csL s.th)]) := by
  intro m F hm hF
  rw [Sm.ex_eq, hk, hk3, if_neg (by simp), if_pos rfl]
  have hr : ∀ m : MM, m.Six → RecK m id s.e := fun m hm => reckon_ok m hm id 6 s.e (ok_form he)
  refine callF_of' Tryz.func199 rfl Tryz.ntmps199 (by simp) ?_
  intro f0 B ns Q hB hns hQ
  have hid : r < B := hB r (by simp [hasKey, lk, rfoot])
  have hid2 : id < B := hB id (by simp [hasKey, lk, rfoot, hrd])
  obtain rfl : ns = [] := List.eq_nil_of_length_eq_zero hns
  generalize hcb : (fun m F => Sm.exL s.th m F) = b at hQ
  generalize hcc : (fun m => s.e.of m != 0) = c at hQ
  generalize hW : wh c b (F + 1) m F = W at hQ
  refine g_ [1,2] ?_
  refine n_ ?_
  refine wpM_loopS (fun q n s' => ∃ (g M : Nat) (m' : MM), m'.Six ∧ n < g ∧ n ≤ 1000 ∧ W = wh c b g m' n ∧ q.M ≤ M ∧ s' = { q with env := q.env, l := [(B, .cells 153 [.int .i64 s.e.kind, .int .i64 s.e.n, .int .i64 s.e.a.kind, .int .i64 s.e.a.at', .rows 50 (Ex.csL s.e.kids), .rows 52 (Sm.csL s.th)])] ++ rfoot r id n m', M := M }) (F) ?_ ?_
  ·
    refine .of' _ _ ⟨F + 1, _, m, hm, by omega, hF, hW.symm, Nat.le_refl _, rfl⟩ ?_ ?_ ?_ <;> exact L_
  rintro n s' ⟨g, M, m', hm', hng, hn, hw, hM, rfl⟩
  clear hW
  try dsimp only at hM
  obtain ⟨g, rfl⟩ : ∃ g', g = g' + 1 := ⟨g - 1, by omega⟩
  simp only [wh] at hw
  have hc' : c m' = (s.e.of m' != 0) := by rw [← hcc]
  have hb' : b m' n = Sm.exL s.th m' n := by rw [← hcb]
  rw [hc', hb'] at hw
  have hle := Sm.exL_le s.th m' n
  have hsx := Sm.exL_six s.th m' n hm'
  try refine S_ ?_
  refine n_ ?_
  refine dr_ mixed [1,2,14] 0 3 [B, r, id] [⟨[1],[],[],[],false⟩,⟨[7],[],[],[],false⟩,⟨[8],[],[],[],false⟩,⟨[9],[1],[],[],false⟩,⟨[2],[],[],[],false⟩,⟨[11],[0],[],[],false⟩,⟨[10,12],[2],[],[],true⟩,⟨[13],[],[],[],true⟩] [0,1,2,3,4,5,6,7] [[],[0],[0,1],[0,1,2],[],[4],[0,1,2,3,4,5],[0,1,2,3,4,5,6]] 3 (htbl := by simp; omega) (hnm := by simp) ?_
  intro O A K hO hA hK;simp only [atL_cons,atL_nil,Nat.reduceAdd,Nat.zero_add] at hO hA
  refine SO_ ?_
  refine loud_r (hr m' hm') (subG_spec T_) Tryz.call169 rfl rfl F_ rfl ?_
  refine SO_ ?_
  refine lp_ (ion_ok (s.e.of m')) Tryz.call136 ?_
  refine hK _ (S_ ?_);clear hK K hO hA O A
  refine c_ (fun hc0 => ?_) fun hc0 => ?_
  ·
    rw [if_pos hc0] at hw
    refine n_ ?_
    refine wpM_regionK [1,2,5] rfl fun Q1 hQ1 => ?_
    refine S_ ?_
    refine call_fn (l := rfoot r id n m') (first := []) (cap := []) (ps := [.ptr r 0, .rows 52 (Sm.csL s.th)]) (ht m' n hm' hn) Tryz.call43 rfl rfl rfl G_ T_ ?_
    rintro out rfl
    refine S_ ?_
    refine hQ1 _ _ (S_ ?_);clear hQ1 Q1
    refine g_ [1,2,5,20] ?_
    refine c_ (fun hc1 => ?_) fun hc1 => ?_
    ·
      rw [if_pos hc1] at hw
      refine g_ [4] ?_
      refine wpM_ret ?_
      try refine S_ ?_
      rw [hw] at hQ
      refine hQ _ _ (ret0 (ru r id (Sm.exL s.th m' n)) rfl rfl rfl (by rw [Tryz.results199] <;> simp (maxSteps := 1000000) -implicitDefEqProofs (disch := omega) only [go_sem] <;> rfl) rfl ?_ ?_ ?_ ?_)
      all_goals simp -implicitDefEqProofs (disch := omega) only [go_sem, true_or, or_true]
    rw [if_neg (by rw [hc1]; simp)] at hw
    refine n_ ?_
    refine wpM_regionK [1,2,6] rfl fun Q1 hQ1 => ?_
    refine S_ ?_
    refine call_fn (l := rfoot r id (Sm.exL s.th m' n).2.1 (Sm.exL s.th m' n).1) (first := []) (cap := []) (ps := [.ptr r 0]) (take_ok r id (Sm.exL s.th m' n).2.1 (Sm.exL s.th m' n).1 hrd (by omega)) Tryz.call190 rfl rfl rfl G_ T_ ?_
    rintro out rfl
    refine S_ ?_
    refine hQ1 _ _ (S_ ?_);clear hQ1 Q1
    refine g_ [1,2,6,25] ?_
    refine c_ (fun hc2 => ?_) fun hc2 => ?_
    ·
      rw [if_pos hc2] at hw
      refine g_ [4] ?_
      refine wpM_ret ?_
      try refine S_ ?_
      rw [hw] at hQ
      refine hQ _ _ (ret0 (ru r id ((Sm.exL s.th m' n).1, 0, true)) rfl rfl rfl (by rw [Tryz.results199] <;> simp (maxSteps := 1000000) -implicitDefEqProofs (disch := omega) only [go_sem] <;> rfl) (by rw [decide_eq_true hc2]; rfl) ?_ ?_ ?_ ?_)
      all_goals simp -implicitDefEqProofs (disch := omega) only [go_sem, hc2, true_or, or_true]
    rw [if_neg hc2] at hw
    refine n_ ?_
    refine .of' _ _ ⟨(Sm.exL s.th m' n).2.1 - 1, by omega, g, _, (Sm.exL s.th m' n).1, hsx, by omega, by omega, hw, ?_, rfl⟩ ?_ ?_ ?_
    · exact M_
    all_goals exact L_
  rw [if_neg (by rw [hc0]; simp)] at hw
  refine g_ [4] ?_
  refine wpM_ret ?_
  try refine S_ ?_
  rw [hw] at hQ
  refine hQ _ _ (ret0 (ru r id (m', n, false)) rfl rfl rfl (by rw [Tryz.results199] <;> simp (maxSteps := 1000000) -implicitDefEqProofs (disch := omega) only [go_sem] <;> rfl) rfl ?_ ?_ ?_ ?_)
  all_goals simp -implicitDefEqProofs (disch := omega) only [go_sem, true_or, or_true]
theorem do_do (r id : Nat) (hrd : r ≠ id) (s : Sm) (hp : s.plain = true) (he : s.e.ok = true) (ht : AllK r id s.th) (hl : AllK r id s.el) : ∃ t v fp, doOf s = .iface t v ∧ (∀ args w, (callFunc fp args).run Tryz.prog w = .ok (.enter fp args) w) ∧
    (∀ (u : Value) w, (method (Tryz.prog.types.size + Made.depth) t u "loop.example/stopgate/impl.do").run Tryz.prog w = .ok (fp, u) w) ∧ DoK r id s fp v := by
  by_cases h1 : s.kind = 1
  · have ha : s.to'.ok = true ∧ s.to'.kind ≠ 1 := by
      simp only [Sm.plain, h1, beq_self_eq_true, if_true, Bool.and_eq_true, bne_iff_ne] at hp
      exact hp.1.1
    exact ⟨149, _, 191, by simp only [doOf, h1, beq_self_eq_true, if_true] <;> rfl, Tryz.call191, method_run info149 Tryz.underlying149 (by simp) (by rfl) rfl rfl, set_do r id hrd s (by rw [h1]; rfl) ha.1 ha.2 he⟩
  by_cases h2 : s.kind = 2
  · exact ⟨151, _, 195, by simp only [doOf, h2, beq_self_eq_true, if_true] <;> rfl, Tryz.call195, method_run info151 Tryz.underlying151 (by simp) (by rfl) rfl rfl, if_do r id hrd s (by rw [h2]; rfl) (by rw [h2]; rfl) he ht hl⟩
  have h3 : s.kind = 3 := by
    by_cases h3 : s.kind = 3
    · exact h3
    · simp [Sm.plain, h1, h2, h3] at hp
  exact ⟨153, _, 199, by simp only [doOf, h3, beq_self_eq_true, if_true] <;> rfl, Tryz.call199, method_run info153 Tryz.underlying153 (by simp) (by rfl) rfl rfl, while_do r id hrd s (by rw [h3]; rfl) (by rw [h3]; rfl) he ht⟩
theorem all_ok (r id : Nat) (hrd : r ≠ id) : ∀ (N : Nat) (l : List Sm), Sm.szL l ≤ N → Sm.szL l ≤ 1099511627776 → (∃ d, formS d l = true) → AllK r id l := by
  intro N
  induction N with
  | zero =>
    intro l hN hs ⟨d, hf⟩ m F hm hF
    have h0 : l.length = 0 := by have := Sm.len_szL l; omega
    obtain rfl : l = [] := List.eq_nil_of_length_eq_zero h0
    refine callF_of' Tryz.func43 rfl Tryz.ntmps43 (by simp) ?_
    intro f0 B ns Q hB hns hQ
    have hid : r < B := hB r (by simp [hasKey, lk, rfoot])
    have hid2 : id < B := hB id (by simp [hasKey, lk, rfoot, hrd])
    obtain rfl : ns = [] := List.eq_nil_of_length_eq_zero hns
    refine g_ [0,1] ?_
    refine g_ [0,8,9,10] ?_
    refine n_ ?_
    refine wpM_loopS (fun s n s' => s' = s) (0) ?_ ?_
    ·
      exact .here rfl
    rintro n s' rfl
    try refine S_ ?_
    refine g_ [0,8,9,10,11] ?_
    refine c_ (fun hc0 => ?_) fun hc0 => ?_
    · simp at hc0
    refine g_ [4] ?_
    refine wpM_ret ?_
    try refine S_ ?_
    refine hQ _ _ (ret0 (ru r id (m, F, false)) rfl rfl rfl (by rw [Tryz.results43] <;> simp (maxSteps := 1000000) -implicitDefEqProofs (disch := omega) only [go_sem] <;> rfl) rfl ?_ ?_ ?_ ?_)
    all_goals simp -implicitDefEqProofs (disch := omega) only [go_sem, true_or, or_true]
  | succ N ih =>
    intro l hN hs ⟨d, hf⟩ m F hm hF
    have hlen := Sm.len_szL l
    have hdo : ∀ i, i < l.length → ∃ t v fp, doOf (l.getD i default) = .iface t v ∧ (∀ args w, (callFunc fp args).run Tryz.prog w = .ok (.enter fp args) w) ∧
        (∀ (u : Value) w, (method (Tryz.prog.types.size + Made.depth) t u "loop.example/stopgate/impl.do").run Tryz.prog w = .ok (fp, u) w) ∧ DoK r id (l.getD i default) fp v := by
      intro i hi
      obtain ⟨h1, h2, d', h3, h4⟩ := formS_at hf hi
      have := Sm.get_in hi
      exact do_do r id hrd _ h1 h2 (ih _ (by omega) (by omega) ⟨d', h3⟩) (ih _ (by omega) (by omega) ⟨d', h4⟩)
    refine callF_of' Tryz.func43 rfl Tryz.ntmps43 (by simp) ?_
    intro f0 B ns Q hB hns hQ
    have hid : r < B := hB r (by simp [hasKey, lk, rfoot])
    have hid2 : id < B := hB id (by simp [hasKey, lk, rfoot, hrd])
    obtain rfl : ns = [] := List.eq_nil_of_length_eq_zero hns
    refine g_ [0,1] ?_
    refine g_ [0,8,9,10] ?_
    refine n_ ?_
    refine wpM_loopS (fun q n s' => ∃ (i M : Nat), i + n = l.length ∧ B ≤ M ∧ (Sm.exL (l.take i) m F).2.2 = false ∧ s' = { q with env := setE 10 (.int .i64 (i : Nat)) q.env, l := rfoot r id (Sm.exL (l.take i) m F).2.1 (Sm.exL (l.take i) m F).1, M := M }) (l.length) ?_ ?_
    ·
      refine .of' _ _ ⟨0, _, by omega, Nat.le_refl _, rfl, rfl⟩ ?_ ?_ ?_ <;> exact L_
    rintro n s' ⟨i, M, hi, hM, hv, rfl⟩
    have hsx := Sm.exL_six (l.take i) m F hm
    have hle := Sm.exL_le (l.take i) m F
    try refine S_ ?_
    refine g_ [0,8,9,10,11] ?_
    refine c_ (fun hc0 => ?_) fun hc0 => ?_
    ·
      have hi2 : i < l.length := by omega
      have htk := Sm.exL_take l m F i hi2
      rw [hv, if_neg (by simp)] at htk
      obtain ⟨t, v, fp, hr, q1, q2, q3⟩ := hdo i hi2
      refine g_ [0,6,8,9,10] ?_
      refine n_ ?_
      refine wpM_regionK [0,7,8,9,10] rfl fun Q1 hQ1 => ?_
      refine S_ ?_
      refine cp_ (doOf_ok (l.getD i default)) Tryz.call64 ?_
      refine call_inv (l := rfoot r id (Sm.exL (l.take i) m F).2.1 (Sm.exL (l.take i) m F).1) (ps := [.ptr r 0]) (k := 0) (q3 _ _ hsx (by omega)) q1 q2 rfl rfl (by simp -implicitDefEqProofs (disch := omega) only [go_sem, hr]) T_ T_ ?_
      rintro out rfl
      rw [← htk]
      refine S_ ?_
      refine hQ1 _ _ (S_ ?_);clear hQ1 Q1
      refine g_ [0,7,8,9,10,19] ?_
      refine c_ (fun hc1 => ?_) fun hc1 => ?_
      ·
        refine g_ [4] ?_
        refine wpM_ret ?_
        try refine S_ ?_
        rw [Sm.exL_long hc1] at hQ
        refine hQ _ _ (ret0 (ru r id (Sm.exL (l.take (i + 1)) m F)) rfl rfl rfl (by rw [Tryz.results43] <;> simp (maxSteps := 1000000) -implicitDefEqProofs (disch := omega) only [go_sem] <;> rfl) (by rw [ROut, hc1]) ?_ ?_ ?_ ?_)
        all_goals simp -implicitDefEqProofs (disch := omega) only [go_sem, true_or, or_true]
      refine g_ [0,8,9,10] ?_
      refine .of' _ _ ⟨n - 1, by omega, i + 1, _, by omega, ?_, hc1, rfl⟩ ?_ ?_ ?_
      · exact M_
      all_goals exact L_
    refine g_ [4] ?_
    refine wpM_ret ?_
    try refine S_ ?_
    obtain rfl : i = l.length := by omega
    rw [List.take_of_length_le (Nat.le_refl _)] at hv
    refine hQ _ _ (ret0 (ru r id (Sm.exL l m F)) rfl rfl rfl (by rw [Tryz.results43] <;> simp (maxSteps := 1000000) -implicitDefEqProofs (disch := omega) only [go_sem] <;> rfl) (by rw [ROut, hv]; rfl) ?_ ?_ ?_ ?_)
    all_goals simp -implicitDefEqProofs (disch := omega) only [go_sem, true_or, or_true, List.take_of_length_le (Nat.le_refl l.length)]
end Go.Proofs.YtmicbfojofcigaaGreatDoor
namespace Go.Proofs.YtmicbfojofcigaaGreatDoor
open Go Sg
set_option maxRecDepth 100000
set_option linter.unusedSimpArgs false
set_option linter.unusedVariables false
set_option linter.unusedSectionVars false
set_option maxHeartbeats 4000000
variable [ErrL]
theorem badS_eq (n d : Int) (s : Sm) : badS n d s = (decide (n > 16) || decide (d ≥ 4) || !(s.plain && s.e.ok)) := by
  unfold badS
  rw [vis_ok]
  cases hp : s.plain
  · simp
  · have : doNil s = false := by
      unfold Sm.plain at hp
      unfold doNil
      cases h1 : s.kind == 1 <;> cases h2 : s.kind == 2 <;> cases h3 : s.kind == 3 <;> simp_all
    rw [this]
    cases s.e.ok <;> simp
theorem manyS_cons (k : Nat) (s : Sm) (l : List Sm) : manyS (k + 1) (s :: l) = 1 + manyS k s.th + manyS k s.el + manyS (k + 1) l := by
  simp only [manyS, List.length_cons, List.map_cons, List.sum_cons]; omega
theorem formS_cons (k : Nat) (s : Sm) (l : List Sm) : formS (k + 1) (s :: l) = (s.plain && s.e.ok && formS k s.th && formS k s.el && formS (k + 1) l) := by
  simp only [formS, List.all_cons]
theorem manyS_nil (k : Nat) : manyS k [] = 0 := by cases k <;> rfl
theorem formS_nil (k : Nat) : formS k [] = true := by cases k <;> rfl
theorem visL_eq (k : Nat) : ∀ (l : List Sm) (d c : Nat), d + k = 4 → c ≤ 16 → Sm.visL l d c = if formS k l = true ∧ c + manyS k l ≤ 16 then some (c + manyS k l) else none := by
  induction k with
  | zero =>
    intro l d c hd hc
    cases l with
    | nil => simp [Sm.visL, formS, manyS, hc]
    | cons s l =>
      simp only [Sm.visL, Sm.vis_eq, badS_eq]
      have : decide ((d : Int) ≥ 4) = true := by simp; omega
      simp [this, formS]
  | succ k ih =>
    intro l
    induction l with
    | nil => intro d c hd hc; simp [Sm.visL, formS_nil, manyS_nil, hc]
    | cons s l ihl =>
      intro d c hd hc
      simp only [Sm.visL, Sm.vis_eq, badS_eq]
      have hd4 : decide ((d : Int) ≥ 4) = false := by simp; omega
      rw [manyS_cons, formS_cons, hd4, Bool.or_false]
      by_cases h16 : c + 1 > 16
      · have : decide (((c : Int) + 1) > 16) = true := by simp; omega
        rw [this, Bool.true_or, if_pos rfl, if_neg (by omega)]
      · have : decide (((c : Int) + 1) > 16) = false := by simp; omega
        rw [this, Bool.false_or]
        cases hp : (s.plain && s.e.ok)
        · simp
        · simp only [Bool.not_true, Bool.false_eq_true, if_false, Bool.true_and]
          rw [ih s.th (d + 1) (c + 1) (by omega) (by omega)]
          by_cases h1 : formS k s.th = true ∧ c + 1 + manyS k s.th ≤ 16
          · rw [if_pos h1]
            dsimp only
            rw [ih s.el (d + 1) _ (by omega) h1.2]
            by_cases h2 : formS k s.el = true ∧ c + 1 + manyS k s.th + manyS k s.el ≤ 16
            · rw [if_pos h2]
              dsimp only
              rw [ihl d _ hd h2.2]
              rw [h1.1, h2.1]
              simp only [Bool.true_and]
              have e : c + 1 + manyS k s.th + manyS k s.el + manyS (k + 1) l = c + (1 + manyS k s.th + manyS k s.el + manyS (k + 1) l) := by omega
              rw [e]
            · rw [if_neg h2, if_neg]
              rintro ⟨g1, g2⟩
              simp only [Bool.and_eq_true] at g1
              exact h2 ⟨g1.1.2, by omega⟩
          · rw [if_neg h1, if_neg]
            rintro ⟨g1, g2⟩
            simp only [Bool.and_eq_true] at g1
            exact h1 ⟨g1.1.1, by omega⟩
theorem visL_ok (l : List Sm) : Sm.visL l 0 0 = if okS l = true then some (manyS 4 l) else none := by
  rw [visL_eq 4 l 0 0 rfl (by omega)]
  simp only [Nat.zero_add, okS, Bool.and_eq_true, decide_eq_true_eq, and_comm]
theorem visL_is (l : List Sm) : (Sm.visL l 0 0).isSome = okS l := by
  rw [visL_ok]; cases okS l <;> rfl
theorem okS_form {l : List Sm} (h : okS l = true) : formS 4 l = true ∧ manyS 4 l ≤ 16 := by
  simpa [okS, and_comm] using h
theorem istmtsOk_ok (l : List Sm) (hs : Sm.szL l ≤ 1099511627776) : PureF Tryz.prog 24 [.rows 52 (Sm.csL l)] [.bool (okS l)] := by
  refine pureF_of Tryz.func24 rfl Tryz.ntmps24 (by simp) T_ ?_
  intro f0 B Q hQ
  have hv := visL_is l
  refine g_ [0] ?_
  refine g_ [0,3] ?_
  refine n_ ?_
  refine wpM_regionK [2] rfl fun Q1 hQ1 => ?_
  refine S_ ?_
  refine call_fn (l := [(B, .cells 3 [.int .i64 ((0 : Nat) : Int)])]) (first := []) (cap := []) (ps := [.rows 52 (Sm.csL l), .int .i64 ((0 : Nat) : Int), .ptr B 0]) (count_ok B _ l (Nat.le_refl _) hs 0 0 (by omega) (by omega)) Tryz.call46 rfl rfl rfl G_ (by simp -implicitDefEqProofs (disch := omega) only [go_sem, Int.natCast_zero]) ?_
  rintro out ⟨r1, c1, hr1, hc1, hk1, rfl⟩
  refine S_ ?_
  refine hQ1 _ _ (S_ ?_);clear hQ1 Q1
  refine e_ Tryz.results24 ?_
  first
  | exact True.intro
  | rw [← hr1, hv]
def manyOk (l : List Sm) : Nat := if okS l then manyS 4 l else 0
theorem imany_ok (l : List Sm) (hs : Sm.szL l ≤ 1099511627776) : PureF Tryz.prog 18 [.rows 52 (Sm.csL l)] [.int .i64 (manyOk l : Nat)] := by
  refine pureF_of Tryz.func18 rfl Tryz.ntmps18 (by simp) T_ ?_
  intro f0 B Q hQ
  have hv := visL_ok l
  refine g_ [0] ?_
  refine g_ [0,3] ?_
  refine n_ ?_
  refine wpM_regionK [3,6] rfl fun Q1 hQ1 => ?_
  refine S_ ?_
  refine call_fn (l := [(B, .cells 3 [.int .i64 ((0 : Nat) : Int)])]) (first := []) (cap := []) (ps := [.rows 52 (Sm.csL l), .int .i64 ((0 : Nat) : Int), .ptr B 0]) (count_ok B _ l (Nat.le_refl _) hs 0 0 (by omega) (by omega)) Tryz.call46 rfl rfl rfl G_ (by simp -implicitDefEqProofs (disch := omega) only [go_sem, Int.natCast_zero]) ?_
  rintro out ⟨r1, c1, hr1, hc1', hk1, rfl⟩
  refine S_ ?_
  refine hQ1 _ _ (S_ ?_);clear hQ1 Q1
  refine c_ (fun hc0 => ?_) fun hc0 => ?_
  ·
    refine g_ [2] ?_
    refine e_ Tryz.results18 ?_
    first
    | exact True.intro
    | unfold manyOk
      rw [hv] at hr1
      cases hok : okS l <;> rw [hok] at hr1 <;> subst hr1
      · first | rfl | (simp at hc0; done)
      · first
        | (exfalso; simp at hc0; done)
        | (have h1 := (hk1 _ rfl).1
           rw [h1]; rfl)
  refine g_ [2] ?_
  refine e_ Tryz.results18 ?_
  first
  | exact True.intro
  | unfold manyOk
    rw [hv] at hr1
    cases hok : okS l <;> rw [hok] at hr1 <;> subst hr1
    · first | rfl | (simp at hc0; done)
    · first
      | (exfalso; simp at hc0; done)
      | (have h1 := (hk1 _ rfl).1
         rw [h1]; rfl)
theorem ended_ok (id : Nat) (m : MM) (hm : m.Six) (F : Int) (b : Bool) : CallF Tryz.prog 44 [.ptr id 0, .int .i64 F, errV b] (mobj id m) 3 (fun ns o => ∃ x y z, ns = [x, y, z] ∧ o = { rs := [.agg (ocs x y z), .int .i64 (if b then 1 else 0), .int .i64 (if b then 0 else F)], nw := m.ol x y z }) := by
  refine callF_of' Tryz.func44 rfl Tryz.ntmps44 (by simp) ?_
  intro f0 B ns Q hB hns hQ
  have hid : id < B := hB id (by simp [hasKey, lk, mobj])
  obtain ⟨x, y, z, rfl⟩ : ∃ x y z, ns = [x, y, z] := by
    match ns, hns with
    | [x, y, z], _ => exact ⟨x, y, z, rfl⟩
  refine g_ [0,1,2,6] ?_
  refine n_ ?_
  refine wpM_regionK [0,1,6,11] rfl fun Q1 hQ1 => ?_
  refine S_ ?_
  refine cp_ (errIs_ok b) Tryz.call82 ?_
  refine hQ1 _ _ (S_ ?_);clear hQ1 Q1
  refine c_ (fun hc0 => ?_) fun hc0 => ?_
  ·
    refine n_ ?_
    refine wpM_regionK [6,7,8] rfl fun Q1 hQ1 => ?_
    refine S_ ?_
    refine call_fn (l := mobj id m) (first := []) (cap := []) (ps := [.ptr id 0]) (mem_ok m hm id) Tryz.call83 rfl rfl rfl G_ T_ ?_
    rintro out ⟨x2, y2, z2, ⟨⟩, rfl⟩
    refine S_ ?_
    refine hQ1 _ _ (S_ ?_);clear hQ1 Q1
    refine wpM_ret ?_
    try refine S_ ?_
    subst hc0
    refine hQ _ _ (retK [B + 1, B + 2, B + 3] [] (m.ol x y z) rfl rfl rfl (by rw [Tryz.results44] <;> simp (maxSteps := 1000000) -implicitDefEqProofs (disch := omega) only [go_sem] <;> rfl) ?_ ⟨x, y, z, rfl, rfl⟩ ?_ ?_ ?_ ?_ ?_ ?_)
    all_goals (first | (simp -implicitDefEqProofs (disch := omega) only [go_sem, List.nodup_cons, List.nodup_nil, true_or, or_true, List.mem_cons, List.not_mem_nil, if_true]; done) | (simp -implicitDefEqProofs (disch := omega) only [go_sem, List.nodup_cons, List.nodup_nil, true_or, or_true, List.mem_cons, List.not_mem_nil]; omega))
  refine n_ ?_
  refine wpM_regionK [6,7,8] rfl fun Q1 hQ1 => ?_
  refine S_ ?_
  refine call_fn (l := mobj id m) (first := []) (cap := []) (ps := [.ptr id 0]) (mem_ok m hm id) Tryz.call83 rfl rfl rfl G_ T_ ?_
  rintro out ⟨x2, y2, z2, ⟨⟩, rfl⟩
  refine S_ ?_
  refine hQ1 _ _ (S_ ?_);clear hQ1 Q1
  refine wpM_ret ?_
  try refine S_ ?_
  subst hc0
  refine hQ _ _ (retK [B + 1, B + 2, B + 3] [] (m.ol x y z) rfl rfl rfl (by rw [Tryz.results44] <;> simp (maxSteps := 1000000) -implicitDefEqProofs (disch := omega) only [go_sem] <;> rfl) ?_ ⟨x, y, z, rfl, rfl⟩ ?_ ?_ ?_ ?_ ?_ ?_)
  all_goals (first | (simp -implicitDefEqProofs (disch := omega) only [go_sem, List.nodup_cons, List.nodup_nil, true_or, or_true, List.mem_cons, List.not_mem_nil, if_true]; done) | (simp -implicitDefEqProofs (disch := omega) only [go_sem, List.nodup_cons, List.nodup_nil, true_or, or_true, List.mem_cons, List.not_mem_nil]; omega))
end Go.Proofs.YtmicbfojofcigaaGreatDoor
namespace Go.Proofs.YtmicbfojofcigaaGreatDoor
open Go Sg
set_option maxRecDepth 100000
set_option linter.unusedSimpArgs false
set_option linter.unusedVariables false
set_option linter.unusedSectionVars false
set_option maxHeartbeats 4000000
variable [ErrL]
def endO (x : MM × Nat × Bool) : MM × Int × Int := (x.1, if x.2.2 then 1 else 0, if x.2.2 then 0 else (x.2.1 : Int))
def noM : MM := ⟨[], [], []⟩
def runOk (m : MM) (l : List Sm) (F : Int) : Bool := m.ok && okS l && decide (0 ≤ F) && decide (F ≤ 100)
def runS (m : MM) (l : List Sm) (F : Int) : MM × Int × Int := if runOk m l F then endO (Sm.exL l m F.toNat) else (noM, 2, 0)
theorem isrun_ok (m : MM) (l : List Sm) (F : Int) (hm : m.Sm) (hs : Sm.szL l ≤ 1099511627776) : PureF Tryz.prog 16 [.agg m.cs, .rows 52 (Sm.csL l), .int .i64 F] [.agg (runS m l F).1.cs, .int .i64 (runS m l F).2.1, .int .i64 (runS m l F).2.2] := by
  refine pureF_of Tryz.func16 rfl Tryz.ntmps16 (by simp) T_ ?_
  intro f0 B Q hQ
  refine g_ [1,2,3,6] ?_
  refine n_ ?_
  refine wpM_regionK [1,2,6,9,10] rfl fun Q1 hQ1 => ?_
  refine S_ ?_
  refine call_fn (l := []) (first := []) (cap := []) (ps := [.agg m.cs]) (readMem_ok' m hm) Tryz.call42 rfl rfl rfl G_ T_ ?_
  rintro out ⟨x', p, l2, ⟨⟩, hp, rfl⟩
  refine S_ ?_
  refine hQ1 _ _ (S_ ?_);clear hQ1 Q1
  refine n_ ?_
  refine wpM_regionK [1,2,6,9,32] rfl fun Q1 hQ1 => ?_
  refine SD_ ?_
  first | refine cg_ (fun hb => istmtsOk_ok l hs) Tryz.call24 ?_ | refine cpD_ (istmtsOk_ok l hs) Tryz.call24 ?_
  refine hQ1 _ _ (S_ ?_);clear hQ1 Q1
  refine c_ (fun hc0 => ?_) fun hc0 => ?_
  ·
    refine g_ [6,7,8] ?_
    have hcs : runS m l F = (noM, 2, 0) := by
      rw [runS, if_neg]
      intro hh
      simp only [runOk, Bool.and_eq_true, decide_eq_true_eq] at hh
      obtain ⟨⟨⟨h1, h2⟩, h3⟩, h4⟩ := hh
      rw [h1, h2, decide_eq_false (by omega : ¬ F < 0), decide_eq_false (by omega : ¬ F > 100)] at hc0
      cases hc0
    refine wpM_le [(6, .ptr (B + 1) 0), (7, .int .i64 2), (8, .int .i64 0)] [(B + 1, .cells 33 [.rows 3 [], .rows 3 [], .rows 3 []])] T_ T_ T_ ?_
    refine e_ Tryz.results16 ?_
    first
    | exact True.intro
    | rw [hcs]
      repeat' apply And.intro
      all_goals rfl
  simp only [Bool.or_eq_false_iff, Bool.not_eq_false', decide_eq_false_iff_not] at hc0
  obtain ⟨⟨⟨h1, h2⟩, h3⟩, h4⟩ := hc0
  have hok : runOk m l F = true := by
    simp only [runOk, Bool.and_eq_true, decide_eq_true_eq]
    exact ⟨⟨⟨h1, h2⟩, by omega⟩, by omega⟩
  have hcs : runS m l F = endO (Sm.exL l m F.toNat) := by rw [runS, if_pos hok]
  have hsix := MM.ok_six h1
  have hsx := Sm.exL_six l m F.toNat hsix
  have hpp : p = .ptr (B + 2) 0 ∧ l2 = m.flat := by
    rcases hp with ⟨_, h2, h3⟩ | ⟨h5, _⟩
    · exact ⟨h2, h3⟩
    · rw [h1] at h5; cases h5
  obtain ⟨rfl, rfl⟩ := hpp
  have hFn : ((F.toNat : Nat) : Int) = F := by omega
  refine g_ [1,6,9,11] ?_
  refine n_ ?_
  refine wpM_regionK [6,9,11,12] rfl fun Q1 hQ1 => ?_
  refine S_ ?_
  refine call_fn (l := rfoot (B + 3) (B + 2) F.toNat m) (first := []) (cap := []) (ps := [.ptr (B + 3) 0, .rows 52 (Sm.csL l)]) (all_ok (B + 3) (B + 2) (by omega) _ l (Nat.le_refl _) hs ⟨4, (okS_form h2).1⟩ m F.toNat hsix (by omega)) Tryz.call43 rfl rfl rfl T_ (by simp -implicitDefEqProofs (disch := omega) only [go_sem, hFn]) ?_
  rintro out rfl
  refine S_ ?_
  refine hQ1 _ _ (S_ ?_);clear hQ1 Q1
  generalize hx : Sm.exL l m F.toNat = X at *
  refine n_ ?_
  refine wpM_regionK [6,7,8] rfl fun Q1 hQ1 => ?_
  refine S_ ?_
  refine call_fn (l := mobj (B + 2) X.1) (first := []) (cap := []) (ps := [.ptr (B + 2) 0, .int .i64 (X.2.1 : Int), errV X.2.2]) (ended_ok (B + 2) X.1 hsx (X.2.1 : Int) X.2.2) Tryz.call44 rfl rfl rfl G_ T_ ?_
  rintro out ⟨x2, y2, z2, ⟨⟩, rfl⟩
  refine S_ ?_
  refine hQ1 _ _ (S_ ?_);clear hQ1 Q1
  refine wpM_frz [B + 4, B + 5, B + 6] (X.1.tb (B + 4) (B + 5) (B + 6)) (by intro q hq; simp at hq; rcases hq with rfl | rfl | rfl <;> simp -implicitDefEqProofs (disch := omega) only [go_sem]) (X.1.frz hsx T_ T_ T_) ?_
  simp -implicitDefEqProofs (disch := omega) only [go_sem, MM.tb]
  refine e_ Tryz.results16 ?_
  first
  | exact True.intro
  | rw [hcs]
    repeat' apply And.intro
    all_goals rfl
end Go.Proofs.YtmicbfojofcigaaGreatDoor
namespace Go.Proofs.YtmicbfojofcigaaGreatDoor
open Go Sg
set_option linter.unusedSectionVars false
variable [Glob]
set_option maxRecDepth 100000
set_option linter.unusedSimpArgs false
set_option linter.unusedVariables false
set_option linter.unusedSectionVars false
set_option maxHeartbeats 4000000
structure GI where
  op : Int
  n : Int
  a : AD
  deriving Inhabited
def GI.cs (i : GI) : List PV := [.int .i64 i.op, .int .i64 i.n, .int .i64 i.a.kind, .int .i64 i.a.at']
@[go_sem] theorem GI.cs_eq (i : GI) : i.cs = [.int .i64 i.op, .int .i64 i.n, .int .i64 i.a.kind, .int .i64 i.a.at'] := rfl
def insR (l : List GI) : List (List PV) := l.map GI.cs
@[go_sem] theorem insR_len (l : List GI) : (insR l).length = l.length := by simp [insR]
@[go_sem] theorem insR_get (l : List GI) (k : Nat) (h : k < l.length) : (insR l).getD k [] = (l.getD k default).cs := by simp [insR, List.getD, h]
def insC (l : List GI) : List PV := (insR l).flatten
@[go_sem] theorem insR_flat (l : List GI) : (insR l).flatten = insC l := rfl
@[go_sem] theorem insC_len (l : List GI) : (insC l).length = l.length * 4 := by
  induction l with
  | nil => rfl
  | cons x l ih => simp only [insC, insR, List.map_cons, List.flatten_cons, List.length_append, List.length_cons] at ih ⊢; rw [ih]; simp [GI.cs]; omega
theorem insC_app (l r : List GI) : insC (l ++ r) = insC l ++ insC r := by simp [insC, insR]
theorem insC_one (i : GI) : insC [i] = i.cs := by simp [insC, insR]
@[go_sem] theorem insC_snoc (l : List GI) (x y z w : Int) : insC l ++ [.int .i64 x, .int .i64 y, .int .i64 z, .int .i64 w] = insC (l ++ [⟨x, y, ⟨z, w⟩⟩]) := by rw [insC_app, insC_one]; rfl
@[go_sem] theorem insC_cat (l r : List GI) : insC l ++ insC r = insC (l ++ r) := (insC_app l r).symm
@[go_sem] theorem idsL_insC (p : Nat → Prop) (l : List GI) : PV.idsL p (insC l) = True := by
  induction l with
  | nil => simp [insC, insR, PV.idsL]
  | cons x l ih => simp only [insC, insR, List.map_cons, List.flatten_cons, GI.cs, List.cons_append, List.nil_append, PV.idsL, PV.ids, true_and] at ih ⊢; exact ih
@[go_sem] theorem renL_insC (p : Nat → Nat) (l : List GI) : PV.renL p (insC l) = insC l := by
  induction l with
  | nil => rfl
  | cons x l ih => simp only [insC, insR, List.map_cons, List.flatten_cons, GI.cs, List.cons_append, List.nil_append, PV.renL, PV.ren] at ih ⊢; rw [ih]
@[go_sem] theorem insC_nil : insC [] = [] := rfl
@[go_sem] theorem cell_insC (l : List GI) : (insC l).all PV.cell = true := by
  induction l with
  | nil => rfl
  | cons x l ih => simp only [insC, insR, List.map_cons, List.flatten_cons, GI.cs, List.cons_append, List.nil_append, List.all_cons, PV.cell, Bool.true_and] at ih ⊢; exact ih
@[go_sem] theorem insC_all (l : List GI) : List.take (l.length * 4) (insC l) = insC l := List.take_of_length_le (by rw [insC_len]; omega)
theorem rowsOf_insC {f : Nat → Option AObj} {id n : Nat} {T : TypeId} {l : List GI} (h : f id = some (.cells T (insC l))) (hn : l.length = n) : RowsOf Tryz.prog f 81 id 0 n (insR l) := by
  subst hn
  refine ⟨by rw [cellsOf81]; omega, by simp [insR], ?_, T, _, h, ?_, ?_⟩
  · intro c hc
    simp only [insR, List.mem_map] at hc
    obtain ⟨x, _, rfl⟩ := hc
    rw [cellsOf81]; exact ⟨rfl, rfl⟩
  · rw [cellsOf81, insC_len]; omega
  · rw [cellsOf81, insR_flat, List.drop_zero, List.take_of_length_le (by rw [insC_len]; omega)]
theorem insC_set (l : List GI) (k : Nat) (x : Int) (h : k < l.length) : splice (insC l) (k * 4 + 1) [.int .i64 x] = insC (l.set k { l.getD k default with n := x }) := by
  induction l generalizing k with
  | nil => simp at h
  | cons i l ih =>
    cases k with
    | zero => simp [insC, insR, splice, GI.cs, List.getD]
    | succ k =>
      have h' : k < l.length := by simpa using h
      have := ih k h'
      simp only [splice, List.length_cons, List.length_nil] at this ⊢
      have e1 : insC (i :: l) = i.cs ++ insC l := by rw [← insC_one i, ← insC_app]; rfl
      have e2 : (k + 1) * 4 + 1 = i.cs.length + (k * 4 + 1) := by show _ = 4 + _; omega
      have e3 : (k + 1) * 4 + 1 + (0 + 1) = i.cs.length + (k * 4 + 1 + (0 + 1)) := by show _ = 4 + _; omega
      rw [e1, e3, e2, List.take_length_add_append, List.drop_length_add_append, List.append_assoc, List.append_assoc]
      rw [List.append_assoc] at this
      rw [this]
      simp only [List.getD_cons_succ, List.set_cons_succ]
      rw [← insC_one i, ← insC_app]; rfl
def A0 : AD := ⟨0, 0⟩
@[go_sem] theorem A0_kind : A0.kind = 0 := rfl
@[go_sem] theorem A0_at : A0.at' = 0 := rfl
@[go_sem] theorem cast_pred (n : Nat) : ((n + 1 : Nat) : Int) - 1 = n := by omega
def lastI (e : Ex) : GI := if e.kind == 1 then ⟨1, e.n, A0⟩ else if e.kind == 2 then ⟨2, 0, e.a⟩ else if e.kind == 10 then ⟨5, 0, A0⟩ else ⟨4, e.kind, A0⟩
mutual
def Ex.cd : Ex → List GI
  | .mk k n a l => Ex.cdL l ++ [lastI (.mk k n a l)]
def Ex.cdL : List Ex → List GI
  | [] => []
  | e :: l => e.cd ++ Ex.cdL l
end
theorem Ex.cd_eq (e : Ex) : e.cd = Ex.cdL e.kids ++ [lastI e] := by cases e; simp only [Ex.cd, Ex.kids]
theorem Ex.cdL_app (l r : List Ex) : Ex.cdL (l ++ r) = Ex.cdL l ++ Ex.cdL r := by
  induction l with
  | nil => rfl
  | cons e l ih => simp only [List.cons_append, Ex.cdL, ih, List.append_assoc]
theorem Ex.cdL_take (l : List Ex) (i : Nat) (h : i < l.length) : Ex.cdL (l.take (i + 1)) = Ex.cdL (l.take i) ++ (l.getD i default).cd := by
  rw [List.take_succ_eq_append_getElem h, Ex.cdL_app]
  simp [Ex.cdL, List.getD, h]
mutual
theorem Ex.cd_len : (e : Ex) → e.cd.length = e.sz
  | .mk k n a l => by simp only [Ex.cd, Ex.sz, List.length_append, List.length_cons, List.length_nil, Ex.cdL_len l]; omega
theorem Ex.cdL_len : (l : List Ex) → (Ex.cdL l).length = Ex.szL l
  | [] => rfl
  | e :: l => by simp only [Ex.cdL, Ex.szL, List.length_append, Ex.cd_len e, Ex.cdL_len l]
end
mutual
def Sm.cd : Sm → Nat → List GI
  | .mk k a e th el, at' =>
    let E := e.cd
    let A := Sm.cdL th (at' + E.length + 1)
    if k == 1 then E ++ [⟨3, 0, a⟩]
    else if k == 2 then
      let B := Sm.cdL el (at' + E.length + 1 + A.length + 1)
      E ++ [⟨6, (at' + E.length + 1 + A.length + 1 : Nat), A0⟩] ++ A ++ [⟨7, (at' + E.length + 1 + A.length + 1 + B.length : Nat), A0⟩] ++ B
    else if k == 3 then E ++ [⟨6, (at' + E.length + 1 + A.length + 1 : Nat), A0⟩] ++ A ++ [⟨8, (at' : Nat), A0⟩]
    else E
def Sm.cdL : List Sm → Nat → List GI
  | [], _ => []
  | s :: l, at' => s.cd at' ++ Sm.cdL l (at' + (s.cd at').length)
end
theorem Sm.cdL_app (l r : List Sm) (k : Nat) : Sm.cdL (l ++ r) k = Sm.cdL l k ++ Sm.cdL r (k + (Sm.cdL l k).length) := by
  induction l generalizing k with
  | nil => rfl
  | cons s l ih => simp only [List.cons_append, Sm.cdL, ih, List.append_assoc, List.length_append, Nat.add_assoc]
theorem Sm.cdL_take (l : List Sm) (k i : Nat) (h : i < l.length) : Sm.cdL (l.take (i + 1)) k = Sm.cdL (l.take i) k ++ (l.getD i default).cd (k + (Sm.cdL (l.take i) k).length) := by
  rw [List.take_succ_eq_append_getElem h, Sm.cdL_app]
  simp [Sm.cdL, List.getD, h]
theorem Sm.cd_eq (s : Sm) (k : Nat) : s.cd k =
    if s.kind == 1 then s.e.cd ++ [⟨3, 0, s.to'⟩]
    else if s.kind == 2 then s.e.cd ++ [⟨6, (k + s.e.cd.length + 1 + (Sm.cdL s.th (k + s.e.cd.length + 1)).length + 1 : Nat), A0⟩] ++ Sm.cdL s.th (k + s.e.cd.length + 1) ++ [⟨7, (k + s.e.cd.length + 1 + (Sm.cdL s.th (k + s.e.cd.length + 1)).length + 1 + (Sm.cdL s.el (k + s.e.cd.length + 1 + (Sm.cdL s.th (k + s.e.cd.length + 1)).length + 1)).length : Nat), A0⟩] ++ Sm.cdL s.el (k + s.e.cd.length + 1 + (Sm.cdL s.th (k + s.e.cd.length + 1)).length + 1)
    else if s.kind == 3 then s.e.cd ++ [⟨6, (k + s.e.cd.length + 1 + (Sm.cdL s.th (k + s.e.cd.length + 1)).length + 1 : Nat), A0⟩] ++ Sm.cdL s.th (k + s.e.cd.length + 1) ++ [⟨8, (k : Nat), A0⟩]
    else s.e.cd := by cases s; simp only [Sm.cd, Sm.kind, Sm.to', Sm.e, Sm.th, Sm.el] <;> rfl
mutual
theorem Sm.cd_len : (s : Sm) → (k : Nat) → (s.cd k).length ≤ 2 * s.sz
  | .mk k a e th el, at' => by
    simp only [Sm.cd, Sm.sz]
    have h1 := Ex.cd_len e
    have h2 := Sm.cdL_len th (at' + e.cd.length + 1)
    have h3 := Sm.cdL_len el (at' + e.cd.length + 1 + (Sm.cdL th (at' + e.cd.length + 1)).length + 1)
    split
    · simp; omega
    · split
      · simp; omega
      · split
        · simp; omega
        · omega
theorem Sm.cdL_len : (l : List Sm) → (k : Nat) → (Sm.cdL l k).length ≤ 2 * Sm.szL l
  | [], k => by simp [Sm.cdL]
  | s :: l, k => by
    simp only [Sm.cdL, Sm.szL, List.length_append]
    have h1 := Sm.cd_len s k
    have h2 := Sm.cdL_len l (k + (s.cd k).length)
    omega
end
def landL (l : List GI) (k : Nat) : List GI := l.set k ⟨(l.getD k default).op, l.length, (l.getD k default).a⟩
@[go_sem] theorem landL_len (l : List GI) (k : Nat) : (landL l k).length = l.length := by simp [landL]
def cobj (y : Nat) (n : Nat) : AObj := .cells 78 [.sl 81 y 0 n]
@[go_sem] theorem cobj_eq (y n : Nat) : cobj y n = .cells 78 [.sl 81 y 0 n] := rfl
def cfoot (c y : Nat) (l : List GI) : List (Nat × AObj) := [(c, cobj y l.length), (y, .cells 81 (insC l))]
@[go_sem] theorem cfoot_eq (c y : Nat) (l : List GI) : cfoot c y l = [(c, cobj y l.length), (y, .cells 81 (insC l))] := rfl
def COk (c y : Nat) (l' : List GI) (rs : List PV) (ns : List Nat) (o : COut) : Prop := ∃ z, ns = [z] ∧ o = { rs := rs, u := [(c, some (cobj z l'.length)), (y, none)], nw := [(z, .cells 81 (insC l'))] }
theorem cadd_ok (c y : Nat) (hcy : c ≠ y) (l : List GI) (i : GI) (hl : l.length ≤ 1099511627776) : CallF Tryz.prog 86 [.ptr c 0, .agg i.cs] (cfoot c y l) 1 (COk c y (l ++ [i]) [.int .i64 (l.length : Nat)]) := by
  refine callF_ofC' Tryz.func86 rfl Tryz.ntmps86 (by simp) ?_
  intro f0 B ns Q hB hns hQ
  have hc : c < B := hB c (by simp [hasKey, lk, cfoot])
  have hy : y < B := hB y (by simp [hasKey, lk, cfoot, hcy])
  obtain ⟨z, rfl⟩ : ∃ z, ns = [z] := by
    match ns, hns with
    | [x], _ => exact ⟨x, rfl⟩
  refine g_ [0,3] ?_
  refine n_ ?_
  refine dr_ mixed [0] 2 3 [B, c, y, B + 1, B + 2] [⟨[0],[],[],[],false⟩,⟨[0],[],[],[],false⟩,⟨[6],[],[],[],false⟩,⟨[7],[],[],[],false⟩,⟨[8],[1],[],[],false⟩,⟨[3],[0],[],[],false⟩,⟨[10],[],[],[3],false⟩,⟨[9,11],[2,3],[2],[4],false⟩,⟨[5],[],[],[],false⟩,⟨[13],[],[],[],false⟩,⟨[12,14],[1],[1],[],false⟩] [0,1,2,3,4,5,6,7,8,9,10] [[],[],[1],[1,2],[1,2,3],[],[5],[1,2,3,4,5,6],[0,1,2,3,4,5,6,7],[0,1,2,3,4,5,6,7,8],[0,1,2,3,4,5,6,7,8,9]] 5 (htbl := by simp; omega) (hnm := by simp) ?_
  intro O A K hO hA hK;simp only [atL_cons,atL_nil,Nat.reduceAdd,Nat.zero_add] at hO hA
  refine SO_ ?_
  refine hK _ (S_ ?_);clear hK K hO hA O A
  refine g_ [4] ?_
  refine wpM_ret ?_
  try refine S_ ?_
  refine hQ _ _ (retK [B + 2] [(c, some (cobj z (l.length + 1))), (y, none)] [(z, .cells 81 (insC (l ++ [i])))] rfl rfl rfl (by rw [Tryz.results86] <;> simp (maxSteps := 1000000) -implicitDefEqProofs (disch := omega) only [go_sem] <;> rfl) ?_ ⟨z, rfl, by rw [List.length_append]; rfl⟩ ?_ ?_ ?_ ?_ ?_ ?_)
  all_goals (first | (simp -implicitDefEqProofs (disch := omega) only [go_sem, List.nodup_cons, List.nodup_nil, true_or, or_true, List.mem_cons, List.not_mem_nil, if_true]; done) | (simp -implicitDefEqProofs (disch := omega) only [go_sem, List.nodup_cons, List.nodup_nil, true_or, or_true, List.mem_cons, List.not_mem_nil]; omega))
theorem land_ok (c y : Nat) (hcy : c ≠ y) (l : List GI) (k : Nat) (hk : k < l.length) (hl : l.length ≤ 1099511627776) : CallF Tryz.prog 87 [.ptr c 0, .int .i64 (k : Nat)] (cfoot c y l) 0 (fun _ o => o = { rs := [], u := [(y, some (.cells 81 (insC (landL l k))))] }) := by
  refine callF_of' Tryz.func87 rfl Tryz.ntmps87 (by simp) ?_
  intro f0 B ns Q hB hns hQ
  have hc : c < B := hB c (by simp [hasKey, lk, cfoot])
  have hy : y < B := hB y (by simp [hasKey, lk, cfoot, hcy])
  obtain rfl : ns = [] := List.eq_nil_of_length_eq_zero hns
  refine n_ ?_
  refine dr_ mixed [] 0 2 [c, y] [⟨[0],[],[],[],false⟩,⟨[4],[],[],[],false⟩,⟨[5],[],[],[],false⟩,⟨[6],[0],[],[],false⟩,⟨[1],[],[],[],false⟩,⟨[0],[],[],[],false⟩,⟨[9],[],[],[],false⟩,⟨[10],[],[],[],false⟩,⟨[11],[0],[],[],false⟩,⟨[12],[],[],[],false⟩,⟨[7,8],[],[],[],false⟩,⟨[14],[],[],[],false⟩,⟨[13,15],[1],[1],[],false⟩] [0,1,2,3,4,5,6,7,8,9,10,11,12] [[],[0],[0,1],[0,1,2],[],[],[5],[5,6],[5,6,7],[5,6,7,8],[0,1,2,3,4,5,6,7,8,9],[0,1,2,3,4,5,6,7,8,9,10],[0,1,2,3,4,5,6,7,8,9,10,11]] 2 (htbl := by simp; omega) (hnm := by simp) ?_
  intro O A K hO hA hK;simp only [atL_cons,atL_nil,Nat.reduceAdd,Nat.zero_add] at hO hA
  simp -implicitDefEqProofs (disch := omega) only [go_sem, insC_set l k l.length hk, hO, hA]
  refine hK _ (S_ ?_);clear hK K hO hA O A
  refine hQ _ _ (ret0n [(y, some (.cells 81 (insC (landL l k))))] rfl rfl rfl (by rw [Tryz.results87] <;> simp (maxSteps := 1000000) -implicitDefEqProofs (disch := omega) only [go_sem] <;> rfl) rfl ?_ ?_ ?_ ?_)
  all_goals simp -implicitDefEqProofs (disch := omega) only [go_sem, true_or, or_true]
  all_goals rfl
end Go.Proofs.YtmicbfojofcigaaGreatDoor
namespace Go.Proofs.YtmicbfojofcigaaGreatDoor
open Go Sg
set_option linter.unusedSectionVars false
variable [Glob]
set_option maxRecDepth 100000
set_option linter.unusedSimpArgs false
set_option linter.unusedVariables false
set_option linter.unusedSectionVars false
set_option maxHeartbeats 4000000
theorem Ex.cdL_pre (l : List Ex) (i : Nat) : (Ex.cdL (l.take i)).length ≤ Ex.szL l := by
  have h1 := Ex.cdL_app (l.take i) (l.drop i)
  rw [List.take_append_drop] at h1
  have h2 := Ex.cdL_len l
  rw [h1, List.length_append] at h2; omega
theorem cexpr_ok : ∀ (N : Nat) (e : Ex), e.sz ≤ N → e.sz ≤ 1000000000 → ∀ (c y : Nat) (l : List GI), c ≠ y → l.length + e.sz ≤ 1099511627776 → CallF Tryz.prog 85 [.ptr c 0, .agg e.cs] (cfoot c y l) 1 (COk c y (l ++ e.cd) []) := by
  intro N
  induction N with
  | zero => intro e h; have := e.sz_eq; omega
  | succ N ih =>
    intro e hN hs c y l hcy hl
    have hsz := e.sz_eq
    have hlen := Ex.len_szL e.kids
    have hcd : l ++ e.cd = l ++ Ex.cdL e.kids ++ [lastI e] := by rw [Ex.cd_eq, List.append_assoc]
    refine callF_ofC' Tryz.func85 rfl Tryz.ntmps85 (by simp) ?_
    intro f0 B ns Q hB hns hQ
    have hc : c < B := hB c (by simp [hasKey, lk, cfoot])
    have hy : y < B := hB y (by simp [hasKey, lk, cfoot, hcy])
    obtain ⟨z, rfl⟩ : ∃ z, ns = [z] := by
      match ns, hns with
      | [x], _ => exact ⟨x, rfl⟩
    refine n_ ?_
    refine wpM_ren y (.cells 81 (insC l)) T_ T_ (Nat.le_refl _) rfl ?_
    refine S_ ?_
    refine g_ [0,3] ?_
    refine g_ [0,3,7,8,9] ?_
    refine n_ ?_
    refine wpM_loopS (fun q n s' => ∃ (i M Y : Nat), i + n = e.kids.length ∧ B + 2 ≤ M ∧ B ≤ Y ∧ Y < M ∧ Y ≠ B + 1 ∧ s' = { q with env := setE 9 (.int .i64 (i : Nat)) q.env, l := [(B + 1, .cells 50 e.cs)] ++ cfoot c Y (l ++ Ex.cdL (e.kids.take i)), M := M }) (e.kids.length) ?_ ?_
    ·
      refine .of' _ _ ⟨0, _, B, by omega, Nat.le_refl _, Nat.le_refl _, by omega, by omega, rfl⟩ ?_ ?_ ?_
      all_goals simp only [List.take_zero, Ex.cdL, List.append_nil]
      all_goals exact L_
    rintro n s' ⟨i, M, Y, hi, hM, hBY, hYM, hY1, rfl⟩
    have hcY : c ≠ Y := by omega
    try refine S_ ?_
    refine g_ [0,3,7,8,9,10] ?_
    refine c_ (fun hc0 => ?_) fun hc0 => ?_
    ·
      have hi2 : i < e.kids.length := by omega
      have hget := Ex.get_szL e.kids i hi2
      have htk := Ex.cdL_take e.kids i hi2
      have hln := Ex.cdL_pre e.kids (i + 1)
      rw [htk, List.length_append, Ex.cd_len] at hln
      have htk' : l ++ Ex.cdL (e.kids.take (i + 1)) = l ++ Ex.cdL (e.kids.take i) ++ (e.kids.getD i default).cd := by rw [htk, List.append_assoc]
      have hll : (l ++ Ex.cdL (e.kids.take i)).length + (e.kids.getD i default).sz ≤ 1099511627776 := by rw [List.length_append]; omega
      refine g_ [0,3,5,7,8,9] ?_
      refine wpM_regionK [0,3,7,8,9] rfl fun Q1 hQ1 => ?_
      refine S_ ?_
      refine call_fn (l := cfoot c Y (l ++ Ex.cdL (e.kids.take i))) (first := []) (cap := []) (ps := [.ptr c 0, .agg (e.kids.getD i default).cs]) (ih (e.kids.getD i default) (by omega) (by omega) c Y (l ++ Ex.cdL (e.kids.take i)) hcY hll) Tryz.call85 rfl rfl rfl G_ T_ ?_
      rintro out ⟨z', ⟨⟩, rfl⟩
      refine S_ ?_
      refine hQ1 _ _ (S_ ?_);clear hQ1 Q1
      refine g_ [0,3,7,8,9] ?_
      refine .of' _ _ ⟨n - 1, by omega, i + 1, _, M + 1, by omega, M_, M_, M_, M_, rfl⟩ ?_ ?_ ?_
      all_goals (try rw [htk'])
      all_goals exact L_
    refine n_ ?_
    have hie : i = e.kids.length := by omega
    rw [hie, List.take_of_length_le (Nat.le_refl _)]
    have hLl := Ex.cdL_len e.kids
    have hL2 : (l ++ Ex.cdL e.kids).length ≤ 1099511627776 := by rw [List.length_append]; omega
    generalize hL : l ++ Ex.cdL e.kids = L at *
    have key : ∀ i, lastI e = i → l ++ e.cd = L ++ [i] := by rintro i rfl; rw [hcd]
    refine g_ [0,3,18] ?_
    refine g_ [0,3,18,24] ?_
    refine c_ (fun hc1 => ?_) fun hc1 => ?_
    ·
      refine wpM_regionK [] rfl fun Q1 hQ1 => ?_
      refine S_ ?_
      refine call_fn (l := cfoot c Y L) (first := []) (cap := []) (ps := [.ptr c 0, .agg (GI.cs ⟨1, e.n, A0⟩)]) (cadd_ok c Y hcY L ⟨1, e.n, A0⟩ hL2) Tryz.call86 rfl rfl rfl G_ T_ ?_
      rintro out ⟨z', ⟨⟩, rfl⟩
      refine S_ ?_
      refine hQ1 _ _ (S_ ?_);clear hQ1 Q1
      refine hQ _ _ (retKn [M] [(c, some (cobj z (L ++ [(⟨1, e.n, A0⟩ : GI)]).length)), (y, none)] [(z, .cells 81 (insC (L ++ [(⟨1, e.n, A0⟩ : GI)])))] rfl rfl rfl (by rw [Tryz.results85] <;> simp (maxSteps := 1000000) -implicitDefEqProofs (disch := omega) only [go_sem] <;> rfl) ?_ ⟨z, rfl, by rw [key ⟨1, e.n, A0⟩ (by rw [lastI, if_pos hc1])]⟩ ?_ ?_ ?_ ?_ ?_ ?_)
      all_goals (first | (simp -implicitDefEqProofs (disch := omega) only [go_sem, List.nodup_cons, List.nodup_nil, true_or, or_true, List.mem_cons, List.not_mem_nil, if_true]; done) | (simp -implicitDefEqProofs (disch := omega) only [go_sem, List.nodup_cons, List.nodup_nil, true_or, or_true, List.mem_cons, List.not_mem_nil]; omega))
    refine g_ [0,3,18,31] ?_
    refine c_ (fun hc2 => ?_) fun hc2 => ?_
    ·
      refine wpM_regionK [] rfl fun Q1 hQ1 => ?_
      refine S_ ?_
      refine call_fn (l := cfoot c Y L) (first := []) (cap := []) (ps := [.ptr c 0, .agg (GI.cs ⟨2, 0, e.a⟩)]) (cadd_ok c Y hcY L ⟨2, 0, e.a⟩ hL2) Tryz.call86 rfl rfl rfl G_ T_ ?_
      rintro out ⟨z', ⟨⟩, rfl⟩
      refine S_ ?_
      refine hQ1 _ _ (S_ ?_);clear hQ1 Q1
      refine hQ _ _ (retKn [M] [(c, some (cobj z (L ++ [(⟨2, 0, e.a⟩ : GI)]).length)), (y, none)] [(z, .cells 81 (insC (L ++ [(⟨2, 0, e.a⟩ : GI)])))] rfl rfl rfl (by rw [Tryz.results85] <;> simp (maxSteps := 1000000) -implicitDefEqProofs (disch := omega) only [go_sem] <;> rfl) ?_ ⟨z, rfl, by rw [key ⟨2, 0, e.a⟩ (by rw [lastI, if_neg (by rw [hc1]; simp), if_pos hc2])]⟩ ?_ ?_ ?_ ?_ ?_ ?_)
      all_goals (first | (simp -implicitDefEqProofs (disch := omega) only [go_sem, List.nodup_cons, List.nodup_nil, true_or, or_true, List.mem_cons, List.not_mem_nil, if_true]; done) | (simp -implicitDefEqProofs (disch := omega) only [go_sem, List.nodup_cons, List.nodup_nil, true_or, or_true, List.mem_cons, List.not_mem_nil]; omega))
    refine g_ [0,3,38] ?_
    refine c_ (fun hc3 => ?_) fun hc3 => ?_
    ·
      refine wpM_regionK [] rfl fun Q1 hQ1 => ?_
      refine S_ ?_
      refine call_fn (l := cfoot c Y L) (first := []) (cap := []) (ps := [.ptr c 0, .agg (GI.cs ⟨5, 0, A0⟩)]) (cadd_ok c Y hcY L ⟨5, 0, A0⟩ hL2) Tryz.call86 rfl rfl rfl G_ T_ ?_
      rintro out ⟨z', ⟨⟩, rfl⟩
      refine S_ ?_
      refine hQ1 _ _ (S_ ?_);clear hQ1 Q1
      refine hQ _ _ (retKn [M] [(c, some (cobj z (L ++ [(⟨5, 0, A0⟩ : GI)]).length)), (y, none)] [(z, .cells 81 (insC (L ++ [(⟨5, 0, A0⟩ : GI)])))] rfl rfl rfl (by rw [Tryz.results85] <;> simp (maxSteps := 1000000) -implicitDefEqProofs (disch := omega) only [go_sem] <;> rfl) ?_ ⟨z, rfl, by rw [key ⟨5, 0, A0⟩ (by rw [lastI, if_neg (by rw [hc1]; simp), if_neg (by rw [hc2]; simp), if_pos hc3])]⟩ ?_ ?_ ?_ ?_ ?_ ?_)
      all_goals (first | (simp -implicitDefEqProofs (disch := omega) only [go_sem, List.nodup_cons, List.nodup_nil, true_or, or_true, List.mem_cons, List.not_mem_nil, if_true]; done) | (simp -implicitDefEqProofs (disch := omega) only [go_sem, List.nodup_cons, List.nodup_nil, true_or, or_true, List.mem_cons, List.not_mem_nil]; omega))
    refine wpM_regionK [] rfl fun Q1 hQ1 => ?_
    refine S_ ?_
    refine call_fn (l := cfoot c Y L) (first := []) (cap := []) (ps := [.ptr c 0, .agg (GI.cs ⟨4, e.kind, A0⟩)]) (cadd_ok c Y hcY L ⟨4, e.kind, A0⟩ hL2) Tryz.call86 rfl rfl rfl G_ T_ ?_
    rintro out ⟨z', ⟨⟩, rfl⟩
    refine S_ ?_
    refine hQ1 _ _ (S_ ?_);clear hQ1 Q1
    refine hQ _ _ (retKn [M] [(c, some (cobj z (L ++ [(⟨4, e.kind, A0⟩ : GI)]).length)), (y, none)] [(z, .cells 81 (insC (L ++ [(⟨4, e.kind, A0⟩ : GI)])))] rfl rfl rfl (by rw [Tryz.results85] <;> simp (maxSteps := 1000000) -implicitDefEqProofs (disch := omega) only [go_sem] <;> rfl) ?_ ⟨z, rfl, by rw [key ⟨4, e.kind, A0⟩ (by rw [lastI, if_neg (by rw [hc1]; simp), if_neg (by rw [hc2]; simp), if_neg (by rw [hc3]; simp)])]⟩ ?_ ?_ ?_ ?_ ?_ ?_)
    all_goals (first | (simp -implicitDefEqProofs (disch := omega) only [go_sem, List.nodup_cons, List.nodup_nil, true_or, or_true, List.mem_cons, List.not_mem_nil, if_true]; done) | (simp -implicitDefEqProofs (disch := omega) only [go_sem, List.nodup_cons, List.nodup_nil, true_or, or_true, List.mem_cons, List.not_mem_nil]; omega))
end Go.Proofs.YtmicbfojofcigaaGreatDoor
namespace Go.Proofs.YtmicbfojofcigaaGreatDoor
open Go Sg
set_option linter.unusedSectionVars false
variable [Glob]
set_option maxRecDepth 100000
set_option linter.unusedSimpArgs false
set_option linter.unusedVariables false
set_option linter.unusedSectionVars false
set_option maxHeartbeats 4000000
theorem landL_mid (X Y : List GI) (i : GI) : landL (X ++ i :: Y) X.length = X ++ ⟨i.op, ((X.length + 1 + Y.length : Nat) : Int), i.a⟩ :: Y := by
  unfold landL
  rw [List.set_append_right _ _ (Nat.le_refl _), Nat.sub_self, List.set_cons_zero]
  have : (X ++ i :: Y).getD X.length default = i := by simp [List.getD]
  rw [this]
  have h2 : (X ++ i :: Y).length = X.length + 1 + Y.length := by simp; omega
  rw [h2]
theorem Sm.szL_take (l : List Sm) (i : Nat) (h : i < l.length) : Sm.szL (l.take i) + (l.getD i default).sz ≤ Sm.szL l := by
  induction l generalizing i with
  | nil => simp at h
  | cons s l ih =>
    cases i with
    | zero => simp [Sm.szL]
    | succ i =>
      have := ih i (by simpa using h)
      simp only [List.take_succ_cons, Sm.szL, List.getD_cons_succ]; omega
theorem cstmts_ok : ∀ (N : Nat) (list : List Sm), Sm.szL list ≤ N → Sm.szL list ≤ 1000000000 → ∀ (c y : Nat) (l : List GI), c ≠ y → l.length + 2 * Sm.szL list ≤ 1099511627776 →
    CallF Tryz.prog 47 [.ptr c 0, .rows 52 (Sm.csL list)] (cfoot c y l) 1 (COk c y (l ++ Sm.cdL list l.length) []) := by
  intro N
  induction N with
  | zero =>
    intro list hN hs c y l hcy hl
    have h0 : list.length = 0 := by have := Sm.len_szL list; omega
    obtain rfl : list = [] := List.eq_nil_of_length_eq_zero h0
    refine callF_ofC' Tryz.func47 rfl Tryz.ntmps47 (by simp) ?_
    intro f0 B ns Q hB hns hQ
    have hc : c < B := hB c (by simp [hasKey, lk, cfoot])
    have hy : y < B := hB y (by simp [hasKey, lk, cfoot, hcy])
    obtain ⟨z, rfl⟩ : ∃ z, ns = [z] := by
      match ns, hns with
      | [x], _ => exact ⟨x, rfl⟩
    refine n_ ?_
    refine wpM_ren y (.cells 81 (insC l)) T_ T_ (Nat.le_refl _) rfl ?_
    refine S_ ?_
    refine g_ [0,10,11,12] ?_
    refine n_ ?_
    refine wpM_loopS (fun s n s' => s' = s) (0) ?_ ?_
    ·
      exact .here rfl
    rintro n s' rfl
    try refine S_ ?_
    refine g_ [0,10,11,12,13] ?_
    refine c_ (fun hc0 => ?_) fun hc0 => ?_
    · simp at hc0
    refine n_ ?_
    have hnil : l ++ Sm.cdL [] l.length = l := by simp [Sm.cdL]
    refine hQ _ _ (retKn [B] [(c, some (cobj z l.length)), (y, none)] [(z, .cells 81 (insC l))] rfl rfl rfl (by rw [Tryz.results47] <;> simp (maxSteps := 1000000) -implicitDefEqProofs (disch := omega) only [go_sem] <;> rfl) ?_ ⟨z, rfl, by rw [hnil]⟩ ?_ ?_ ?_ ?_ ?_ ?_)
    all_goals (first | (simp -implicitDefEqProofs (disch := omega) only [go_sem, List.nodup_cons, List.nodup_nil, true_or, or_true, List.mem_cons, List.not_mem_nil, if_true]; done) | (simp -implicitDefEqProofs (disch := omega) only [go_sem, List.nodup_cons, List.nodup_nil, true_or, or_true, List.mem_cons, List.not_mem_nil]; omega))
  | succ N ih =>
    intro list hN hs c y l hcy hl
    have hlen := Sm.len_szL list
    refine callF_ofC' Tryz.func47 rfl Tryz.ntmps47 (by simp) ?_
    intro f0 B ns Q hB hns hQ
    have hc : c < B := hB c (by simp [hasKey, lk, cfoot])
    have hy : y < B := hB y (by simp [hasKey, lk, cfoot, hcy])
    obtain ⟨z, rfl⟩ : ∃ z, ns = [z] := by
      match ns, hns with
      | [x], _ => exact ⟨x, rfl⟩
    refine n_ ?_
    refine wpM_ren y (.cells 81 (insC l)) T_ T_ (Nat.le_refl _) rfl ?_
    refine S_ ?_
    refine g_ [0,10,11,12] ?_
    refine n_ ?_
    refine wpM_loopS (fun q n s' => ∃ (i M Y : Nat) (L : List GI), i + n = list.length ∧ B + 1 ≤ M ∧ B ≤ Y ∧ Y < M ∧ L = l ++ Sm.cdL (list.take i) l.length ∧ s' = { q with env := setE 12 (.int .i64 (i : Nat)) q.env, l := cfoot c Y L, M := M }) (list.length) ?_ ?_
    ·
      refine .of' _ _ ⟨0, _, B, l, by omega, Nat.le_refl _, Nat.le_refl _, by omega, by simp [Sm.cdL], rfl⟩ ?_ ?_ ?_
      all_goals exact L_
    rintro n s' ⟨i, M, Y, L, hi, hM, hBY, hYM, hL, rfl⟩
    have hcY : c ≠ Y := by omega
    try refine S_ ?_
    refine g_ [0,10,11,12,13] ?_
    refine c_ (fun hc0 => ?_) fun hc0 => ?_
    ·
      have hi2 : i < list.length := by omega
      have hin := Sm.get_in hi2
      have htk := Sm.cdL_take list l.length i hi2
      have hst := Sm.szL_take list i hi2
      have hcl := Sm.cdL_len (list.take i) l.length
      have hLl : L.length = l.length + (Sm.cdL (list.take i) l.length).length := by rw [hL, List.length_append]
      have hsz := (list.getD i default).sz_eq
      have hE := Ex.cd_len (list.getD i default).e
      have hce := Sm.cd_eq (list.getD i default) L.length
      rw [← hLl] at htk
      have htk' : l ++ Sm.cdL (list.take (i + 1)) l.length = L ++ (list.getD i default).cd L.length := by rw [htk, hL, List.append_assoc]
      have hA1 := Sm.cdL_len (list.getD i default).th (L.length + (list.getD i default).e.cd.length + 1)
      have hLb : L.length + 2 * (list.getD i default).sz ≤ 1099511627776 := by omega
      clear hL htk hcl hLl
      refine g_ [0,5,10,11,12] ?_
      generalize hs' : list.getD i default = s at *
      refine g_ [0,5,6,10,11,12] ?_
      refine n_ ?_
      refine wpM_regionK [0,5,6,10,11,12] rfl fun Q1 hQ1 => ?_
      refine S_ ?_
      refine call_fn (l := cfoot c Y L) (first := []) (cap := []) (ps := [.ptr c 0, .agg s.e.cs]) (cexpr_ok _ s.e (Nat.le_refl _) (by omega) c Y L hcY (by omega)) Tryz.call85 rfl rfl rfl G_ T_ ?_
      rintro out ⟨z', ⟨⟩, rfl⟩
      refine S_ ?_
      refine hQ1 _ _ (S_ ?_);clear hQ1 Q1
      refine n_ ?_
      have hL1 : (L ++ s.e.cd).length = L.length + s.e.cd.length := List.length_append
      generalize hq1 : L ++ s.e.cd = L1 at *
      refine g_ [0,5,6,10,11,12,26] ?_
      refine g_ [0,5,6,10,11,12,26,27] ?_
      refine c_ (fun hc1 => ?_) fun hc1 => ?_
      ·
        refine wpM_regionK [0,10,11,12] rfl fun Q1 hQ1 => ?_
        refine S_ ?_
        refine call_fn (l := cfoot c (M + 1) L1) (first := []) (cap := []) (ps := [.ptr c 0, .agg (GI.cs ⟨3, 0, s.to'⟩)]) (cadd_ok c (M + 1) (by omega) L1 ⟨3, 0, s.to'⟩ (by omega)) Tryz.call86 rfl rfl rfl G_ T_ ?_
        rintro out ⟨z', ⟨⟩, rfl⟩
        refine S_ ?_
        refine hQ1 _ _ (S_ ?_);clear hQ1 Q1
        refine g_ [0,10,11,12] ?_
        have hnew : L ++ s.cd L.length = L1 ++ [(⟨3, 0, s.to'⟩ : GI)] := by rw [hce, if_pos hc1, ← hq1, List.append_assoc]
        refine .of' _ _ ⟨n - 1, by omega, i + 1, _, M + 2, L1 ++ [(⟨3, 0, s.to'⟩ : GI)], by omega, M_, M_, M_, by rw [← hnew, htk'], rfl⟩ L_ L_ L_
      refine g_ [0,5,6,10,11,12,26,34] ?_
      refine c_ (fun hc2 => ?_) fun hc2 => ?_
      ·
        refine n_ ?_
        refine wpM_regionK [0,5,7,10,11,12] rfl fun Q1 hQ1 => ?_
        refine S_ ?_
        refine call_fn (l := cfoot c (M + 1) L1) (first := []) (cap := []) (ps := [.ptr c 0, .agg (GI.cs ⟨6, 0, A0⟩)]) (cadd_ok c (M + 1) (by omega) L1 ⟨6, 0, A0⟩ (by omega)) Tryz.call86 rfl rfl rfl G_ T_ ?_
        rintro out ⟨z', ⟨⟩, rfl⟩
        refine S_ ?_
        refine hQ1 _ _ (S_ ?_);clear hQ1 Q1
        refine n_ ?_
        have hL2 : (L1 ++ [(⟨6, 0, A0⟩ : GI)]).length = L.length + s.e.cd.length + 1 := by rw [List.length_append, hL1]; rfl
        have hq2 : ∃ L2, L2 = L1 ++ [(⟨6, 0, A0⟩ : GI)] := ⟨_, rfl⟩
        obtain ⟨L2, hq2⟩ := hq2
        rw [← hq2] at hL2 ⊢
        refine wpM_regionK [0,5,7,10,11,12] rfl fun Q1 hQ1 => ?_
        refine S_ ?_
        refine call_fn (l := cfoot c (M + 2) L2) (first := []) (cap := []) (ps := [.ptr c 0, .rows 52 (Sm.csL s.th)]) (ih s.th (by omega) (by omega) c (M + 2) L2 (by omega) (by omega)) Tryz.call47 rfl rfl rfl G_ T_ ?_
        rintro out ⟨z', ⟨⟩, rfl⟩
        refine S_ ?_
        refine hQ1 _ _ (S_ ?_);clear hQ1 Q1
        refine n_ ?_
        rw [hL2]
        generalize hA : Sm.cdL s.th (L.length + s.e.cd.length + 1) = A at *
        refine wpM_regionK [0,5,7,8,10,11,12] rfl fun Q1 hQ1 => ?_
        refine S_ ?_
        refine call_fn (l := cfoot c (M + 3) (L2 ++ A)) (first := []) (cap := []) (ps := [.ptr c 0, .agg (GI.cs ⟨7, 0, A0⟩)]) (cadd_ok c (M + 3) (by omega) (L2 ++ A) ⟨7, 0, A0⟩ (by rw [List.length_append]; omega)) Tryz.call86 rfl rfl rfl G_ T_ ?_
        rintro out ⟨z', ⟨⟩, rfl⟩
        refine S_ ?_
        refine hQ1 _ _ (S_ ?_);clear hQ1 Q1
        refine n_ ?_
        have hK : L2 ++ A ++ [(⟨7, 0, A0⟩ : GI)] = L1 ++ (⟨6, 0, A0⟩ : GI) :: (A ++ [⟨7, 0, A0⟩]) := by rw [hq2]; simp
        have hland := landL_mid L1 (A ++ [(⟨7, 0, A0⟩ : GI)]) ⟨6, 0, A0⟩
        rw [← hK] at hland
        have hK3 : (L2 ++ A ++ [(⟨7, 0, A0⟩ : GI)]).length = L1.length + 1 + A.length + 1 := by rw [hK]; simp; omega
        generalize hL3 : L2 ++ A ++ [(⟨7, 0, A0⟩ : GI)] = L3 at *
        refine wpM_regionK [0,5,8,10,11,12] rfl fun Q1 hQ1 => ?_
        refine S_ ?_
        refine call_fn (l := cfoot c (M + 4) L3) (first := []) (cap := []) (ps := [.ptr c 0, .int .i64 (L1.length : Nat)]) (land_ok c (M + 4) (by omega) L3 L1.length (by omega) (by omega)) Tryz.call87 rfl rfl rfl G_ T_ ?_
        rintro out rfl
        refine S_ ?_
        refine hQ1 _ _ (S_ ?_);clear hQ1 Q1
        refine n_ ?_
        rw [hland]
        have hL4 : (L1 ++ (⟨6, ((L1.length + 1 + (A ++ [(⟨7, 0, A0⟩ : GI)]).length : Nat) : Int), A0⟩ : GI) :: (A ++ [⟨7, 0, A0⟩])).length = L.length + s.e.cd.length + 1 + A.length + 1 := by simp; omega
        have hA2 := Sm.cdL_len s.el (L.length + s.e.cd.length + 1 + A.length + 1)
        have hq4 : ∃ L4, L4 = L1 ++ (⟨6, ((L1.length + 1 + (A ++ [(⟨7, 0, A0⟩ : GI)]).length : Nat) : Int), A0⟩ : GI) :: (A ++ [⟨7, 0, A0⟩]) := ⟨_, rfl⟩
        obtain ⟨L4, hq4⟩ := hq4
        rw [← hq4] at hL4 ⊢
        have hL3l : L3.length = L4.length := by omega
        have h7 : (L2 ++ A).length = L.length + s.e.cd.length + 1 + A.length := by rw [List.length_append]; omega
        rw [hL3l]
        refine wpM_regionK [0,8,10,11,12] rfl fun Q1 hQ1 => ?_
        refine S_ ?_
        refine call_fn (l := cfoot c (M + 4) L4) (first := []) (cap := []) (ps := [.ptr c 0, .rows 52 (Sm.csL s.el)]) (ih s.el (by omega) (by omega) c (M + 4) L4 (by omega) (by omega)) Tryz.call47 rfl rfl rfl G_ T_ ?_
        rintro out ⟨z', ⟨⟩, rfl⟩
        refine S_ ?_
        refine hQ1 _ _ (S_ ?_);clear hQ1 Q1
        rw [hL4, h7]
        generalize hBc : Sm.cdL s.el (L.length + s.e.cd.length + 1 + A.length + 1) = Bc at *
        have hX : (L1 ++ (⟨6, ((L1.length + 1 + (A ++ [(⟨7, 0, A0⟩ : GI)]).length : Nat) : Int), A0⟩ : GI) :: A).length = L.length + s.e.cd.length + 1 + A.length := by simp; omega
        have hland2 := landL_mid (L1 ++ (⟨6, ((L1.length + 1 + (A ++ [(⟨7, 0, A0⟩ : GI)]).length : Nat) : Int), A0⟩ : GI) :: A) Bc ⟨7, 0, A0⟩
        have hL5 : L4 ++ Bc = (L1 ++ (⟨6, ((L1.length + 1 + (A ++ [(⟨7, 0, A0⟩ : GI)]).length : Nat) : Int), A0⟩ : GI) :: A) ++ (⟨7, 0, A0⟩ : GI) :: Bc := by rw [hq4]; simp
        have hL5l : (L4 ++ Bc).length = L4.length + Bc.length := List.length_append
        rw [← hL5, hX] at hland2
        generalize hq5 : L4 ++ Bc = L5 at *
        refine wpM_regionK [0,10,11,12] rfl fun Q1 hQ1 => ?_
        refine S_ ?_
        refine call_fn (l := cfoot c (M + 5) L5) (first := []) (cap := []) (ps := [.ptr c 0, .int .i64 ((L.length + s.e.cd.length + 1 + A.length : Nat) : Int)]) (land_ok c (M + 5) (by omega) L5 (L.length + s.e.cd.length + 1 + A.length) (by omega) (by omega)) Tryz.call87 rfl rfl rfl G_ T_ ?_
        rintro out rfl
        refine S_ ?_
        refine hQ1 _ _ (S_ ?_);clear hQ1 Q1
        refine g_ [0,10,11,12] ?_
        have hnew : L ++ s.cd L.length = landL L5 (L.length + s.e.cd.length + 1 + A.length) := by
          rw [hce, if_neg (by rw [hc1]; simp), if_pos hc2, hland2, ← hq1]
          simp [hL1]
          omega
        refine .of' _ _ ⟨n - 1, by omega, i + 1, _, M + 5, landL L5 (L.length + s.e.cd.length + 1 + A.length), by omega, M_, M_, M_, by rw [← hnew, htk'], rfl⟩ L_ L_ L_
      refine g_ [0,5,6,10,11,12,56] ?_
      refine c_ (fun hc3 => ?_) fun hc3 => ?_
      ·
        refine n_ ?_
        refine wpM_regionK [0,5,6,9,10,11,12] rfl fun Q1 hQ1 => ?_
        refine S_ ?_
        refine call_fn (l := cfoot c (M + 1) L1) (first := []) (cap := []) (ps := [.ptr c 0, .agg (GI.cs ⟨6, 0, A0⟩)]) (cadd_ok c (M + 1) (by omega) L1 ⟨6, 0, A0⟩ (by omega)) Tryz.call86 rfl rfl rfl G_ T_ ?_
        rintro out ⟨z', ⟨⟩, rfl⟩
        refine S_ ?_
        refine hQ1 _ _ (S_ ?_);clear hQ1 Q1
        refine n_ ?_
        have hL2 : (L1 ++ [(⟨6, 0, A0⟩ : GI)]).length = L.length + s.e.cd.length + 1 := by rw [List.length_append, hL1]; rfl
        have hq2 : ∃ L2, L2 = L1 ++ [(⟨6, 0, A0⟩ : GI)] := ⟨_, rfl⟩
        obtain ⟨L2, hq2⟩ := hq2
        rw [← hq2] at hL2 ⊢
        refine wpM_regionK [0,6,9,10,11,12] rfl fun Q1 hQ1 => ?_
        refine S_ ?_
        refine call_fn (l := cfoot c (M + 2) L2) (first := []) (cap := []) (ps := [.ptr c 0, .rows 52 (Sm.csL s.th)]) (ih s.th (by omega) (by omega) c (M + 2) L2 (by omega) (by omega)) Tryz.call47 rfl rfl rfl G_ T_ ?_
        rintro out ⟨z', ⟨⟩, rfl⟩
        refine S_ ?_
        refine hQ1 _ _ (S_ ?_);clear hQ1 Q1
        refine n_ ?_
        rw [hL2]
        generalize hA : Sm.cdL s.th (L.length + s.e.cd.length + 1) = A at *
        refine wpM_regionK [0,9,10,11,12] rfl fun Q1 hQ1 => ?_
        refine S_ ?_
        refine call_fn (l := cfoot c (M + 3) (L2 ++ A)) (first := []) (cap := []) (ps := [.ptr c 0, .agg (GI.cs ⟨8, (L.length : Nat), A0⟩)]) (cadd_ok c (M + 3) (by omega) (L2 ++ A) ⟨8, (L.length : Nat), A0⟩ (by rw [List.length_append]; omega)) Tryz.call86 rfl rfl rfl G_ T_ ?_
        rintro out ⟨z', ⟨⟩, rfl⟩
        refine S_ ?_
        refine hQ1 _ _ (S_ ?_);clear hQ1 Q1
        have hK : L2 ++ A ++ [(⟨8, (L.length : Nat), A0⟩ : GI)] = L1 ++ (⟨6, 0, A0⟩ : GI) :: (A ++ [⟨8, (L.length : Nat), A0⟩]) := by rw [hq2]; simp
        have hland := landL_mid L1 (A ++ [(⟨8, (L.length : Nat), A0⟩ : GI)]) ⟨6, 0, A0⟩
        rw [← hK] at hland
        have hK3 : (L2 ++ A ++ [(⟨8, (L.length : Nat), A0⟩ : GI)]).length = L1.length + 1 + A.length + 1 := by rw [hK]; simp; omega
        generalize hL3 : L2 ++ A ++ [(⟨8, (L.length : Nat), A0⟩ : GI)] = L3 at *
        refine wpM_regionK [0,10,11,12] rfl fun Q1 hQ1 => ?_
        refine S_ ?_
        refine call_fn (l := cfoot c (M + 4) L3) (first := []) (cap := []) (ps := [.ptr c 0, .int .i64 (L1.length : Nat)]) (land_ok c (M + 4) (by omega) L3 L1.length (by omega) (by omega)) Tryz.call87 rfl rfl rfl G_ T_ ?_
        rintro out rfl
        refine S_ ?_
        refine hQ1 _ _ (S_ ?_);clear hQ1 Q1
        refine g_ [0,10,11,12] ?_
        have hnew : L ++ s.cd L.length = landL L3 L1.length := by
          rw [hce, if_neg (by rw [hc1]; simp), if_neg (by rw [hc2]; simp), if_pos hc3, hland, ← hq1]
          simp [hL1]
          omega
        refine .of' _ _ ⟨n - 1, by omega, i + 1, _, M + 4, landL L3 L1.length, by omega, M_, M_, M_, by rw [← hnew, htk'], rfl⟩ L_ L_ L_
      refine g_ [0,10,11,12] ?_
      have hnew : L ++ s.cd L.length = L1 := by
        rw [hce, if_neg (by rw [hc1]; simp), if_neg (by rw [hc2]; simp), if_neg (by rw [hc3]; simp), hq1]
      refine .of' _ _ ⟨n - 1, by omega, i + 1, _, M + 1, L1, by omega, M_, M_, M_, by rw [← hnew, htk'], rfl⟩ L_ L_ L_
    refine n_ ?_
    obtain rfl : i = list.length := by omega
    rw [List.take_of_length_le (Nat.le_refl _)] at hL
    refine hQ _ _ (retKn [Y] [(c, some (cobj z L.length)), (y, none)] [(z, .cells 81 (insC L))] rfl rfl rfl (by rw [Tryz.results47] <;> simp (maxSteps := 1000000) -implicitDefEqProofs (disch := omega) only [go_sem] <;> rfl) ?_ ⟨z, rfl, by rw [hL]⟩ ?_ ?_ ?_ ?_ ?_ ?_)
    all_goals (first | (simp -implicitDefEqProofs (disch := omega) only [go_sem, List.nodup_cons, List.nodup_nil, true_or, or_true, List.mem_cons, List.not_mem_nil, if_true]; done) | (simp -implicitDefEqProofs (disch := omega) only [go_sem, List.nodup_cons, List.nodup_nil, true_or, or_true, List.mem_cons, List.not_mem_nil]; omega))
end Go.Proofs.YtmicbfojofcigaaGreatDoor
namespace Go.Proofs.YtmicbfojofcigaaGreatDoor
open Go Sg
set_option maxRecDepth 100000
set_option linter.unusedSimpArgs false
set_option linter.unusedVariables false
set_option linter.unusedSectionVars false
set_option maxHeartbeats 4000000
variable [ErrL]
def codeOf (l : List Sm) : List GI := if okS l then Sm.cdL l 0 else []
theorem icodeOf_ok (l : List Sm) (hs : Sm.szL l ≤ 1000000000) : PureF Tryz.prog 19 [.rows 52 (Sm.csL l)] [.rows 81 (insR (codeOf l))] := by
  refine pureF_of Tryz.func19 rfl Tryz.ntmps19 (by simp) T_ ?_
  intro f0 B Q hQ
  refine g_ [0] ?_
  refine n_ ?_
  refine wpM_regionK [0,6] rfl fun Q1 hQ1 => ?_
  refine S_ ?_
  refine cp_ (istmtsOk_ok l (by omega)) Tryz.call24 ?_
  refine hQ1 _ _ (S_ ?_);clear hQ1 Q1
  refine c_ (fun hc0 => ?_) fun hc0 => ?_
  ·
    refine g_ [2] ?_
    have hcs : codeOf l = [] := by rw [codeOf, if_neg]; intro h; rw [h] at hc0; cases hc0
    refine wpM_le [(2, .rows 81 [])] [] T_ T_ T_ ?_
    refine e_ Tryz.results19 ?_
    first
    | exact True.intro
    | rw [hcs]
      try rfl
  refine g_ [0,3] ?_
  have hok : okS l = true := by simpa using hc0
  have hcs : codeOf l = Sm.cdL l 0 := by rw [codeOf, if_pos hok]
  refine wpM_nil 81 [(0, .rows 52 (Sm.csL l)), (3, .ptr B 0)] [(B, .cells 78 [.sl 81 (B + 1) 0 0])] T_ T_ T_ ?_
  refine S_ ?_
  refine n_ ?_
  refine wpM_regionK [3] rfl fun Q1 hQ1 => ?_
  refine S_ ?_
  refine call_fn (l := cfoot B (B + 1) []) (first := []) (cap := []) (ps := [.ptr B 0, .rows 52 (Sm.csL l)]) (cstmts_ok _ l (Nat.le_refl _) hs B (B + 1) [] (by omega) (by simp; omega)) Tryz.call47 rfl rfl rfl G_ (by simp -implicitDefEqProofs (disch := omega) only [go_sem, List.length_nil]) ?_
  rintro out ⟨z', ⟨⟩, rfl⟩
  refine S_ ?_
  refine hQ1 _ _ (S_ ?_);clear hQ1 Q1
  refine g_ [2] ?_
  refine wpM_frz [B + 2] [(81, B + 2, 0, (Sm.cdL l 0).length, insR (Sm.cdL l 0))] (by intro q hq; simp at hq; subst hq; simp -implicitDefEqProofs (disch := omega) only [go_sem]) (by intro q hq; simp only [List.mem_cons, List.not_mem_nil, or_false] at hq; subst hq; exact ⟨by simp, rowsOf_insC (T := 81) T_ rfl⟩) ?_
  refine S_ ?_
  refine e_ Tryz.results19 ?_
  first
  | exact True.intro
  | rw [hcs]
    try rfl
theorem l5Expr_ok (d : Nat) : ∀ (e : Ex), formD d e = true → e.sz ≤ 1000000000 → CallF Tryz.prog 118 [.agg e.cs] [] 1 (fun ns o => ∃ z, ns = [z] ∧ o = { rs := [.sl 81 z 0 e.cd.length], nw := [(z, .cells 81 (insC e.cd))] }) := by
  induction d with
  | zero => intro e h; cases h
  | succ d ih =>
    intro e he hs
    obtain ⟨hk, ha, hkids⟩ := form_inv he
    have hsz := e.sz_eq
    have hcd := e.cd_eq
    refine callF_of' Tryz.func118 rfl Tryz.ntmps118 (by simp) ?_
    intro f0 B ns Q hB hns hQ
    obtain ⟨z, rfl⟩ : ∃ z, ns = [z] := by
      match ns, hns with
      | [x], _ => exact ⟨x, rfl⟩
    refine g_ [1] ?_
    refine g_ [1,4] ?_
    refine g_ [1,4,5] ?_
    refine c_ (fun hc0 => ?_) fun hc0 => ?_
    ·
      have h1 : e.kind = 1 := by simpa using hc0
      have hk0 : e.kids = [] := List.eq_nil_of_length_eq_zero (by rw [h1] at hk; simp [kidsN] at hk; omega)
      have hcd' : e.cd = [⟨1, e.n, A0⟩] := by rw [hcd, hk0, lastI, if_pos hc0]; rfl
      refine g_ [2] ?_
      refine wpM_ret ?_
      try refine S_ ?_
      rw [hcd'] at hQ
      refine hQ _ _ (retK [B + 1] [] [(z, .cells 81 (insC ([(⟨1, e.n, A0⟩ : GI)])))] rfl rfl rfl (by rw [Tryz.results118] <;> simp (maxSteps := 1000000) -implicitDefEqProofs (disch := omega) only [go_sem] <;> rfl) ?_ ⟨z, rfl, rfl⟩ ?_ ?_ ?_ ?_ ?_ ?_)
      all_goals (first | (simp -implicitDefEqProofs (disch := omega) only [go_sem, List.nodup_cons, List.nodup_nil, true_or, or_true, List.mem_cons, List.not_mem_nil, if_true, List.length_append]; done) | (simp -implicitDefEqProofs (disch := omega) only [go_sem, List.nodup_cons, List.nodup_nil, true_or, or_true, List.mem_cons, List.not_mem_nil, List.length_append]; first | rfl | omega))
    refine g_ [1,4,11] ?_
    refine c_ (fun hc1 => ?_) fun hc1 => ?_
    ·
      have h1 : e.kind = 2 := by simpa using hc1
      have hk0 : e.kids = [] := List.eq_nil_of_length_eq_zero (by rw [h1] at hk; simp [kidsN] at hk; omega)
      have hcd' : e.cd = [⟨2, 0, e.a⟩] := by rw [hcd, hk0, lastI, if_neg (by rw [hc0]; simp), if_pos hc1]; rfl
      refine g_ [2] ?_
      refine wpM_ret ?_
      try refine S_ ?_
      rw [hcd'] at hQ
      refine hQ _ _ (retK [B + 1] [] [(z, .cells 81 (insC ([(⟨2, 0, e.a⟩ : GI)])))] rfl rfl rfl (by rw [Tryz.results118] <;> simp (maxSteps := 1000000) -implicitDefEqProofs (disch := omega) only [go_sem] <;> rfl) ?_ ⟨z, rfl, rfl⟩ ?_ ?_ ?_ ?_ ?_ ?_)
      all_goals (first | (simp -implicitDefEqProofs (disch := omega) only [go_sem, List.nodup_cons, List.nodup_nil, true_or, or_true, List.mem_cons, List.not_mem_nil, if_true, List.length_append]; done) | (simp -implicitDefEqProofs (disch := omega) only [go_sem, List.nodup_cons, List.nodup_nil, true_or, or_true, List.mem_cons, List.not_mem_nil, List.length_append]; first | rfl | omega))
    refine g_ [1,17] ?_
    refine c_ (fun hc2 => ?_) fun hc2 => ?_
    ·
      have h1 : e.kind = 10 := by simpa using hc2
      have hk0 : e.kids.length = 1 := by rw [h1] at hk; simp [kidsN] at hk; omega
      have hg0 : 0 < e.kids.length := by omega
      have hs0 := Ex.get_szL e.kids 0 hg0
      have hb0 : (e.kids.getD 0 default).cd.length ≤ 1000000000 := by rw [Ex.cd_len]; omega
      have hcd' : e.cd = (e.kids.getD 0 default).cd ++ [⟨5, 0, A0⟩] := by
        rw [hcd, lastI, if_neg (by rw [hc0]; simp), if_neg (by rw [hc1]; simp), if_pos hc2]
        congr 1
        match hkk : e.kids, hk0 with
        | [x], _ => simp [Ex.cdL]
      refine n_ ?_
      refine wpM_regionK [2] rfl fun Q1 hQ1 => ?_
      refine S_ ?_
      refine call_fn (l := []) (first := []) (cap := []) (ps := [.agg (e.kids.getD 0 default).cs]) (ih (e.kids.getD 0 default) (hkids 0 hg0) (by omega)) Tryz.call118 rfl rfl rfl G_ T_ ?_
      rintro out ⟨z', ⟨⟩, rfl⟩
      refine S_ ?_
      refine hQ1 _ _ (S_ ?_);clear hQ1 Q1
      refine wpM_ret ?_
      try refine S_ ?_
      rw [hcd'] at hQ
      refine hQ _ _ (retK [B + 3] [] [(z, .cells 81 (insC ((e.kids.getD 0 default).cd ++ [(⟨5, 0, A0⟩ : GI)])))] rfl rfl rfl (by rw [Tryz.results118] <;> simp (maxSteps := 1000000) -implicitDefEqProofs (disch := omega) only [go_sem] <;> rfl) ?_ ⟨z, rfl, rfl⟩ ?_ ?_ ?_ ?_ ?_ ?_)
      all_goals (first | (simp -implicitDefEqProofs (disch := omega) only [go_sem, List.nodup_cons, List.nodup_nil, true_or, or_true, List.mem_cons, List.not_mem_nil, if_true, List.length_append]; done) | (simp -implicitDefEqProofs (disch := omega) only [go_sem, List.nodup_cons, List.nodup_nil, true_or, or_true, List.mem_cons, List.not_mem_nil, List.length_append]; first | rfl | omega))
    have h2' := kidsN_two hc0 hc1 hc2 (by omega)
    have hk2 : e.kids.length = 2 := by omega
    have hg0 : 0 < e.kids.length := by omega
    have hg1 : 1 < e.kids.length := by omega
    have hs0 := Ex.get_szL e.kids 0 hg0
    have hs1 := Ex.get_szL e.kids 1 hg1
    have hcd' : e.cd = (e.kids.getD 0 default).cd ++ (e.kids.getD 1 default).cd ++ [⟨4, e.kind, A0⟩] := by
      rw [hcd, lastI, if_neg (by rw [hc0]; simp), if_neg (by rw [hc1]; simp), if_neg (by rw [hc2]; simp)]
      congr 1
      match hkk : e.kids, hk2 with
      | [x, y], _ => simp [Ex.cdL]
    have hcl : (e.kids.getD 0 default).cd.length + (e.kids.getD 1 default).cd.length ≤ 2000000000 := by rw [Ex.cd_len, Ex.cd_len]; omega
    refine n_ ?_
    refine dr_ mixed [2] 5 1 [B, B + 1, B + 2, B + 3, B + 4, B + 5] [⟨[1],[],[],[],false⟩,⟨[27],[0],[],[],false⟩,⟨[28],[],[],[],false⟩,⟨[29],[],[],[],false⟩,⟨[30],[],[],[1],true⟩,⟨[1],[],[],[],false⟩,⟨[32],[0],[],[],false⟩,⟨[33],[],[],[],false⟩,⟨[34],[],[],[],false⟩,⟨[35],[],[],[2],true⟩,⟨[31,36],[1,2],[1],[3],false⟩,⟨[1],[],[],[],false⟩,⟨[38],[0],[],[],false⟩,⟨[39],[],[],[],false⟩,⟨[40],[],[],[4],false⟩,⟨[37,41],[3,4],[3],[5],false⟩,⟨[42],[],[],[],false⟩] [0,1,2,3,5,6,7,8,11,12,13,14,4,9,10,15,16] [[],[0],[0,1],[0,1,2],[0,1,2,3],[],[5],[5,6],[5,6,7],[0,1,2,3,4,5,6,7,8],[0,1,2,3,4,5,6,7,8,9],[],[11],[11,12],[11,12,13],[0,1,2,3,4,5,6,7,8,9,10,11,12,13,14],[0,1,2,3,4,5,6,7,8,9,10,11,12,13,14,15]] 6 ?_
    intro O A K hO hA hK;simp only [atL_cons,atL_nil,Nat.reduceAdd,Nat.zero_add] at hO hA
    simp -implicitDefEqProofs (disch := omega) only [go_sem, List.length_append, hO, hA]
    refine loud_fn (first := []) (cap := []) (ps := [.agg (e.kids.getD 0 default).cs]) (l := []) (ih (e.kids.getD 0 default) (hkids 0 hg0) (by omega)) Tryz.call118 rfl rfl F_ (subG_spec T_) rfl ?_
    rintro out ⟨z', ⟨⟩, rfl⟩
    refine ⟨rfl, ?_⟩
    simp -implicitDefEqProofs (disch := omega) only [go_sem, List.length_append, hO, hA]
    refine loud_fn (first := []) (cap := []) (ps := [.agg (e.kids.getD 1 default).cs]) (l := []) (ih (e.kids.getD 1 default) (hkids 1 hg1) (by omega)) Tryz.call118 rfl rfl F_ (subG_spec T_) rfl ?_
    rintro out ⟨z', ⟨⟩, rfl⟩
    refine ⟨rfl, ?_⟩
    simp -implicitDefEqProofs (disch := omega) only [go_sem, List.length_append, hO, hA]
    refine hK _ (S_ ?_);clear hK K hO hA O A
    refine wpM_ret ?_
    try refine S_ ?_
    rw [hcd'] at hQ
    refine hQ _ _ (retK [B + 5] [] [(z, .cells 81 (insC ((e.kids.getD 0 default).cd ++ (e.kids.getD 1 default).cd ++ [(⟨4, e.kind, A0⟩ : GI)])))] rfl rfl rfl (by rw [Tryz.results118] <;> simp (maxSteps := 1000000) -implicitDefEqProofs (disch := omega) only [go_sem] <;> rfl) ?_ ⟨z, rfl, rfl⟩ ?_ ?_ ?_ ?_ ?_ ?_)
    all_goals (first | (simp -implicitDefEqProofs (disch := omega) only [go_sem, List.nodup_cons, List.nodup_nil, true_or, or_true, List.mem_cons, List.not_mem_nil, if_true, List.length_append]; done) | (simp -implicitDefEqProofs (disch := omega) only [go_sem, List.nodup_cons, List.nodup_nil, true_or, or_true, List.mem_cons, List.not_mem_nil, List.length_append]; first | rfl | omega))
end Go.Proofs.YtmicbfojofcigaaGreatDoor
namespace Go.Proofs.YtmicbfojofcigaaGreatDoor
open Go Sg
set_option maxRecDepth 100000
set_option linter.unusedSimpArgs false
set_option linter.unusedVariables false
set_option linter.unusedSectionVars false
set_option maxHeartbeats 4000000
variable [ErrL]
def L5R (l : List GI) (ns : List Nat) (o : COut) : Prop := ∃ z, ns = [z] ∧ o = { rs := [.sl 81 z 0 l.length], nw := [(z, .cells 81 (insC l))] }
def L5K (N : Nat) : Prop := ∀ (l : List Sm) (d k : Nat), Sm.szL l ≤ N → formS d l = true → Sm.szL l ≤ 1000000000 → k + 2 * Sm.szL l ≤ 100000000000 → CallF Tryz.prog 49 [.rows 52 (Sm.csL l), .int .i64 (k : Nat)] [] 1 (L5R (Sm.cdL l k))
theorem l5One_ok (N : Nat) (ih : L5K N) (s : Sm) (d k : Nat) (hp : s.plain = true) (he : s.e.ok = true) (ht : formS d s.th = true) (hl : formS d s.el = true) (hN : Sm.szL s.th ≤ N ∧ Sm.szL s.el ≤ N) (hs : s.sz ≤ 1000000000) (hk : k + 2 * s.sz ≤ 100000000000) :
    CallF Tryz.prog 88 [.agg s.cs, .int .i64 (k : Nat)] [] 1 (L5R (s.cd k)) := by
  have hsz := s.sz_eq
  have hE := Ex.cd_len s.e
  have hce := Sm.cd_eq s k
  have hfe := l5Expr_ok 6 s.e (ok_form he) (by omega)
  have hA1 := Sm.cdL_len s.th (k + s.e.cd.length + 1)
  refine callF_of' Tryz.func88 rfl Tryz.ntmps88 (by simp) ?_
  intro f0 B ns Q hB hns hQ
  obtain ⟨z, rfl⟩ : ∃ z, ns = [z] := by
    match ns, hns with
    | [x], _ => exact ⟨x, rfl⟩
  refine g_ [1,2] ?_
  refine n_ ?_
  refine wpM_regionK [1,2,5] rfl fun Q1 hQ1 => ?_
  refine S_ ?_
  refine call_fn (l := []) (first := []) (cap := []) (ps := [.agg s.e.cs]) (hfe) Tryz.call118 rfl rfl rfl G_ T_ ?_
  rintro out ⟨z', ⟨⟩, rfl⟩
  refine S_ ?_
  refine hQ1 _ _ (S_ ?_);clear hQ1 Q1
  refine n_ ?_
  generalize hq : s.e.cd = E at *
  refine g_ [1,2,5,15] ?_
  refine c_ (fun hc0 => ?_) fun hc0 => ?_
  ·
    have hcd' : s.cd k = E ++ [(⟨3, 0, s.to'⟩ : GI)] := by rw [hce, if_pos hc0]
    refine g_ [4] ?_
    refine wpM_ret ?_
    try refine S_ ?_
    rw [hcd'] at hQ
    refine hQ _ _ (retK [B + 3] [] [(z, .cells 81 (insC (E ++ [(⟨3, 0, s.to'⟩ : GI)])))] rfl rfl rfl (by rw [Tryz.results88] <;> simp (maxSteps := 1000000) -implicitDefEqProofs (disch := omega) only [go_sem] <;> rfl) ?_ ⟨z, rfl, rfl⟩ ?_ ?_ ?_ ?_ ?_ ?_)
    all_goals (first | (simp -implicitDefEqProofs (disch := omega) only [go_sem, List.nodup_cons, List.nodup_nil, true_or, or_true, List.mem_cons, List.not_mem_nil, if_true, List.length_append]; done) | (simp -implicitDefEqProofs (disch := omega) only [go_sem, List.nodup_cons, List.nodup_nil, true_or, or_true, List.mem_cons, List.not_mem_nil, List.length_append]; first | rfl | omega))
  refine g_ [1,2,5,6] ?_
  refine g_ [1,2,5,6,27] ?_
  refine c_ (fun hc1 => ?_) fun hc1 => ?_
  ·
    have hcd' : s.cd k = E ++ [(⟨6, (k + E.length + 1 + (Sm.cdL s.th (k + E.length + 1)).length + 1 : Nat), A0⟩ : GI)] ++ Sm.cdL s.th (k + E.length + 1) ++ [(⟨8, (k : Nat), A0⟩ : GI)] := by
      have h3 : s.kind = 3 := by simpa using hc1
      rw [hce, if_neg (by rw [h3]; decide), if_neg (by rw [h3]; decide), if_pos hc1]
    refine n_ ?_
    refine wpM_regionK [1,5,6,7] rfl fun Q1 hQ1 => ?_
    refine S_ ?_
    refine call_fn (l := []) (first := []) (cap := []) (ps := [.rows 52 (Sm.csL s.th), .int .i64 ((k + E.length + 1 : Nat) : Int)]) (ih s.th d (k + E.length + 1) hN.1 ht (by omega) (by omega)) Tryz.call49 rfl rfl rfl G_ T_ ?_
    rintro out ⟨z', ⟨⟩, rfl⟩
    refine S_ ?_
    refine hQ1 _ _ (S_ ?_);clear hQ1 Q1
    refine n_ ?_
    generalize hA : Sm.cdL s.th (k + E.length + 1) = A at *
    refine g_ [1,5,7] ?_
    refine n_ ?_
    refine wpM_regionK [4] rfl fun Q1 hQ1 => ?_
    simp -implicitDefEqProofs (disch := omega) only [go_sem, List.length_append]
    refine hQ1 _ _ (S_ ?_);clear hQ1 Q1
    refine wpM_ret ?_
    try refine S_ ?_
    rw [hcd'] at hQ
    have e1 : (k : Int) + ((E.length : Int) + 1) + (A.length : Int) + 1 = ((k + E.length + 1 + A.length + 1 : Nat) : Int) := by omega
    rw [e1]
    refine hQ _ _ (retK [B + 7] [] [(z, .cells 81 (insC (E ++ [(⟨6, ((k + E.length + 1 + A.length + 1 : Nat) : Int), A0⟩ : GI)] ++ A ++ [(⟨8, (k : Nat), A0⟩ : GI)])))] rfl rfl rfl (by rw [Tryz.results88] <;> simp (maxSteps := 1000000) -implicitDefEqProofs (disch := omega) only [go_sem] <;> rfl) ?_ ⟨z, rfl, rfl⟩ ?_ ?_ ?_ ?_ ?_ ?_)
    all_goals (first | (simp -implicitDefEqProofs (disch := omega) only [go_sem, List.nodup_cons, List.nodup_nil, true_or, or_true, List.mem_cons, List.not_mem_nil, if_true, List.length_append]; done) | (simp -implicitDefEqProofs (disch := omega) only [go_sem, List.nodup_cons, List.nodup_nil, true_or, or_true, List.mem_cons, List.not_mem_nil, List.length_append]; first | rfl | omega))
  have h2 : (s.kind == 2) = true := by
    unfold Sm.plain at hp
    rw [hc0, hc1] at hp
    cases h : s.kind == 2
    · rw [h] at hp; simp at hp
    · rfl
  have hcd' : s.cd k = E ++ [(⟨6, (k + E.length + 1 + (Sm.cdL s.th (k + E.length + 1)).length + 1 : Nat), A0⟩ : GI)] ++ Sm.cdL s.th (k + E.length + 1) ++ [(⟨7, (k + E.length + 1 + (Sm.cdL s.th (k + E.length + 1)).length + 1 + (Sm.cdL s.el (k + E.length + 1 + (Sm.cdL s.th (k + E.length + 1)).length + 1)).length : Nat), A0⟩ : GI)] ++ Sm.cdL s.el (k + E.length + 1 + (Sm.cdL s.th (k + E.length + 1)).length + 1) := by
    rw [hce, if_neg (by rw [hc0]; simp), if_pos h2]
  refine n_ ?_
  refine wpM_regionK [1,2,5,6,8] rfl fun Q1 hQ1 => ?_
  refine S_ ?_
  refine call_fn (l := []) (first := []) (cap := []) (ps := [.rows 52 (Sm.csL s.th), .int .i64 ((k + E.length + 1 : Nat) : Int)]) (ih s.th d (k + E.length + 1) hN.1 ht (by omega) (by omega)) Tryz.call49 rfl rfl rfl G_ T_ ?_
  rintro out ⟨z', ⟨⟩, rfl⟩
  refine S_ ?_
  refine hQ1 _ _ (S_ ?_);clear hQ1 Q1
  refine n_ ?_
  generalize hA : Sm.cdL s.th (k + E.length + 1) = A at *
  have hA2 := Sm.cdL_len s.el (k + E.length + 1 + A.length + 1)
  refine wpM_regionK [1,5,6,8,9] rfl fun Q1 hQ1 => ?_
  refine S_ ?_
  refine call_fn (l := []) (first := []) (cap := []) (ps := [.rows 52 (Sm.csL s.el), .int .i64 ((k + E.length + 1 + A.length + 1 : Nat) : Int)]) (ih s.el d (k + E.length + 1 + A.length + 1) hN.2 hl (by omega) (by omega)) Tryz.call49 rfl rfl rfl G_ T_ ?_
  rintro out ⟨z', ⟨⟩, rfl⟩
  refine S_ ?_
  refine hQ1 _ _ (S_ ?_);clear hQ1 Q1
  refine n_ ?_
  generalize hBc : Sm.cdL s.el (k + E.length + 1 + A.length + 1) = Bc at *
  refine g_ [1,5,6,8,9] ?_
  refine n_ ?_
  refine wpM_regionK [5,9] rfl fun Q1 hQ1 => ?_
  simp -implicitDefEqProofs (disch := omega) only [go_sem, List.length_append]
  refine hQ1 _ _ (S_ ?_);clear hQ1 Q1
  refine n_ ?_
  refine wpM_regionK [4] rfl fun Q1 hQ1 => ?_
  simp -implicitDefEqProofs (disch := omega) only [go_sem, List.length_append]
  refine hQ1 _ _ (S_ ?_);clear hQ1 Q1
  refine wpM_ret ?_
  try refine S_ ?_
  rw [hcd'] at hQ
  have e1 : (k : Int) + ((E.length : Int) + 1) + (A.length : Int) + 1 = ((k + E.length + 1 + A.length + 1 : Nat) : Int) := by omega
  rw [e1]
  have e2 : ((k + E.length + 1 + A.length + 1 : Nat) : Int) + (Bc.length : Int) = ((k + E.length + 1 + A.length + 1 + Bc.length : Nat) : Int) := by omega
  rw [e2]
  refine hQ _ _ (retK [B + 9] [] [(z, .cells 81 (insC (E ++ [(⟨6, ((k + E.length + 1 + A.length + 1 : Nat) : Int), A0⟩ : GI)] ++ A ++ [(⟨7, ((k + E.length + 1 + A.length + 1 + Bc.length : Nat) : Int), A0⟩ : GI)] ++ Bc)))] rfl rfl rfl (by rw [Tryz.results88] <;> simp (maxSteps := 1000000) -implicitDefEqProofs (disch := omega) only [go_sem] <;> rfl) ?_ ⟨z, rfl, rfl⟩ ?_ ?_ ?_ ?_ ?_ ?_)
  all_goals (first | (simp -implicitDefEqProofs (disch := omega) only [go_sem, List.nodup_cons, List.nodup_nil, true_or, or_true, List.mem_cons, List.not_mem_nil, if_true, List.length_append]; done) | (simp -implicitDefEqProofs (disch := omega) only [go_sem, List.nodup_cons, List.nodup_nil, true_or, or_true, List.mem_cons, List.not_mem_nil, List.length_append]; first | rfl | omega))
theorem l5Of_ok : ∀ N, L5K N := by
  intro N
  induction N with
  | zero =>
    intro l d k hN hf hs hk
    have h0 : l.length = 0 := by have := Sm.len_szL l; omega
    obtain rfl : l = [] := List.eq_nil_of_length_eq_zero h0
    refine callF_of' Tryz.func49 rfl Tryz.ntmps49 (by simp) ?_
    intro f0 B ns Q hB hns hQ
    obtain ⟨z, rfl⟩ : ∃ z, ns = [z] := by
      match ns, hns with
      | [x], _ => exact ⟨x, rfl⟩
    refine g_ [0,1] ?_
    refine g_ [0,1,5] ?_
    refine g_ [0,1,5,6] ?_
    refine n_ ?_
    refine wpM_loopS (fun s n s' => s' = s) (0) ?_ ?_
    ·
      exact .here rfl
    rintro n s' rfl
    try refine S_ ?_
    refine g_ [0,1,5,6,11] ?_
    refine c_ (fun hc0 => ?_) fun hc0 => ?_
    · simp at hc0
    refine g_ [4] ?_
    refine wpM_ret ?_
    try refine S_ ?_
    refine hQ _ _ (retK [B] [] [(z, .cells 81 (insC []))] rfl rfl rfl (by rw [Tryz.results49] <;> simp (maxSteps := 1000000) -implicitDefEqProofs (disch := omega) only [go_sem] <;> rfl) ?_ ⟨z, rfl, rfl⟩ ?_ ?_ ?_ ?_ ?_ ?_)
    all_goals (first | (simp -implicitDefEqProofs (disch := omega) only [go_sem, List.nodup_cons, List.nodup_nil, true_or, or_true, List.mem_cons, List.not_mem_nil, if_true, List.length_append]; done) | (simp -implicitDefEqProofs (disch := omega) only [go_sem, List.nodup_cons, List.nodup_nil, true_or, or_true, List.mem_cons, List.not_mem_nil, List.length_append]; first | rfl | omega))
  | succ N ih =>
    intro l d k hN hf hs hk
    have hlen := Sm.len_szL l
    refine callF_of' Tryz.func49 rfl Tryz.ntmps49 (by simp) ?_
    intro f0 B ns Q hB hns hQ
    obtain ⟨z, rfl⟩ : ∃ z, ns = [z] := by
      match ns, hns with
      | [x], _ => exact ⟨x, rfl⟩
    refine g_ [0,1] ?_
    refine g_ [0,1,5] ?_
    refine g_ [0,1,5,6] ?_
    refine n_ ?_
    refine wpM_loopS (fun q n s' => ∃ (i M Y : Nat) (L : List GI), i + n = l.length ∧ B ≤ Y ∧ Y < M ∧ L = Sm.cdL (l.take i) k ∧ s' = { q with env := setE 6 (.int .i64 (i : Nat)) (setE 5 (.sl 81 Y 0 L.length) q.env), l := [(Y, .cells 81 (insC L))], M := M }) (l.length) ?_ ?_
    ·
      refine .of' _ _ ⟨0, _, B, [], by omega, Nat.le_refl _, Nat.lt_succ_self _, by simp [Sm.cdL], rfl⟩ ?_ ?_ ?_
      all_goals exact L_
    rintro n s' ⟨i, M, Y, L, hi, hBY, hYM, hL, rfl⟩
    try refine S_ ?_
    refine g_ [0,1,5,6,11] ?_
    refine c_ (fun hc0 => ?_) fun hc0 => ?_
    ·
      have hi2 : i < l.length := by omega
      have hin := Sm.get_in hi2
      obtain ⟨g1, g2, d', g3, g4⟩ := formS_at hf hi2
      have htk := Sm.cdL_take l k i hi2
      have hst := Sm.szL_take l i hi2
      have hcl := Sm.cdL_len (l.take i) k
      have hc2 := Sm.cd_len (l.getD i default) (k + L.length)
      rw [← hL] at htk hcl
      refine n_ ?_
      refine wpM_regionK [0,1,5,6] rfl fun Q1 hQ1 => ?_
      simp -implicitDefEqProofs (disch := omega) only [go_sem, List.length_append]
      refine call_fn (l := []) (first := []) (cap := []) (ps := [.agg (l.getD i default).cs, .int .i64 ((k + L.length : Nat) : Int)]) (l5One_ok N ih (l.getD i default) d' (k + L.length) g1 g2 g3 g4 (by omega) (by omega) (by omega)) Tryz.call88 rfl rfl rfl G_ T_ ?_
      rintro out ⟨z', ⟨⟩, rfl⟩
      simp -implicitDefEqProofs (disch := omega) only [go_sem, List.length_append]
      refine hQ1 _ _ (S_ ?_);clear hQ1 Q1
      refine g_ [0,1,5,6] ?_
      have hll : L.length + ((l.getD i default).cd (k + L.length)).length = (L ++ (l.getD i default).cd (k + L.length)).length := List.length_append.symm
      rw [hll]
      refine .of' _ _ ⟨n - 1, by omega, i + 1, _, M + 1, L ++ (l.getD i default).cd (k + L.length), by omega, M_, M_, htk.symm, rfl⟩ L_ L_ L_
    refine g_ [4] ?_
    refine wpM_ret ?_
    try refine S_ ?_
    obtain rfl : i = l.length := by omega
    rw [List.take_of_length_le (Nat.le_refl _)] at hL
    rw [← hL] at hQ
    refine hQ _ _ (retK [Y] [] [(z, .cells 81 (insC L))] rfl rfl rfl (by rw [Tryz.results49] <;> simp (maxSteps := 1000000) -implicitDefEqProofs (disch := omega) only [go_sem] <;> rfl) ?_ ⟨z, rfl, rfl⟩ ?_ ?_ ?_ ?_ ?_ ?_)
    all_goals (first | (simp -implicitDefEqProofs (disch := omega) only [go_sem, List.nodup_cons, List.nodup_nil, true_or, or_true, List.mem_cons, List.not_mem_nil, if_true, List.length_append]; done) | (simp -implicitDefEqProofs (disch := omega) only [go_sem, List.nodup_cons, List.nodup_nil, true_or, or_true, List.mem_cons, List.not_mem_nil, List.length_append]; first | rfl | omega))
theorem codeOf_ok (l : List Sm) (hs : Sm.szL l ≤ 1000000000) : PureF Tryz.prog 21 [.rows 52 (Sm.csL l)] [.rows 81 (insR (codeOf l))] := by
  refine pureF_of Tryz.func21 rfl Tryz.ntmps21 (by simp) T_ ?_
  intro f0 B Q hQ
  refine g_ [0] ?_
  refine n_ ?_
  refine wpM_regionK [0,5] rfl fun Q1 hQ1 => ?_
  refine S_ ?_
  refine cp_ (stmtsOk_ok l (by omega)) Tryz.call13 ?_
  refine hQ1 _ _ (S_ ?_);clear hQ1 Q1
  refine c_ (fun hc0 => ?_) fun hc0 => ?_
  ·
    refine g_ [2] ?_
    have hcs : codeOf l = [] := by rw [codeOf, if_neg]; intro h; rw [h] at hc0; cases hc0
    refine wpM_frz [B] [(81, B, 0, 0, insR [])] (by intro q hq; simp at hq; subst hq; simp -implicitDefEqProofs (disch := omega) only [go_sem]) (by intro q hq; simp only [List.mem_cons, List.not_mem_nil, or_false] at hq; subst hq; exact ⟨by simp, rowsOf_insC (T := 81) (l := []) T_ rfl⟩) ?_
    refine S_ ?_
    refine e_ Tryz.results21 ?_
    first
    | exact True.intro
    | rw [hcs]
      try rfl
  have hok : okS l = true := by simpa using hc0
  have hcs : codeOf l = Sm.cdL l 0 := by rw [codeOf, if_pos hok]
  refine n_ ?_
  refine wpM_regionK [2] rfl fun Q1 hQ1 => ?_
  refine S_ ?_
  refine call_fn (l := []) (first := []) (cap := []) (ps := [.rows 52 (Sm.csL l), .int .i64 ((0 : Nat) : Int)]) (l5Of_ok _ l 4 0 (Nat.le_refl _) (okS_form hok).1 hs (by omega)) Tryz.call49 rfl rfl rfl G_ T_ ?_
  rintro out ⟨z', ⟨⟩, rfl⟩
  refine S_ ?_
  refine hQ1 _ _ (S_ ?_);clear hQ1 Q1
  refine wpM_frz [B] [(81, B, 0, (Sm.cdL l 0).length, insR (Sm.cdL l 0))] (by intro q hq; simp at hq; subst hq; simp -implicitDefEqProofs (disch := omega) only [go_sem]) (by intro q hq; simp only [List.mem_cons, List.not_mem_nil, or_false] at hq; subst hq; exact ⟨by simp, rowsOf_insC (T := 81) T_ rfl⟩) ?_
  refine S_ ?_
  refine e_ Tryz.results21 ?_
  first
  | exact True.intro
  | rw [hcs]
    try rfl
theorem eqGI (d : Nat) (a b c e a' b' c' e' : Int) : eqA Tryz.prog (d + 3) 81 (.agg [.int .i64 a, .int .i64 b, .int .i64 c, .int .i64 e]) (.agg [.int .i64 a', .int .i64 b', .int .i64 c', .int .i64 e']) = some (a == a' && b == b' && c == c' && e == e') := by
  unfold eqA
  simp only [Tryz.underlying81, Tryz.stoodInHeld81, Bool.false_eq_true, if_false, eqFs]
  simp -implicitDefEqProofs (disch := omega) only [go_sem, eqA, eqFs, ne_eq, String.reduceEq]
  rw [eqAD d]
  cases h1 : a == a' <;> cases h2 : b == b' <;> cases h3 : (c == c' && e == e') <;> simp [eqA, Tryz.underlying3, h1, h2, h3, Bool.and_assoc]
@[go_sem] theorem neqGI (x y : Operand) (a b c e a' b' c' e' : Int) : binOpA Tryz.prog .neq 81 x y (.agg [.int .i64 a, .int .i64 b, .int .i64 c, .int .i64 e]) (.agg [.int .i64 a', .int .i64 b', .int .i64 c', .int .i64 e']) = some (.bool (!(a == a' && b == b' && c == c' && e == e'))) := by
  simp only [binOpA, Tryz.eqGuardType81]
  rw [eqGI 9997]; rfl
@[go_sem] theorem eqlGI (x y : Operand) (a b c e a' b' c' e' : Int) : binOpA Tryz.prog .eql 81 x y (.agg [.int .i64 a, .int .i64 b, .int .i64 c, .int .i64 e]) (.agg [.int .i64 a', .int .i64 b', .int .i64 c', .int .i64 e']) = some (.bool (a == a' && b == b' && c == c' && e == e')) := by
  simp only [binOpA, Tryz.eqGuardType81]
  rw [eqGI 9997]; rfl
instance : BEq GI := ⟨fun x y => x.op == y.op && x.n == y.n && x.a.kind == y.a.kind && x.a.at' == y.a.at'⟩
theorem GI.beq_iff (x y : GI) : (x == y) = true ↔ x = y := by
  show (x.op == y.op && x.n == y.n && x.a.kind == y.a.kind && x.a.at' == y.a.at') = true ↔ _
  obtain ⟨a, b, ⟨c, d⟩⟩ := x
  obtain ⟨a', b', ⟨c', d'⟩⟩ := y
  simp [and_assoc]
def sameC (a b : List GI) : Bool := (a.length == b.length) && (List.range a.length).all fun i => a.getD i default == b.getD i default
theorem sameC_self (a : List GI) : sameC a a = true := by
  simp only [sameC, beq_self_eq_true, Bool.true_and, List.all_eq_true]
  intro i _
  exact (GI.beq_iff _ _).2 rfl
theorem codeSame_ok (a b : List GI) (ha : a.length ≤ 1099511627776) : PureF Tryz.prog 20 [.rows 81 (insR a), .rows 81 (insR b)] [.bool (sameC a b)] := by
  have hE : PureF Tryz.prog 48 [.rows 81 (insR a), .rows 81 (insR b)] [.bool (sameC a b)] := by
    refine pureF_of Tryz.func48 rfl Tryz.ntmps48 (by simp) T_ ?_
    intro f0 B Q hQ
    refine g_ [0,1] ?_
    refine g_ [0,1,10] ?_
    refine c_ (fun hc0 => ?_) fun hc0 => ?_
    ·
      refine g_ [4] ?_
      refine e_ Tryz.results48 ?_
      first
      | exact True.intro
      | simp at hc0
        unfold sameC
        rw [beq_eq_false_iff_ne.2 (by omega)]; rfl
    have hab : a.length = b.length := by simp at hc0; omega
    refine g_ [0,1,12,13] ?_
    refine n_ ?_
    refine wpM_loopS (fun s n s' => ∃ (i0 M0 : Nat) , i0 + n = a.length ∧ s.M ≤ M0 ∧ ((List.range i0).all (fun i => a.getD i default == b.getD i default) = true) ∧ s' = { s with env := setE 13 (.int .i64 (i0 : Nat)) s.env, M := M0 }) (a.length) ?_ ?_
    ·
      refine .of' _ _ ⟨0, _, by omega, Nat.le_refl _, by simp, rfl⟩ ?_ ?_ ?_ <;> exact L_
    rintro n0 s' ⟨i0, M0, hi0, hM0, hv0, rfl⟩
    try dsimp only at hM0
    try refine S_ ?_
    refine g_ [0,1,12,13,14] ?_
    refine c_ (fun hc1 => ?_) fun hc1 => ?_
    ·
      have hl0 : i0 < a.length := by omega
      refine g_ [0,1,5,12,13] ?_
      refine n_ ?_
      refine dr_ mixed [0,1,12,13,24] 0 0 [] [⟨[0],[],[],[],false⟩,⟨[5],[],[],[],false⟩,⟨[16,17],[],[],[],false⟩,⟨[18],[],[],[],false⟩,⟨[1],[],[],[],false⟩,⟨[5],[],[],[],false⟩,⟨[20,21],[],[],[],false⟩,⟨[22],[],[],[],false⟩,⟨[19,23],[],[],[],false⟩] [0,1,2,3,4,5,6,7,8] [[],[],[0,1],[0,1,2],[],[],[4,5],[4,5,6],[0,1,2,3,4,5,6,7]] 0 ?_
      intro O A K hO hA hK;simp only [atL_cons,atL_nil,Nat.reduceAdd,Nat.zero_add] at hO hA
      refine SO_ ?_
      refine hK _ (S_ ?_);clear hK K hO hA O A
      refine c_ (fun hc2 => ?_) fun hc2 => ?_
      ·
        refine g_ [4] ?_
        refine e_ Tryz.results48 ?_
        first
        | exact True.intro
        | unfold sameC
          have h2 : (!(a.getD i0 default == b.getD i0 default)) = true := hc2
          rw [range_no hl0 (by simpa using h2)]
          simp
      refine g_ [0,1,12,13] ?_
      refine .of' _ _ ⟨n0 - 1, by omega, i0 + 1, _, by omega, M_, ?_, rfl⟩ L_ L_ L_
      have h2 : (!(a.getD i0 default == b.getD i0 default)) = false := hc2
      rw [range_all, hv0]; simpa using h2
    refine g_ [4] ?_
    refine e_ Tryz.results48 ?_
    first
    | exact True.intro
    | have : i0 = a.length := by omega
      rw [sameC, hab, beq_self_eq_true, ← hab, ← this, hv0]; rfl
  refine pureF_of Tryz.func20 rfl Tryz.ntmps20 (by simp) T_ ?_
  intro f0 B Q hQ
  refine g_ [0,1] ?_
  refine n_ ?_
  refine wpM_regionK [4] rfl fun Q1 hQ1 => ?_
  refine S_ ?_
  refine cp_ (hE) Tryz.call48 ?_
  refine hQ1 _ _ (S_ ?_);clear hQ1 Q1
  refine e_ Tryz.results20 ?_
  first
  | exact True.intro
  | rfl
end Go.Proofs.YtmicbfojofcigaaGreatDoor
