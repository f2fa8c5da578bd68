/- A part of a proof: lemmas and contracts of functions; the last text of the claim says what is proved. -/
import Derived.Test.YtnmfmeehmieifaaDoorXe9ea2f1ec7
set_option linter.unusedSectionVars false
set_option linter.unusedSimpArgs false
set_option linter.unusedVariables false
namespace Go.Proofs.YtnmfmeehmieifaaDoor
open Go Sg
set_option linter.unusedSectionVars false
variable [Glob]
set_option maxRecDepth 100000
set_option linter.unusedSimpArgs false
set_option linter.unusedVariables false
set_option maxHeartbeats 4000000
def exc (l : List Ex) : List PV := (Ex.csL l).flatten
@[go_sem] theorem exc_len (l : List Ex) : (exc l).length = l.length * 5 := by
  induction l with
  | nil => rfl
  | cons e l ih => simp only [exc, Ex.csL, List.flatten_cons, List.length_append, Ex.cs_eq, List.length_cons, List.length_nil] at ih ⊢; omega
theorem exc_app (l : List Ex) (e : Ex) : exc l ++ e.cs = exc (l ++ [e]) := by
  simp [exc, Ex.csL_map]
theorem exc_one (e : Ex) : e.cs = exc [e] := by simp [exc, Ex.csL]
theorem idsL_app (p : Nat → Prop) (a b : List PV) : PV.idsL p (a ++ b) = (PV.idsL p a ∧ PV.idsL p b) := by
  induction a with
  | nil => simp [PV.idsL]
  | cons x a ih => simp only [List.cons_append, PV.idsL, ih, and_assoc]
theorem renL_app (p : Nat → Nat) (a b : List PV) : PV.renL p (a ++ b) = PV.renL p a ++ PV.renL p b := by
  induction a with
  | nil => simp [PV.renL]
  | cons x a ih => simp only [List.cons_append, PV.renL, ih]
theorem subL_app (θ : TypeId → Nat → Nat → Nat → Option PV) (a b : List PV) : PV.subL θ (a ++ b) = PV.subL θ a ++ PV.subL θ b := by
  induction a with
  | nil => simp [PV.subL]
  | cons x a ih => simp only [List.cons_append, PV.subL, ih]
theorem rowsOf_exc {f : Nat → Option AObj} {id : Nat} {T : TypeId} {l : List Ex} (h : f id = some (.cells T (exc l))) : RowsOf Tryd.prog f 42 id 0 l.length (Ex.csL l) := by
  refine ⟨by rw [cellsOf42]; omega, by rw [Ex.csL_len], ?_, T, _, h, ?_, ?_⟩
  · intro c hc
    rw [Ex.csL_map, List.mem_map] at hc
    obtain ⟨x, _, rfl⟩ := hc
    rw [cellsOf42, Ex.cs_eq]; exact ⟨rfl, rfl⟩
  · rw [cellsOf42, exc_len]; omega
  · rw [cellsOf42, List.drop_zero, List.take_of_length_le (by rw [exc_len]; omega)]; rfl
@[go_sem high] theorem rdObj_sub (θ : TypeId → Nat → Nat → Nat → Option PV) (bs : List Nat) (q : Int) : subObj θ (rdObj bs q) = rdObj bs q := by simp [rdObj, subObj, PV.subL, PV.sub]
theorem leL_app (a b c : List PV) : PV.leL (a ++ b) (a ++ c) = PV.leL b c := by
  induction a with
  | nil => rfl
  | cons x a ih => simp only [List.cons_append, leL_cons, le_same, true_and, ih]
theorem Ex.szL_app (l : List Ex) (e : Ex) : Ex.szL (l ++ [e]) = Ex.szL l + e.sz := by
  induction l with
  | nil => simp [Ex.szL]
  | cons x l ih => simp only [List.cons_append, Ex.szL, ih]; omega
@[go_sem] theorem Ex.mk_kind (k n : Int) (a : AD) (l : List Ex) : (Ex.mk k n a l).kind = k := rfl
@[go_sem] theorem Ex.mk_n (k n : Int) (a : AD) (l : List Ex) : (Ex.mk k n a l).n = n := rfl
@[go_sem] theorem Ex.mk_a (k n : Int) (a : AD) (l : List Ex) : (Ex.mk k n a l).a = a := rfl
@[go_sem] theorem Ex.mk_kids (k n : Int) (a : AD) (l : List Ex) : (Ex.mk k n a l).kids = l := rfl
@[go_sem] theorem Ex.csL_nil : Ex.csL [] = [] := rfl
def eb : Nat → Int
  | 0 => 4
  | d + 1 => 4 + 2 * eb d
def es : Nat → Nat
  | 0 => 1
  | d + 1 => 1 + 2 * es d
theorem eb_pos : ∀ d, 4 ≤ eb d
  | 0 => by simp [eb]
  | d + 1 => by have := eb_pos d; simp only [eb]; omega
theorem es_pos : ∀ d, 1 ≤ es d
  | 0 => by simp [es]
  | d + 1 => by have := es_pos d; simp only [es]; omega
theorem leaf_num {k : Int} (h : k ∈ [0, 1, 2, 3, -1, 5, (1000000 : Int)]) (d : Nat) : formD (d + 1) (Ex.mk 1 k ⟨0, 0⟩ []) = true := by
  have hc : cut k = k := by
    unfold cut
    simp only [List.mem_cons, List.not_mem_nil, or_false] at h
    omega
  simp [formD, kidsN, Ex.mk_kind, Ex.mk_kids, Ex.mk_n, Ex.mk_a, hc]
theorem leaf_at {a : AD} (h : a.ok = true) (d : Nat) : formD (d + 1) (Ex.mk 2 0 a []) = true := by
  simp [formD, kidsN, Ex.mk_kind, Ex.mk_kids, Ex.mk_n, Ex.mk_a, h]
theorem node_in {k : Int} {l : List Ex} {d : Nat} (h : k ∈ [3, 3, 4, 5, 6, 6, 7, 8, 9, (10 : Int)]) (hl : kidsN k = (l.length : Int)) (ha : l.all (formD d) = true) : formD (d + 1) (Ex.mk k 0 ⟨0, 0⟩ l) = true := by
  have hk : k ≠ 1 ∧ k ≠ 2 := by
    simp only [List.mem_cons, List.not_mem_nil, or_false] at h
    omega
  rw [formD]
  simp only [Ex.mk_kind, Ex.mk_kids, Ex.mk_n, Ex.mk_a, hl, bne_self_eq_false, Bool.false_eq_true, if_false, beq_eq_false_iff_ne.2 hk.1, beq_eq_false_iff_ne.2 hk.2, Bool.false_and, Bool.false_or, Bool.and_false, beq_self_eq_true, Bool.and_self, Bool.not_true, ha]
def ExprD (d : Nat) (id : Nat) (bs : List Nat) (q dep : Int) : Prop := RdF 32 [.int .i64 dep] id bs q (eb d) (fun v => ∃ e : Ex, (e.sz ≤ es d ∧ formD (d + 1) e = true) ∧ v = .agg e.cs)
theorem expr_leaf (d : Nat) (id : Nat) (bs : List Nat) (q dep : Int) (hbs : Bs bs) (hq0 : 0 ≤ q) (hq : q + eb d ≤ 1000000000000) (hd : decide (dep ≤ 1) = true) : ExprD d id bs q dep := by
  have hb4 := eb_pos d
  have hs1 := es_pos d
  refine callF_of' Tryd.func32 rfl Tryd.ntmps32 (by simp) ?_
  intro f0 B ns Q hB hns hQ
  have hid : id < B := hB id (by simp [hasKey, lk])
  obtain rfl : ns = [] := List.eq_nil_of_length_eq_zero hns
  refine g_ [0,1,4] ?_
  refine n_ ?_
  refine wpM_regionK [0,1,4,13] rfl fun Q1 hQ1 => ?_
  simp -implicitDefEqProofs (disch := omega) only [go_sem, hd]
  refine hQ1 _ _ (S_ ?_);clear hQ1 Q1
  refine c1_ ?_
  refine n_ ?_
  refine wpM_regionK [0,4,16] rfl fun Q1 hQ1 => ?_
  refine S_ ?_
  refine call_fn (l := [(id, rdObj bs q)]) (first := []) (cap := []) (ps := [.ptr id 0, .int .i64 3]) (pick_ok id bs q 3 hbs (by omega) (by omega) (by omega)) Tryd.call30 rfl rfl rfl G_ T_ ?_
  rintro out ⟨k1, rfl, h1, h2, h3⟩
  refine S_ ?_
  refine hQ1 _ _ (S_ ?_);clear hQ1 Q1
  refine c_ (fun hc1 => ?_) fun hc1 => ?_
  ·
    refine n_ ?_
    refine wpM_regionK [4] rfl fun Q1 hQ1 => ?_
    refine S_ ?_
    refine call_fn (l := [(id, rdObj bs (q + 1)), (B + 1, .cells 3 (ints [0, 1, 2, 3, -1, 5, 1000000]))]) (first := []) (cap := []) (ps := [.ptr id 0, .sl 3 (B + 1) 0 7]) (num_ok id (B + 1) bs (q + 1) [0, 1, 2, 3, -1, 5, 1000000] 7 rfl (by omega) (by omega) (by omega) hbs (by omega) (by omega)) Tryd.call31 rfl rfl rfl G_ (by simp -implicitDefEqProofs (disch := omega) only [go_sem, ints, List.map_cons, List.map_nil]) ?_
    rintro out ⟨k2, rfl, h4⟩
    refine S_ ?_
    refine hQ1 _ _ (S_ ?_);clear hQ1 Q1
    refine wpM_le [(4, .ptr B 0)] [(B, .cells 42 (Ex.mk 1 k2 ⟨0, 0⟩ []).cs), (id, rdObj bs (q + 1 + 1))] T_ T_ T_ ?_
    refine wpM_ret ?_
    try refine S_ ?_
    first
    | refine hQ _ _ (ret0 [(id, some (rdObj bs (q + 1 + 1)))] rfl rfl rfl (by rw [Tryd.results32] <;> simp (maxSteps := 1000000) -implicitDefEqProofs (disch := omega) only [go_sem] <;> rfl) ⟨_, q + 1 + 1, ⟨Ex.mk 1 k2 ⟨0, 0⟩ [], ⟨by simpa [Ex.sz, Ex.szL] using hs1, leaf_num h4 d⟩, rfl⟩, by omega, by omega, rfl⟩ ?_ ?_ ?_ ?_) <;> (simp -implicitDefEqProofs (disch := omega) only [go_sem, rdObj, true_or, or_true]; done)
    | refine hQ _ _ (ret0 [(id, some (rdObj bs q'))] rfl rfl rfl (by rw [Tryd.results32] <;> simp (maxSteps := 1000000) -implicitDefEqProofs (disch := omega) only [go_sem] <;> rfl) ⟨_, q', ⟨Ex.mk 2 0 a [], ⟨by simpa [Ex.sz, Ex.szL] using hs1, leaf_at hao d⟩, rfl⟩, by omega, by omega, rfl⟩ ?_ ?_ ?_ ?_) <;> (simp -implicitDefEqProofs (disch := omega) only [go_sem, rdObj, true_or, or_true]; done)
  refine n_ ?_
  refine wpM_regionK [4] rfl fun Q1 hQ1 => ?_
  refine S_ ?_
  refine call_fn (l := [(id, rdObj bs (q + 1))]) (first := []) (cap := []) (ps := [.ptr id 0]) (l2Addr_ok id bs (q + 1) hbs (by omega) (by omega)) Tryd.call50 rfl rfl rfl G_ T_ ?_
  rintro out ⟨_, q', ⟨a, hao, rfl⟩, hqa, hqb, rfl⟩
  refine S_ ?_
  refine hQ1 _ _ (S_ ?_);clear hQ1 Q1
  refine wpM_le [(4, .ptr B 0)] [(B, .cells 42 (Ex.mk 2 0 a []).cs), (id, rdObj bs q')] T_ T_ T_ ?_
  refine wpM_ret ?_
  try refine S_ ?_
  first
  | refine hQ _ _ (ret0 [(id, some (rdObj bs (q + 1 + 1)))] rfl rfl rfl (by rw [Tryd.results32] <;> simp (maxSteps := 1000000) -implicitDefEqProofs (disch := omega) only [go_sem] <;> rfl) ⟨_, q + 1 + 1, ⟨Ex.mk 1 k2 ⟨0, 0⟩ [], ⟨by simpa [Ex.sz, Ex.szL] using hs1, leaf_num h4 d⟩, rfl⟩, by omega, by omega, rfl⟩ ?_ ?_ ?_ ?_) <;> (simp -implicitDefEqProofs (disch := omega) only [go_sem, rdObj, true_or, or_true]; done)
  | refine hQ _ _ (ret0 [(id, some (rdObj bs q'))] rfl rfl rfl (by rw [Tryd.results32] <;> simp (maxSteps := 1000000) -implicitDefEqProofs (disch := omega) only [go_sem] <;> rfl) ⟨_, q', ⟨Ex.mk 2 0 a [], ⟨by simpa [Ex.sz, Ex.szL] using hs1, leaf_at hao d⟩, rfl⟩, by omega, by omega, rfl⟩ ?_ ?_ ?_ ?_) <;> (simp -implicitDefEqProofs (disch := omega) only [go_sem, rdObj, true_or, or_true]; done)
theorem expr_node (d : Nat) (id : Nat) (bs : List Nat) (q dep : Int) (hbs : Bs bs) (hq0 : 0 ≤ q) (hq : q + eb (d + 1) ≤ 1000000000000) (hd : decide (dep ≤ 1) = false) (hdep : dep ≤ 1000000)
    (ih : ∀ q', 0 ≤ q' → q' + eb d ≤ 1000000000000 → ExprD d id bs q' (dep - 1)) : ExprD (d + 1) id bs q dep := by
  have hb4 := eb_pos d
  have hs1 := es_pos d
  have hb5 : eb (d + 1) = 4 + 2 * eb d := rfl
  have hdep1 : 1 < dep := by simpa using hd
  have hs5 : es (d + 1) = 1 + 2 * es d := rfl
  refine callF_of' Tryd.func32 rfl Tryd.ntmps32 (by simp) ?_
  intro f0 B ns Q hB hns hQ
  have hid : id < B := hB id (by simp [hasKey, lk])
  obtain rfl : ns = [] := List.eq_nil_of_length_eq_zero hns
  refine g_ [0,1,4] ?_
  refine n_ ?_
  refine wpM_regionK [0,1,4,13] rfl fun Q1 hQ1 => ?_
  simp -implicitDefEqProofs (disch := omega) only [go_sem, hd]
  refine call_fn (l := [(id, rdObj bs q)]) (first := []) (cap := []) (ps := [.ptr id 0, .int .i64 4]) (pick_ok id bs q 4 hbs (by omega) (by omega) (by omega)) Tryd.call30 rfl rfl rfl G_ T_ ?_
  rintro out ⟨k0, rfl, h01, h02, h03⟩
  simp -implicitDefEqProofs (disch := omega) only [go_sem, hd]
  refine hQ1 _ _ (S_ ?_);clear hQ1 Q1
  refine c_ (fun hc0 => ?_) fun hc0 => ?_
  ·
    refine n_ ?_
    refine wpM_regionK [0,4,16] rfl fun Q1 hQ1 => ?_
    refine S_ ?_
    refine call_fn (l := [(id, rdObj bs (q + 1))]) (first := []) (cap := []) (ps := [.ptr id 0, .int .i64 3]) (pick_ok id bs (q + 1) 3 hbs (by omega) (by omega) (by omega)) Tryd.call30 rfl rfl rfl G_ T_ ?_
    rintro out ⟨k1, rfl, h1, h2, h3⟩
    refine S_ ?_
    refine hQ1 _ _ (S_ ?_);clear hQ1 Q1
    refine c_ (fun hc1 => ?_) fun hc1 => ?_
    ·
      refine n_ ?_
      refine wpM_regionK [4] rfl fun Q1 hQ1 => ?_
      refine S_ ?_
      refine call_fn (l := [(id, rdObj bs (q + 1 + 1)), (B + 1, .cells 3 (ints [0, 1, 2, 3, -1, 5, 1000000]))]) (first := []) (cap := []) (ps := [.ptr id 0, .sl 3 (B + 1) 0 7]) (num_ok id (B + 1) bs (q + 1 + 1) [0, 1, 2, 3, -1, 5, 1000000] 7 rfl (by omega) (by omega) (by omega) hbs (by omega) (by omega)) Tryd.call31 rfl rfl rfl G_ (by simp -implicitDefEqProofs (disch := omega) only [go_sem, ints, List.map_cons, List.map_nil]) ?_
      rintro out ⟨k2, rfl, h4⟩
      refine S_ ?_
      refine hQ1 _ _ (S_ ?_);clear hQ1 Q1
      refine wpM_le [(4, .ptr B 0)] [(B, .cells 42 (Ex.mk 1 k2 ⟨0, 0⟩ []).cs), (id, rdObj bs (q + 1 + 1 + 1))] T_ T_ T_ ?_
      refine wpM_ret ?_
      try refine S_ ?_
      first
      | refine hQ _ _ (ret0 [(id, some (rdObj bs (q + 1 + 1 + 1)))] rfl rfl rfl (by rw [Tryd.results32] <;> simp (maxSteps := 1000000) -implicitDefEqProofs (disch := omega) only [go_sem] <;> rfl) ⟨_, q + 1 + 1 + 1, ⟨Ex.mk 1 k2 ⟨0, 0⟩ [], ⟨by simp only [Ex.sz, Ex.szL]; omega, leaf_num h4 (d + 1)⟩, rfl⟩, by omega, by omega, rfl⟩ ?_ ?_ ?_ ?_) <;> (simp -implicitDefEqProofs (disch := omega) only [go_sem, rdObj, true_or, or_true]; done)
      | refine hQ _ _ (ret0 [(id, some (rdObj bs q'))] rfl rfl rfl (by rw [Tryd.results32] <;> simp (maxSteps := 1000000) -implicitDefEqProofs (disch := omega) only [go_sem] <;> rfl) ⟨_, q', ⟨Ex.mk 2 0 a [], ⟨by simp only [Ex.sz, Ex.szL]; omega, leaf_at hao (d + 1)⟩, rfl⟩, by omega, by omega, rfl⟩ ?_ ?_ ?_ ?_) <;> (simp -implicitDefEqProofs (disch := omega) only [go_sem, rdObj, true_or, or_true]; done)
      | refine hQ _ _ (ret0 [(id, some (rdObj bs q'))] rfl rfl rfl (by rw [Tryd.results32] <;> simp (maxSteps := 1000000) -implicitDefEqProofs (disch := omega) only [go_sem] <;> rfl) ⟨_, q', ⟨Ex.mk k5 0 ⟨0, 0⟩ l, ⟨by (have : Ex.szL l ≤ 2 * es d := (by rcases hr with h | h <;> rw [h] at hsz <;> omega)); simp only [Ex.sz]; omega, node_in h5 (by omega) hall⟩, rfl⟩, by omega, by omega, rfl⟩ ?_ ?_ ?_ ?_) <;> (simp -implicitDefEqProofs (disch := omega) only [go_sem, rdObj, true_or, or_true]; done)
    refine n_ ?_
    refine wpM_regionK [4] rfl fun Q1 hQ1 => ?_
    refine S_ ?_
    refine call_fn (l := [(id, rdObj bs (q + 1 + 1))]) (first := []) (cap := []) (ps := [.ptr id 0]) (l2Addr_ok id bs (q + 1 + 1) hbs (by omega) (by omega)) Tryd.call50 rfl rfl rfl G_ T_ ?_
    rintro out ⟨_, q', ⟨a, hao, rfl⟩, hqa, hqb, rfl⟩
    refine S_ ?_
    refine hQ1 _ _ (S_ ?_);clear hQ1 Q1
    refine wpM_le [(4, .ptr B 0)] [(B, .cells 42 (Ex.mk 2 0 a []).cs), (id, rdObj bs q')] T_ T_ T_ ?_
    refine wpM_ret ?_
    try refine S_ ?_
    first
    | refine hQ _ _ (ret0 [(id, some (rdObj bs (q + 1 + 1 + 1)))] rfl rfl rfl (by rw [Tryd.results32] <;> simp (maxSteps := 1000000) -implicitDefEqProofs (disch := omega) only [go_sem] <;> rfl) ⟨_, q + 1 + 1 + 1, ⟨Ex.mk 1 k2 ⟨0, 0⟩ [], ⟨by simp only [Ex.sz, Ex.szL]; omega, leaf_num h4 (d + 1)⟩, rfl⟩, by omega, by omega, rfl⟩ ?_ ?_ ?_ ?_) <;> (simp -implicitDefEqProofs (disch := omega) only [go_sem, rdObj, true_or, or_true]; done)
    | refine hQ _ _ (ret0 [(id, some (rdObj bs q'))] rfl rfl rfl (by rw [Tryd.results32] <;> simp (maxSteps := 1000000) -implicitDefEqProofs (disch := omega) only [go_sem] <;> rfl) ⟨_, q', ⟨Ex.mk 2 0 a [], ⟨by simp only [Ex.sz, Ex.szL]; omega, leaf_at hao (d + 1)⟩, rfl⟩, by omega, by omega, rfl⟩ ?_ ?_ ?_ ?_) <;> (simp -implicitDefEqProofs (disch := omega) only [go_sem, rdObj, true_or, or_true]; done)
    | refine hQ _ _ (ret0 [(id, some (rdObj bs q'))] rfl rfl rfl (by rw [Tryd.results32] <;> simp (maxSteps := 1000000) -implicitDefEqProofs (disch := omega) only [go_sem] <;> rfl) ⟨_, q', ⟨Ex.mk k5 0 ⟨0, 0⟩ l, ⟨by (have : Ex.szL l ≤ 2 * es d := (by rcases hr with h | h <;> rw [h] at hsz <;> omega)); simp only [Ex.sz]; omega, node_in h5 (by omega) hall⟩, rfl⟩, by omega, by omega, rfl⟩ ?_ ?_ ?_ ?_) <;> (simp -implicitDefEqProofs (disch := omega) only [go_sem, rdObj, true_or, or_true]; done)
  refine n_ ?_
  refine wpM_regionK [0,1,4,5] rfl fun Q1 hQ1 => ?_
  refine S_ ?_
  refine call_fn (l := [(id, rdObj bs (q + 1)), (B + 1, .cells 3 (ints [3, 3, 4, 5, 6, 6, 7, 8, 9, 10]))]) (first := []) (cap := []) (ps := [.ptr id 0, .sl 3 (B + 1) 0 10]) (num_ok id (B + 1) bs (q + 1) [3, 3, 4, 5, 6, 6, 7, 8, 9, 10] 10 rfl (by omega) (by omega) (by omega) hbs (by omega) (by omega)) Tryd.call31 rfl rfl rfl G_ (by simp -implicitDefEqProofs (disch := omega) only [go_sem, ints, List.map_cons, List.map_nil]) ?_
  rintro out ⟨k5, rfl, h5⟩
  refine S_ ?_
  refine hQ1 _ _ (S_ ?_);clear hQ1 Q1
  refine n_ ?_
  refine wpM_regionK [0,1,4,5,6] rfl fun Q1 hQ1 => ?_
  refine S_ ?_
  refine cp_ (l3Kids_ok k5) Tryd.call51 ?_
  refine hQ1 _ _ (S_ ?_);clear hQ1 Q1
  obtain ⟨n, hkn, hn1, hn2⟩ : ∃ n : Nat, kidsN k5 = (n : Int) ∧ 1 ≤ n ∧ n ≤ 2 := by
    simp only [List.mem_cons, List.not_mem_nil, or_false] at h5
    rcases h5 with rfl | rfl | rfl | rfl | rfl | rfl | rfl | rfl | rfl | rfl <;> first | exact ⟨2, rfl, by omega, by omega⟩ | exact ⟨1, rfl, by omega, by omega⟩
  rw [hkn]
  refine n_ ?_
  refine wpM_loopS (fun s r s' => (r = n ∧ s' = s) ∨ ∃ (M0 y : Nat) (l : List Ex) (q' : Int), 0 < l.length ∧ l.length + r = n ∧ s.M ≤ y ∧ y < M0 ∧ Ex.szL l ≤ l.length * es d ∧ l.all (formD (d + 1)) = true ∧ q + 2 ≤ q' ∧ q' ≤ q + 2 + (l.length : Int) * eb d ∧ s' = { s with env := setE 6 (.int .i64 (r : Nat)) s.env, l := (y, .cells 42 (exc l)) :: setl (B + 2) (.cells 42 [.int .i64 k5, .int .i64 0, .int .i64 0, .int .i64 0, .sl 42 y 0 l.length]) (setl id (rdObj bs q') s.l), M := M0 }) (n) ?_ ?_
  ·
    refine .of' _ _ (.inl ⟨rfl, rfl⟩) ?_ ?_ ?_ <;> exact L_
  rintro r s' (⟨rfl, rfl⟩ | ⟨M0, y, l, q', hl0, hlr, hy, hyM, hsz, hall, hqa, hqb, rfl⟩)
  ·
    try refine S_ ?_
    refine g_ [0,1,4,5,6,32] ?_
    refine c_ (fun hc2 => ?_) fun hc2 => ?_
    ·
      skip
      refine n_ ?_
      refine dr_ mixed [0,1,4,5,6] 2 2 [B + 2, id, B + 3, B + 4] [⟨[5],[],[],[],false⟩,⟨[35],[0],[],[],false⟩,⟨[0],[],[],[],false⟩,⟨[1],[],[],[],false⟩,⟨[38],[],[],[],false⟩,⟨[37,39],[1],[1],[],true⟩,⟨[40],[],[],[2],false⟩,⟨[36,41],[2],[],[3],false⟩,⟨[5],[],[],[],false⟩,⟨[42,43],[0],[0],[],false⟩] [0,1,2,3,4,5,6,7,8,9] [[],[0],[],[],[3],[2,3,4],[2,3,4,5],[0,1,2,3,4,5,6],[0,1,2,3,4,5,6,7],[0,1,2,3,4,5,6,7,8]] 4 (htbl := by simp; omega) (hnm := by simp) ?_
      intro O A K hO hA hK;simp only [atL_cons,atL_nil,Nat.reduceAdd,Nat.zero_add] at hO hA
      refine SO_ ?_
      refine loud_fn (first := []) (cap := []) (ps := [.ptr id 0, .int .i64 (dep - 1)]) (l := [(id, rdObj bs (q + 1 + 1))]) (ih (q + 1 + 1) (by omega) (by omega)) Tryd.call32 rfl rfl F_ (subG_spec T_) rfl ?_
      rintro out ⟨_, q', ⟨e, hes, rfl⟩, hqa, hqb, rfl⟩
      refine ⟨rfl, ?_⟩
      refine SO_ ?_
      refine hK _ (S_ ?_);clear hK K hO hA O A
      refine g_ [0,1,4,5,6] ?_
      have e1 : [PV.int .i64 e.kind, .int .i64 e.n, .int .i64 e.a.kind, .int .i64 e.a.at', .rows 42 (Ex.csL e.kids)] = exc [e] := by rw [← exc_one, Ex.cs_eq]
      rw [e1, show ((r : Int) - 1) = ((r - 1 : Nat) : Int) by omega]
      refine .of' _ _ ⟨r - 1, by omega, .inr ⟨_, B + 4, [e], q', by simp, by simp; omega, ?_, ?_, by simp [Ex.szL]; omega, by simp [hes.2], by omega, by simp; omega, rfl⟩⟩ ?_ ?_ ?_
      · first | omega | (simp -implicitDefEqProofs (disch := omega) only [go_sem]; done) | (simp -implicitDefEqProofs (disch := omega) only [go_sem]; omega)
      · first | omega | (simp -implicitDefEqProofs (disch := omega) only [go_sem]; done) | (simp -implicitDefEqProofs (disch := omega) only [go_sem]; omega)
      all_goals exact L_
    exfalso; omega
  dsimp only at hy
  have hr : l.length = 1 ∨ l.length = 2 := by omega
  have hqb2 : q' ≤ q + 2 + 2 * eb d := by rcases hr with h | h <;> rw [h] at hqb <;> omega
  try refine S_ ?_
  refine g_ [0,1,4,5,6,32] ?_
  refine c_ (fun hc2 => ?_) fun hc2 => ?_
  ·
    have hr1 : l.length = 1 := by omega
    have hqb3 : q' ≤ q + 2 + eb d := by rw [hr1] at hqb; omega
    refine n_ ?_
    refine dr_ mixed [0,1,4,5,6] 2 3 [B + 2, id, y, M0, M0 + 1] [⟨[5],[],[],[],false⟩,⟨[35],[0],[],[],false⟩,⟨[0],[],[],[],false⟩,⟨[1],[],[],[],false⟩,⟨[38],[],[],[],false⟩,⟨[37,39],[1],[1],[],true⟩,⟨[40],[],[],[3],false⟩,⟨[36,41],[2,3],[2],[4],false⟩,⟨[5],[],[],[],false⟩,⟨[42,43],[0],[0],[],false⟩] [0,1,2,3,4,5,6,7,8,9] [[],[0],[],[],[3],[2,3,4],[2,3,4,5],[0,1,2,3,4,5,6],[0,1,2,3,4,5,6,7],[0,1,2,3,4,5,6,7,8]] 5 (htbl := by simp; omega) (hnm := by simp) ?_
    intro O A K hO hA hK;simp only [atL_cons,atL_nil,Nat.reduceAdd,Nat.zero_add] at hO hA
    refine SO_ ?_
    refine loud_fn (first := []) (cap := []) (ps := [.ptr id 0, .int .i64 (dep - 1)]) (l := [(id, rdObj bs q')]) (ih q' (by omega) (by omega)) Tryd.call32 rfl rfl F_ (subG_spec T_) rfl ?_
    rintro out ⟨_, q2, ⟨e, hes, rfl⟩, hqc, hqd, rfl⟩
    refine ⟨rfl, ?_⟩
    refine SO_ ?_
    refine hK _ (S_ ?_);clear hK K hO hA O A
    refine g_ [0,1,4,5,6] ?_
    have e1 : exc l ++ [PV.int .i64 e.kind, .int .i64 e.n, .int .i64 e.a.kind, .int .i64 e.a.at', .rows 42 (Ex.csL e.kids)] = exc (l ++ [e]) := by rw [← exc_app, Ex.cs_eq e]
    rw [e1, show ((r : Int) - 1) = ((r - 1 : Nat) : Int) by omega]
    refine .of' _ _ ⟨r - 1, by omega, .inr ⟨_, M0 + 1, l ++ [e], q2, by simp, by simp; omega, ?_, ?_, by rw [Ex.szL_app, List.length_append, hr1]; rw [hr1] at hsz; simp; omega, by rw [List.all_append, hall]; simp [hes.2], by omega, by rw [List.length_append, hr1]; simp; omega, rfl⟩⟩ ?_ ?_ ?_
    · first | omega | (simp -implicitDefEqProofs (disch := omega) only [go_sem]; done) | (simp -implicitDefEqProofs (disch := omega) only [go_sem]; omega)
    · first | omega | (simp -implicitDefEqProofs (disch := omega) only [go_sem]; done) | (simp -implicitDefEqProofs (disch := omega) only [go_sem]; omega)
    all_goals exact L_
  refine n_ ?_
  have hr0 : r = 0 := by omega
  refine wpM_frz [y] [(42, y, 0, l.length, Ex.csL l)] (by intro q hq; simp at hq; subst hq; simp -implicitDefEqProofs (disch := omega) only [go_sem]) (by intro q hq; simp only [List.mem_cons, List.not_mem_nil, or_false] at hq; subst hq; exact ⟨by simp, rowsOf_exc (T := 42) T_⟩) ?_
  simp -implicitDefEqProofs (disch := omega) only [go_sem, rdObj]
  refine g_ [4] ?_
  refine wpM_ret ?_
  try refine S_ ?_
  first
  | refine hQ _ _ (ret0 [(id, some (rdObj bs (q + 1 + 1 + 1)))] rfl rfl rfl (by rw [Tryd.results32] <;> simp (maxSteps := 1000000) -implicitDefEqProofs (disch := omega) only [go_sem] <;> rfl) ⟨_, q + 1 + 1 + 1, ⟨Ex.mk 1 k2 ⟨0, 0⟩ [], ⟨by simp only [Ex.sz, Ex.szL]; omega, leaf_num h4 (d + 1)⟩, rfl⟩, by omega, by omega, rfl⟩ ?_ ?_ ?_ ?_) <;> (simp -implicitDefEqProofs (disch := omega) only [go_sem, rdObj, true_or, or_true]; done)
  | refine hQ _ _ (ret0 [(id, some (rdObj bs q'))] rfl rfl rfl (by rw [Tryd.results32] <;> simp (maxSteps := 1000000) -implicitDefEqProofs (disch := omega) only [go_sem] <;> rfl) ⟨_, q', ⟨Ex.mk 2 0 a [], ⟨by simp only [Ex.sz, Ex.szL]; omega, leaf_at hao (d + 1)⟩, rfl⟩, by omega, by omega, rfl⟩ ?_ ?_ ?_ ?_) <;> (simp -implicitDefEqProofs (disch := omega) only [go_sem, rdObj, true_or, or_true]; done)
  | refine hQ _ _ (ret0 [(id, some (rdObj bs q'))] rfl rfl rfl (by rw [Tryd.results32] <;> simp (maxSteps := 1000000) -implicitDefEqProofs (disch := omega) only [go_sem] <;> rfl) ⟨_, q', ⟨Ex.mk k5 0 ⟨0, 0⟩ l, ⟨by (have : Ex.szL l ≤ 2 * es d := (by rcases hr with h | h <;> rw [h] at hsz <;> omega)); simp only [Ex.sz]; omega, node_in h5 (by omega) hall⟩, rfl⟩, by omega, by omega, rfl⟩ ?_ ?_ ?_ ?_) <;> (simp -implicitDefEqProofs (disch := omega) only [go_sem, rdObj, true_or, or_true]; done)
theorem l3Expr_ok (id : Nat) (bs : List Nat) (hbs : Bs bs) (d : Nat) : ∀ (q dep : Int), 0 ≤ q → q + eb d ≤ 1000000000000 → dep ≤ (d : Int) + 1 → dep ≤ 1000000 → ExprD d id bs q dep := by
  induction d with
  | zero => intro q dep h1 h2 h3 h4; exact expr_leaf 0 id bs q dep hbs h1 h2 (by simp; omega)
  | succ d ih =>
    intro q dep h1 h2 h3 h4
    by_cases hd : dep ≤ 1
    · exact expr_leaf (d + 1) id bs q dep hbs h1 h2 (by simp [hd])
    · exact expr_node d id bs q dep hbs h1 h2 (by simp [hd]) h4 (fun q' g1 g2 => ih q' (dep - 1) g1 g2 (by omega) (by omega))
end Go.Proofs.YtnmfmeehmieifaaDoor
namespace Go.Proofs.YtnmfmeehmieifaaDoor
open Go Sg
set_option linter.unusedSectionVars false
variable [Glob]
set_option maxRecDepth 100000
set_option linter.unusedSimpArgs false
set_option linter.unusedVariables false
set_option maxHeartbeats 4000000
theorem l3Copy_ok : ∀ (N : Nat) (e : Ex), e.sz ≤ N → e.sz ≤ 1099511627776 → PureF Tryd.prog 53 [.agg e.cs] [.agg e.cs] := by
  intro N
  induction N with
  | zero => intro e h; have := e.sz_pos; omega
  | succ N ih =>
    intro e hN hs
    have hlen := e.kids_len
    refine pureF_of Tryd.func53 rfl Tryd.ntmps53 (by simp) T_ ?_
    intro f0 B Q hQ
    refine g_ [1,2] ?_
    refine g_ [1,2,3] ?_
    refine g_ [1,2,3,4] ?_
    refine n_ ?_
    refine wpM_loopS (fun s r s' => (r = e.kids.length ∧ s' = s) ∨ ∃ (i0 M0 y : Nat), 0 < i0 ∧ i0 + r = e.kids.length ∧ s.M ≤ y ∧ y < M0 ∧ s' = { s with env := setE 4 (.int .i64 (i0 : Nat)) s.env, l := (y, .cells 42 (exc (e.kids.take i0))) :: setl (B + 2) (.cells 42 [.int .i64 e.kind, .int .i64 e.n, .int .i64 e.a.kind, .int .i64 e.a.at', .sl 42 y 0 i0]) s.l, M := M0 }) (e.kids.length) ?_ ?_
    ·
      refine .of' _ _ (.inl ⟨rfl, rfl⟩) ?_ ?_ ?_ <;> exact L_
    rintro r s' (⟨rfl, rfl⟩ | ⟨i0, M0, y, hi0, hir, hy, hyM, rfl⟩)
    ·
      try refine S_ ?_
      refine g_ [1,2,3,4,16] ?_
      refine c_ (fun hc0 => ?_) fun hc0 => ?_
      ·
        have hks := Ex.kid_sz (e := e) (k := 0) (by omega)
        refine n_ ?_
        refine dr_ mixed [1,2,3,4] 2 2 [B + 2, B, B + 3, B + 4] [⟨[3],[],[],[],false⟩,⟨[19],[0],[],[],false⟩,⟨[1],[],[],[],false⟩,⟨[21],[1],[],[],false⟩,⟨[4],[],[],[],false⟩,⟨[22,23],[],[],[],false⟩,⟨[24],[],[],[],false⟩,⟨[25],[],[],[],true⟩,⟨[26],[],[],[2],false⟩,⟨[20,27],[2],[],[3],false⟩,⟨[3],[],[],[],false⟩,⟨[28,29],[0],[0],[],false⟩] [0,1,2,3,4,5,6,7,8,9,10,11] [[],[0],[],[2],[],[2,3,4],[2,3,4,5],[2,3,4,5,6],[2,3,4,5,6,7],[0,1,2,3,4,5,6,7,8],[0,1,2,3,4,5,6,7,8,9],[0,1,2,3,4,5,6,7,8,9,10]] 4 ?_
        intro O A K hO hA hK;simp only [atL_cons,atL_nil,Nat.reduceAdd,Nat.zero_add] at hO hA
        simp -implicitDefEqProofs (disch := omega) only [go_sem, exc_len, hO, hA]
        refine loud_p (ih (e.kids.getD 0 default) (by omega) (by omega)) Tryd.call53 rfl rfl (by first | rfl | (simp -implicitDefEqProofs (disch := omega) only [go_sem] <;> rfl)) rfl ?_
        simp -implicitDefEqProofs (disch := omega) only [go_sem, exc_len, hO, hA]
        refine hK _ (S_ ?_);clear hK K hO hA O A
        refine g_ [1,2,3,4] ?_
        have e1 : [PV.int .i64 (e.kids.getD 0 default).kind, .int .i64 (e.kids.getD 0 default).n, .int .i64 (e.kids.getD 0 default).a.kind, .int .i64 (e.kids.getD 0 default).a.at', .rows 42 (Ex.csL (e.kids.getD 0 default).kids)] = exc (e.kids.take 1) := by
          have this0 : e.kids.getD 0 default = e.kids[0] := by simp [List.getD, show 0 < e.kids.length by omega]
          rw [List.take_succ_eq_append_getElem (by omega), List.take_zero, List.nil_append, ← exc_one, ← this0, Ex.cs_eq]
        rw [e1]
        refine .of' _ _ ⟨e.kids.length - 1, by omega, .inr ⟨1, _, B + 4, by omega, by omega, ?_, ?_, rfl⟩⟩ ?_ ?_ ?_
        · first | omega | (simp -implicitDefEqProofs (disch := omega) only [go_sem]; done) | (simp -implicitDefEqProofs (disch := omega) only [go_sem]; omega)
        · first | omega | (simp -implicitDefEqProofs (disch := omega) only [go_sem]; done) | (simp -implicitDefEqProofs (disch := omega) only [go_sem]; omega)
        all_goals exact L_
      refine n_ ?_
      have hk0 : e.kids = [] := List.eq_nil_of_length_eq_zero (by omega)
      refine wpM_le [(2, .ptr (B + 1) 0), (3, .ptr (B + 2) 0)] [(B + 2, .cells 42 e.cs), (B + 1, .cells 42 [.int .i64 0, .int .i64 0, .int .i64 0, .int .i64 0, .emp])] (by simp -implicitDefEqProofs (disch := omega) only [go_sem, hk0]) (by simp -implicitDefEqProofs (disch := omega) only [go_sem, hk0]) T_ ?_
      refine g_ [2] ?_
      refine e_ Tryd.results53 ?_
      first
      | exact True.intro
      | rfl
    dsimp only at hy
    try refine S_ ?_
    refine g_ [1,2,3,4,16] ?_
    refine c_ (fun hc0 => ?_) fun hc0 => ?_
    ·
      have hks := Ex.kid_sz (e := e) (k := i0) (by omega)
      have htl : (e.kids.take i0).length = i0 := by simp; omega
      refine n_ ?_
      refine dr_ mixed [1,2,3,4] 2 3 [B + 2, B, y, M0, M0 + 1] [⟨[3],[],[],[],false⟩,⟨[19],[0],[],[],false⟩,⟨[1],[],[],[],false⟩,⟨[21],[1],[],[],false⟩,⟨[4],[],[],[],false⟩,⟨[22,23],[],[],[],false⟩,⟨[24],[],[],[],false⟩,⟨[25],[],[],[],true⟩,⟨[26],[],[],[3],false⟩,⟨[20,27],[2,3],[2],[4],false⟩,⟨[3],[],[],[],false⟩,⟨[28,29],[0],[0],[],false⟩] [0,1,2,3,4,5,6,7,8,9,10,11] [[],[0],[],[2],[],[2,3,4],[2,3,4,5],[2,3,4,5,6],[2,3,4,5,6,7],[0,1,2,3,4,5,6,7,8],[0,1,2,3,4,5,6,7,8,9],[0,1,2,3,4,5,6,7,8,9,10]] 5 (htbl := by simp; omega) (hnm := by simp) ?_
      intro O A K hO hA hK;simp only [atL_cons,atL_nil,Nat.reduceAdd,Nat.zero_add] at hO hA
      simp -implicitDefEqProofs (disch := omega) only [go_sem, htl, hO, hA]
      refine loud_p (ih (e.kids.getD i0 default) (by omega) (by omega)) Tryd.call53 rfl rfl (by first | rfl | (simp -implicitDefEqProofs (disch := omega) only [go_sem] <;> rfl)) rfl ?_
      simp -implicitDefEqProofs (disch := omega) only [go_sem, htl, hO, hA]
      refine hK _ (S_ ?_);clear hK K hO hA O A
      refine g_ [1,2,3,4] ?_
      have e1 : exc (e.kids.take i0) ++ [.int .i64 (e.kids.getD i0 default).kind, .int .i64 (e.kids.getD i0 default).n, .int .i64 (e.kids.getD i0 default).a.kind, .int .i64 (e.kids.getD i0 default).a.at', .rows 42 (Ex.csL (e.kids.getD i0 default).kids)] = exc (e.kids.take (i0 + 1)) := by
        rw [List.take_succ_eq_append_getElem (by omega), ← exc_app, Ex.cs_eq]
        have : e.kids.getD i0 default = e.kids[i0] := by simp [List.getD, show i0 < e.kids.length by omega]
        rw [this]
      rw [e1]
      refine .of' _ _ ⟨r - 1, by omega, .inr ⟨i0 + 1, _, M0 + 1, by omega, by omega, ?_, ?_, rfl⟩⟩ ?_ ?_ ?_
      · first | omega | (simp -implicitDefEqProofs (disch := omega) only [go_sem]; done) | (simp -implicitDefEqProofs (disch := omega) only [go_sem]; omega)
      · first | omega | (simp -implicitDefEqProofs (disch := omega) only [go_sem]; done) | (simp -implicitDefEqProofs (disch := omega) only [go_sem]; omega)
      all_goals exact L_
    refine n_ ?_
    have hie : i0 = e.kids.length := by omega
    have htl : e.kids.take i0 = e.kids := by rw [hie, List.take_of_length_le (Nat.le_refl _)]
    rw [htl]
    refine wpM_frz [y] [(42, y, 0, i0, Ex.csL e.kids)] (by intro q hq; simp at hq; subst hq; simp -implicitDefEqProofs (disch := omega) only [go_sem]) (by intro q hq; simp only [List.mem_cons, List.not_mem_nil, or_false] at hq; subst hq; rw [hie]; exact ⟨by simp, rowsOf_exc (T := 42) T_⟩) ?_
    simp -implicitDefEqProofs (disch := omega) only [go_sem]
    refine g_ [2] ?_
    refine e_ Tryd.results53 ?_
    first
    | exact True.intro
    | rfl
theorem l3Some_ok (id : Nat) (bs : List Nat) (q : Int) (hbs : Bs bs) (hq0 : 0 ≤ q) (hq : q + 153 ≤ 1000000000000) : RdF 52 [] id bs q 153 (fun v => ∃ e : Ex, e.sz ≤ 31 ∧ v = .agg e.cs) := by
  refine callF_of' Tryd.func52 rfl Tryd.ntmps52 (by simp) ?_
  intro f0 B ns Q hB hns hQ
  have hid : id < B := hB id (by simp [hasKey, lk])
  obtain rfl : ns = [] := List.eq_nil_of_length_eq_zero hns
  have b4 : eb 4 = 124 := rfl
  have b2 : eb 2 = 28 := rfl
  have s4 : es 4 = 31 := rfl
  have s2 : es 2 = 7 := rfl
  refine g_ [0,2] ?_
  refine n_ ?_
  refine wpM_regionK [0,2,3] rfl fun Q1 hQ1 => ?_
  refine S_ ?_
  refine call_fn (l := [(id, rdObj bs q)]) (first := []) (cap := []) (ps := [.ptr id 0, .int .i64 4]) (pick_ok id bs q 4 hbs (by omega) (by omega) (by omega)) Tryd.call30 rfl rfl rfl G_ T_ ?_
  rintro out ⟨k1, rfl, h1, h2, h3⟩
  refine S_ ?_
  refine call_fn (l := [(id, rdObj bs (q + 1))]) (first := []) (cap := []) (ps := [.ptr id 0, .int .i64 (1 + k1)]) (l3Expr_ok id bs hbs 4 (q + 1) (1 + k1) (by omega) (by omega) (by omega) (by omega)) Tryd.call32 rfl rfl rfl G_ T_ ?_
  rintro out ⟨_, q', ⟨e, hes, rfl⟩, hqa, hqb, rfl⟩
  refine S_ ?_
  refine hQ1 _ _ (S_ ?_);clear hQ1 Q1
  refine n_ ?_
  refine wpM_regionK [0,2,3,11] rfl fun Q1 hQ1 => ?_
  refine S_ ?_
  refine cp_ (exprOk_ok e (by omega)) Tryd.call20 ?_
  refine hQ1 _ _ (S_ ?_);clear hQ1 Q1
  refine c_ (fun hc0 => ?_) fun hc0 => ?_
  ·
    refine n_ ?_
    refine wpM_regionK [2] rfl fun Q1 hQ1 => ?_
    refine S_ ?_
    refine call_fn (l := [(id, rdObj bs q')]) (first := []) (cap := []) (ps := [.ptr id 0, .int .i64 2]) (l3Expr_ok id bs hbs 2 q' 2 (by omega) (by omega) (by omega) (by omega)) Tryd.call32 rfl rfl rfl G_ T_ ?_
    rintro out ⟨_, q2, ⟨e2, hes2, rfl⟩, hqc, hqd, rfl⟩
    refine S_ ?_
    refine hQ1 _ _ (S_ ?_);clear hQ1 Q1
    refine wpM_ret ?_
    try refine S_ ?_
    first
    | refine hQ _ _ (ret0 [(id, some (rdObj bs q2))] rfl rfl rfl (by rw [Tryd.results52] <;> simp (maxSteps := 1000000) -implicitDefEqProofs (disch := omega) only [go_sem] <;> rfl) ⟨_, q2, ⟨e2, by omega, rfl⟩, by omega, by omega, rfl⟩ ?_ ?_ ?_ ?_) <;> (simp -implicitDefEqProofs (disch := omega) only [go_sem, rdObj, true_or, or_true]; done)
    | refine hQ _ _ (ret0 [(id, some (rdObj bs q'))] rfl rfl rfl (by rw [Tryd.results52] <;> simp (maxSteps := 1000000) -implicitDefEqProofs (disch := omega) only [go_sem] <;> rfl) ⟨_, q', ⟨e, by omega, rfl⟩, by omega, by omega, rfl⟩ ?_ ?_ ?_ ?_) <;> (simp -implicitDefEqProofs (disch := omega) only [go_sem, rdObj, true_or, or_true]; done)
  refine g_ [2] ?_
  refine wpM_ret ?_
  try refine S_ ?_
  first
  | refine hQ _ _ (ret0 [(id, some (rdObj bs q2))] rfl rfl rfl (by rw [Tryd.results52] <;> simp (maxSteps := 1000000) -implicitDefEqProofs (disch := omega) only [go_sem] <;> rfl) ⟨_, q2, ⟨e2, by omega, rfl⟩, by omega, by omega, rfl⟩ ?_ ?_ ?_ ?_) <;> (simp -implicitDefEqProofs (disch := omega) only [go_sem, rdObj, true_or, or_true]; done)
  | refine hQ _ _ (ret0 [(id, some (rdObj bs q'))] rfl rfl rfl (by rw [Tryd.results52] <;> simp (maxSteps := 1000000) -implicitDefEqProofs (disch := omega) only [go_sem] <;> rfl) ⟨_, q', ⟨e, by omega, rfl⟩, by omega, by omega, rfl⟩ ?_ ?_ ?_ ?_) <;> (simp -implicitDefEqProofs (disch := omega) only [go_sem, rdObj, true_or, or_true]; done)
theorem l3Bent_ok (id : Nat) (bs : List Nat) (q : Int) (hbs : Bs bs) (hq0 : 0 ≤ q) (hq : q + 158 ≤ 1000000000000) : RdF 34 [] id bs q 158 (fun v => ∃ e : Ex, e.sz ≤ 1000 ∧ v = .agg e.cs) := by
  refine callF_of' Tryd.func34 rfl Tryd.ntmps34 (by simp) ?_
  intro f0 B ns Q hB hns hQ
  have hid : id < B := hB id (by simp [hasKey, lk])
  obtain rfl : ns = [] := List.eq_nil_of_length_eq_zero hns
  refine g_ [0,2] ?_
  refine n_ ?_
  refine wpM_regionK [0,2,3] rfl fun Q1 hQ1 => ?_
  refine S_ ?_
  refine call_fn (l := [(id, rdObj bs q)]) (first := []) (cap := []) (ps := [.ptr id 0]) (l3Some_ok id bs q hbs (by omega) (by omega)) Tryd.call52 rfl rfl rfl G_ T_ ?_
  rintro out ⟨_, q', ⟨e, hes, rfl⟩, hqa, hqb, rfl⟩
  refine S_ ?_
  refine hQ1 _ _ (S_ ?_);clear hQ1 Q1
  refine n_ ?_
  refine wpM_regionK [0,2,3,9] rfl fun Q1 hQ1 => ?_
  refine S_ ?_
  refine call_fn (l := [(id, rdObj bs q')]) (first := []) (cap := []) (ps := [.ptr id 0, .int .i64 60]) (pick_ok id bs q' 60 hbs (by omega) (by omega) (by omega)) Tryd.call30 rfl rfl rfl G_ T_ ?_
  rintro out ⟨k1, rfl, h1, h2, h3⟩
  refine S_ ?_
  refine hQ1 _ _ (S_ ?_);clear hQ1 Q1
  refine g_ [0,2,3,9,10] ?_
  refine c_ (fun hc0 => ?_) fun hc0 => ?_
  ·
    refine wpM_regionK [2,3] rfl fun Q1 hQ1 => ?_
    refine S_ ?_
    refine call_fn (l := [(id, rdObj bs (q' + 1)), (B + 2, .cells 3 (ints [0, 11, 3, 10]))]) (first := []) (cap := []) (ps := [.ptr id 0, .sl 3 (B + 2) 0 4]) (num_ok id (B + 2) bs (q' + 1) [0, 11, 3, 10] 4 rfl (by omega) (by omega) (by omega) hbs (by omega) (by omega)) Tryd.call31 rfl rfl rfl G_ (by simp -implicitDefEqProofs (disch := omega) only [go_sem, ints, List.map_cons, List.map_nil]) ?_
    rintro out ⟨k2, rfl, h4⟩
    refine S_ ?_
    refine hQ1 _ _ (S_ ?_);clear hQ1 Q1
    refine g_ [2] ?_
    refine wpM_ret ?_
    try refine S_ ?_
    first
    | refine hQ _ _ (ret0 [(id, some (rdObj bs (q' + 1 + 1)))] rfl rfl rfl (by rw [Tryd.results34] <;> simp (maxSteps := 1000000) -implicitDefEqProofs (disch := omega) only [go_sem] <;> rfl) ⟨_, q' + 1 + 1, ⟨Ex.mk k2 e.n e.a e.kids, by rw [Ex.sz_eq] at hes; simp only [Ex.sz]; omega, by first | rfl | (rw [Ex.cs_eq]; done)⟩, by omega, by omega, rfl⟩ ?_ ?_ ?_ ?_) <;> (simp -implicitDefEqProofs (disch := omega) only [go_sem, rdObj, true_or, or_true]; done)
    | refine hQ _ _ (ret0 [(id, some (rdObj bs (q' + 1 + 1)))] rfl rfl rfl (by rw [Tryd.results34] <;> simp (maxSteps := 1000000) -implicitDefEqProofs (disch := omega) only [go_sem] <;> rfl) ⟨_, q' + 1 + 1, ⟨Ex.mk e.kind k3 e.a e.kids, by rw [Ex.sz_eq] at hes; simp only [Ex.sz]; omega, by first | rfl | (rw [Ex.cs_eq]; done)⟩, by omega, by omega, rfl⟩ ?_ ?_ ?_ ?_) <;> (simp -implicitDefEqProofs (disch := omega) only [go_sem, rdObj, true_or, or_true]; done)
    | refine hQ _ _ (ret0 [(id, some (rdObj bs (q2)))] rfl rfl rfl (by rw [Tryd.results34] <;> simp (maxSteps := 1000000) -implicitDefEqProofs (disch := omega) only [go_sem] <;> rfl) ⟨_, q2, ⟨Ex.mk e.kind e.n a e.kids, by rw [Ex.sz_eq] at hes; simp only [Ex.sz]; omega, by first | rfl | (rw [Ex.cs_eq]; done)⟩, by omega, by omega, rfl⟩ ?_ ?_ ?_ ?_) <;> (simp -implicitDefEqProofs (disch := omega) only [go_sem, rdObj, true_or, or_true]; done)
    | refine hQ _ _ (ret0 [(id, some (rdObj bs (q' + 1)))] rfl rfl rfl (by rw [Tryd.results34] <;> simp (maxSteps := 1000000) -implicitDefEqProofs (disch := omega) only [go_sem] <;> rfl) ⟨_, q' + 1, ⟨e0, by omega, by first | rfl | (rw [Ex.cs_eq]; done)⟩, by omega, by omega, rfl⟩ ?_ ?_ ?_ ?_) <;> (simp -implicitDefEqProofs (disch := omega) only [go_sem, rdObj, true_or, or_true]; done)
    | refine hQ _ _ (ret0 [(id, some (rdObj bs (q' + 1)))] rfl rfl rfl (by rw [Tryd.results34] <;> simp (maxSteps := 1000000) -implicitDefEqProofs (disch := omega) only [go_sem] <;> rfl) ⟨_, q' + 1, ⟨e0, by (have h4 : i1 = 4 := by omega); subst h4; omega, by first | rfl | (rw [Ex.cs_eq]; done)⟩, by omega, by omega, rfl⟩ ?_ ?_ ?_ ?_) <;> (simp -implicitDefEqProofs (disch := omega) only [go_sem, rdObj, true_or, or_true]; done)
    | refine hQ _ _ (ret0 [(id, some (rdObj bs (q' + 1)))] rfl rfl rfl (by rw [Tryd.results34] <;> simp (maxSteps := 1000000) -implicitDefEqProofs (disch := omega) only [go_sem] <;> rfl) ⟨_, q' + 1, ⟨e, by omega, by first | rfl | (rw [Ex.cs_eq]; done)⟩, by omega, by omega, rfl⟩ ?_ ?_ ?_ ?_) <;> (simp -implicitDefEqProofs (disch := omega) only [go_sem, rdObj, true_or, or_true]; done)
  refine g_ [0,2,3,9,16] ?_
  refine c_ (fun hc1 => ?_) fun hc1 => ?_
  ·
    refine wpM_regionK [2,3] rfl fun Q1 hQ1 => ?_
    refine S_ ?_
    refine call_fn (l := [(id, rdObj bs (q' + 1)), (B + 2, .cells 3 (ints [1, 1000001]))]) (first := []) (cap := []) (ps := [.ptr id 0, .sl 3 (B + 2) 0 2]) (num_ok id (B + 2) bs (q' + 1) [1, 1000001] 2 rfl (by omega) (by omega) (by omega) hbs (by omega) (by omega)) Tryd.call31 rfl rfl rfl G_ (by simp -implicitDefEqProofs (disch := omega) only [go_sem, ints, List.map_cons, List.map_nil]) ?_
    rintro out ⟨k3, rfl, h4⟩
    refine S_ ?_
    refine hQ1 _ _ (S_ ?_);clear hQ1 Q1
    refine g_ [2] ?_
    refine wpM_ret ?_
    try refine S_ ?_
    first
    | refine hQ _ _ (ret0 [(id, some (rdObj bs (q' + 1 + 1)))] rfl rfl rfl (by rw [Tryd.results34] <;> simp (maxSteps := 1000000) -implicitDefEqProofs (disch := omega) only [go_sem] <;> rfl) ⟨_, q' + 1 + 1, ⟨Ex.mk k2 e.n e.a e.kids, by rw [Ex.sz_eq] at hes; simp only [Ex.sz]; omega, by first | rfl | (rw [Ex.cs_eq]; done)⟩, by omega, by omega, rfl⟩ ?_ ?_ ?_ ?_) <;> (simp -implicitDefEqProofs (disch := omega) only [go_sem, rdObj, true_or, or_true]; done)
    | refine hQ _ _ (ret0 [(id, some (rdObj bs (q' + 1 + 1)))] rfl rfl rfl (by rw [Tryd.results34] <;> simp (maxSteps := 1000000) -implicitDefEqProofs (disch := omega) only [go_sem] <;> rfl) ⟨_, q' + 1 + 1, ⟨Ex.mk e.kind k3 e.a e.kids, by rw [Ex.sz_eq] at hes; simp only [Ex.sz]; omega, by first | rfl | (rw [Ex.cs_eq]; done)⟩, by omega, by omega, rfl⟩ ?_ ?_ ?_ ?_) <;> (simp -implicitDefEqProofs (disch := omega) only [go_sem, rdObj, true_or, or_true]; done)
    | refine hQ _ _ (ret0 [(id, some (rdObj bs (q2)))] rfl rfl rfl (by rw [Tryd.results34] <;> simp (maxSteps := 1000000) -implicitDefEqProofs (disch := omega) only [go_sem] <;> rfl) ⟨_, q2, ⟨Ex.mk e.kind e.n a e.kids, by rw [Ex.sz_eq] at hes; simp only [Ex.sz]; omega, by first | rfl | (rw [Ex.cs_eq]; done)⟩, by omega, by omega, rfl⟩ ?_ ?_ ?_ ?_) <;> (simp -implicitDefEqProofs (disch := omega) only [go_sem, rdObj, true_or, or_true]; done)
    | refine hQ _ _ (ret0 [(id, some (rdObj bs (q' + 1)))] rfl rfl rfl (by rw [Tryd.results34] <;> simp (maxSteps := 1000000) -implicitDefEqProofs (disch := omega) only [go_sem] <;> rfl) ⟨_, q' + 1, ⟨e0, by omega, by first | rfl | (rw [Ex.cs_eq]; done)⟩, by omega, by omega, rfl⟩ ?_ ?_ ?_ ?_) <;> (simp -implicitDefEqProofs (disch := omega) only [go_sem, rdObj, true_or, or_true]; done)
    | refine hQ _ _ (ret0 [(id, some (rdObj bs (q' + 1)))] rfl rfl rfl (by rw [Tryd.results34] <;> simp (maxSteps := 1000000) -implicitDefEqProofs (disch := omega) only [go_sem] <;> rfl) ⟨_, q' + 1, ⟨e0, by (have h4 : i1 = 4 := by omega); subst h4; omega, by first | rfl | (rw [Ex.cs_eq]; done)⟩, by omega, by omega, rfl⟩ ?_ ?_ ?_ ?_) <;> (simp -implicitDefEqProofs (disch := omega) only [go_sem, rdObj, true_or, or_true]; done)
    | refine hQ _ _ (ret0 [(id, some (rdObj bs (q' + 1)))] rfl rfl rfl (by rw [Tryd.results34] <;> simp (maxSteps := 1000000) -implicitDefEqProofs (disch := omega) only [go_sem] <;> rfl) ⟨_, q' + 1, ⟨e, by omega, by first | rfl | (rw [Ex.cs_eq]; done)⟩, by omega, by omega, rfl⟩ ?_ ?_ ?_ ?_) <;> (simp -implicitDefEqProofs (disch := omega) only [go_sem, rdObj, true_or, or_true]; done)
  refine g_ [0,2,3,9,22] ?_
  refine c_ (fun hc2 => ?_) fun hc2 => ?_
  ·
    refine wpM_regionK [2,3] rfl fun Q1 hQ1 => ?_
    refine S_ ?_
    refine call_fn (l := [(id, rdObj bs (q' + 1))]) (first := []) (cap := []) (ps := [.ptr id 0]) (l2AddrBent_ok id bs (q' + 1) hbs (by omega) (by omega)) Tryd.call33 rfl rfl rfl G_ T_ ?_
    rintro out ⟨_, q2, ⟨a, rfl⟩, hqc, hqd, rfl⟩
    refine S_ ?_
    refine hQ1 _ _ (S_ ?_);clear hQ1 Q1
    refine g_ [2] ?_
    refine wpM_ret ?_
    try refine S_ ?_
    first
    | refine hQ _ _ (ret0 [(id, some (rdObj bs (q' + 1 + 1)))] rfl rfl rfl (by rw [Tryd.results34] <;> simp (maxSteps := 1000000) -implicitDefEqProofs (disch := omega) only [go_sem] <;> rfl) ⟨_, q' + 1 + 1, ⟨Ex.mk k2 e.n e.a e.kids, by rw [Ex.sz_eq] at hes; simp only [Ex.sz]; omega, by first | rfl | (rw [Ex.cs_eq]; done)⟩, by omega, by omega, rfl⟩ ?_ ?_ ?_ ?_) <;> (simp -implicitDefEqProofs (disch := omega) only [go_sem, rdObj, true_or, or_true]; done)
    | refine hQ _ _ (ret0 [(id, some (rdObj bs (q' + 1 + 1)))] rfl rfl rfl (by rw [Tryd.results34] <;> simp (maxSteps := 1000000) -implicitDefEqProofs (disch := omega) only [go_sem] <;> rfl) ⟨_, q' + 1 + 1, ⟨Ex.mk e.kind k3 e.a e.kids, by rw [Ex.sz_eq] at hes; simp only [Ex.sz]; omega, by first | rfl | (rw [Ex.cs_eq]; done)⟩, by omega, by omega, rfl⟩ ?_ ?_ ?_ ?_) <;> (simp -implicitDefEqProofs (disch := omega) only [go_sem, rdObj, true_or, or_true]; done)
    | refine hQ _ _ (ret0 [(id, some (rdObj bs (q2)))] rfl rfl rfl (by rw [Tryd.results34] <;> simp (maxSteps := 1000000) -implicitDefEqProofs (disch := omega) only [go_sem] <;> rfl) ⟨_, q2, ⟨Ex.mk e.kind e.n a e.kids, by rw [Ex.sz_eq] at hes; simp only [Ex.sz]; omega, by first | rfl | (rw [Ex.cs_eq]; done)⟩, by omega, by omega, rfl⟩ ?_ ?_ ?_ ?_) <;> (simp -implicitDefEqProofs (disch := omega) only [go_sem, rdObj, true_or, or_true]; done)
    | refine hQ _ _ (ret0 [(id, some (rdObj bs (q' + 1)))] rfl rfl rfl (by rw [Tryd.results34] <;> simp (maxSteps := 1000000) -implicitDefEqProofs (disch := omega) only [go_sem] <;> rfl) ⟨_, q' + 1, ⟨e0, by omega, by first | rfl | (rw [Ex.cs_eq]; done)⟩, by omega, by omega, rfl⟩ ?_ ?_ ?_ ?_) <;> (simp -implicitDefEqProofs (disch := omega) only [go_sem, rdObj, true_or, or_true]; done)
    | refine hQ _ _ (ret0 [(id, some (rdObj bs (q' + 1)))] rfl rfl rfl (by rw [Tryd.results34] <;> simp (maxSteps := 1000000) -implicitDefEqProofs (disch := omega) only [go_sem] <;> rfl) ⟨_, q' + 1, ⟨e0, by (have h4 : i1 = 4 := by omega); subst h4; omega, by first | rfl | (rw [Ex.cs_eq]; done)⟩, by omega, by omega, rfl⟩ ?_ ?_ ?_ ?_) <;> (simp -implicitDefEqProofs (disch := omega) only [go_sem, rdObj, true_or, or_true]; done)
    | refine hQ _ _ (ret0 [(id, some (rdObj bs (q' + 1)))] rfl rfl rfl (by rw [Tryd.results34] <;> simp (maxSteps := 1000000) -implicitDefEqProofs (disch := omega) only [go_sem] <;> rfl) ⟨_, q' + 1, ⟨e, by omega, by first | rfl | (rw [Ex.cs_eq]; done)⟩, by omega, by omega, rfl⟩ ?_ ?_ ?_ ?_) <;> (simp -implicitDefEqProofs (disch := omega) only [go_sem, rdObj, true_or, or_true]; done)
  refine g_ [2,3,9,27] ?_
  refine c_ (fun hc3 => ?_) fun hc3 => ?_
  ·
    refine g_ [2,3,4] ?_
    refine n_ ?_
    refine wpM_loopS (fun s n s' => ∃ (i0 M0 : Nat) (e0 : Ex), i0 + n = 6 ∧ s.M ≤ M0 ∧ (e0.sz ≤ 31 + i0) ∧ s' = { s with env := setE 4 (.int .i64 (i0 : Nat)) s.env, l := setl (B + 1) (.cells 42 e0.cs) s.l, M := M0 }) (6) ?_ ?_
    ·
      refine .of' _ _ ⟨0, _, e, by omega, Nat.le_refl _, by omega, rfl⟩ ?_ ?_ ?_ <;> exact L_
    rintro n0 s' ⟨i0, M0, e0, hi0, hM0, hv0, rfl⟩
    try dsimp only at hM0
    try refine S_ ?_
    refine g_ [2,3,4,30] ?_
    refine c_ (fun hc4 => ?_) fun hc4 => ?_
    ·
      have hl0 : i0 < 6 := by omega
      refine g_ [2,3,4] ?_
      refine wpM_frz [M0] [(42, M0, 0, 1, Ex.csL [e0])] (by intro q hq; simp at hq; subst hq; simp -implicitDefEqProofs (disch := omega) only [go_sem]) (by intro q hq; simp only [List.mem_cons, List.not_mem_nil, or_false] at hq; subst hq; exact ⟨by simp, rowsOf_exc (T := 42) (l := [e0]) (by rw [← exc_one, Ex.cs_eq]; simp -implicitDefEqProofs (disch := omega) only [go_sem])⟩) ?_
      simp -implicitDefEqProofs (disch := omega) only [go_sem, rdObj]
      refine g_ [2,3,4] ?_
      refine .of' _ _ ⟨n0 - 1, by omega, i0 + 1, _, Ex.mk 10 0 ⟨0, 0⟩ [e0], by omega, M_, ?_, rfl⟩ L_ L_ L_
      simp only [Ex.sz, Ex.szL]; omega
    refine g_ [2] ?_
    refine wpM_ret ?_
    try refine S_ ?_
    first
    | refine hQ _ _ (ret0 [(id, some (rdObj bs (q' + 1 + 1)))] rfl rfl rfl (by rw [Tryd.results34] <;> simp (maxSteps := 1000000) -implicitDefEqProofs (disch := omega) only [go_sem] <;> rfl) ⟨_, q' + 1 + 1, ⟨Ex.mk k2 e.n e.a e.kids, by rw [Ex.sz_eq] at hes; simp only [Ex.sz]; omega, by first | rfl | (rw [Ex.cs_eq]; done)⟩, by omega, by omega, rfl⟩ ?_ ?_ ?_ ?_) <;> (simp -implicitDefEqProofs (disch := omega) only [go_sem, rdObj, true_or, or_true]; done)
    | refine hQ _ _ (ret0 [(id, some (rdObj bs (q' + 1 + 1)))] rfl rfl rfl (by rw [Tryd.results34] <;> simp (maxSteps := 1000000) -implicitDefEqProofs (disch := omega) only [go_sem] <;> rfl) ⟨_, q' + 1 + 1, ⟨Ex.mk e.kind k3 e.a e.kids, by rw [Ex.sz_eq] at hes; simp only [Ex.sz]; omega, by first | rfl | (rw [Ex.cs_eq]; done)⟩, by omega, by omega, rfl⟩ ?_ ?_ ?_ ?_) <;> (simp -implicitDefEqProofs (disch := omega) only [go_sem, rdObj, true_or, or_true]; done)
    | refine hQ _ _ (ret0 [(id, some (rdObj bs (q2)))] rfl rfl rfl (by rw [Tryd.results34] <;> simp (maxSteps := 1000000) -implicitDefEqProofs (disch := omega) only [go_sem] <;> rfl) ⟨_, q2, ⟨Ex.mk e.kind e.n a e.kids, by rw [Ex.sz_eq] at hes; simp only [Ex.sz]; omega, by first | rfl | (rw [Ex.cs_eq]; done)⟩, by omega, by omega, rfl⟩ ?_ ?_ ?_ ?_) <;> (simp -implicitDefEqProofs (disch := omega) only [go_sem, rdObj, true_or, or_true]; done)
    | refine hQ _ _ (ret0 [(id, some (rdObj bs (q' + 1)))] rfl rfl rfl (by rw [Tryd.results34] <;> simp (maxSteps := 1000000) -implicitDefEqProofs (disch := omega) only [go_sem] <;> rfl) ⟨_, q' + 1, ⟨e0, by omega, by first | rfl | (rw [Ex.cs_eq]; done)⟩, by omega, by omega, rfl⟩ ?_ ?_ ?_ ?_) <;> (simp -implicitDefEqProofs (disch := omega) only [go_sem, rdObj, true_or, or_true]; done)
    | refine hQ _ _ (ret0 [(id, some (rdObj bs (q' + 1)))] rfl rfl rfl (by rw [Tryd.results34] <;> simp (maxSteps := 1000000) -implicitDefEqProofs (disch := omega) only [go_sem] <;> rfl) ⟨_, q' + 1, ⟨e0, by (have h4 : i1 = 4 := by omega); subst h4; omega, by first | rfl | (rw [Ex.cs_eq]; done)⟩, by omega, by omega, rfl⟩ ?_ ?_ ?_ ?_) <;> (simp -implicitDefEqProofs (disch := omega) only [go_sem, rdObj, true_or, or_true]; done)
    | refine hQ _ _ (ret0 [(id, some (rdObj bs (q' + 1)))] rfl rfl rfl (by rw [Tryd.results34] <;> simp (maxSteps := 1000000) -implicitDefEqProofs (disch := omega) only [go_sem] <;> rfl) ⟨_, q' + 1, ⟨e, by omega, by first | rfl | (rw [Ex.cs_eq]; done)⟩, by omega, by omega, rfl⟩ ?_ ?_ ?_ ?_) <;> (simp -implicitDefEqProofs (disch := omega) only [go_sem, rdObj, true_or, or_true]; done)
  refine g_ [2,3,36] ?_
  refine c_ (fun hc5 => ?_) fun hc5 => ?_
  ·
    refine g_ [2,3,5] ?_
    refine n_ ?_
    refine wpM_loopS (fun s n s' => ∃ (i1 M1 : Nat) (e0 : Ex), i1 + n = 4 ∧ s.M ≤ M1 ∧ (e0.sz + 1 ≤ 32 * 2 ^ i1) ∧ s' = { s with env := setE 5 (.int .i64 (i1 : Nat)) s.env, l := setl (B + 1) (.cells 42 e0.cs) s.l, M := M1 }) (4) ?_ ?_
    ·
      refine .of' _ _ ⟨0, _, e, by omega, Nat.le_refl _, by simp; omega, rfl⟩ ?_ ?_ ?_ <;> exact L_
    rintro n1 s' ⟨i1, M1, e0, hi1, hM1, hv1, rfl⟩
    try dsimp only at hM1
    try refine S_ ?_
    refine g_ [2,3,5,39] ?_
    refine c_ (fun hc6 => ?_) fun hc6 => ?_
    ·
      have hl1 : i1 < 4 := by omega
      have hp2 : 2 ^ i1 ≤ 8 := by
        have : i1 = 0 ∨ i1 = 1 ∨ i1 = 2 ∨ i1 = 3 := by omega
        rcases this with rfl | rfl | rfl | rfl <;> simp
      have hsz : e0.sz ≤ 1000 := by omega
      refine n_ ?_
      refine dr_ mixed [2,3,5] 1 1 [B + 1, M1] [⟨[3],[0],[],[],false⟩,⟨[3],[0],[],[],false⟩,⟨[43],[],[],[],true⟩,⟨[42,44],[],[],[1],false⟩,⟨[45],[],[],[],false⟩,⟨[3,46],[0],[0],[],false⟩] [0,1,2,3,4,5] [[],[],[1],[0,1,2],[0,1,2,3],[0,1,2,3,4]] 2 (htbl := by simp; omega) (hnm := by simp) ?_
      intro O A K hO hA hK;simp only [atL_cons,atL_nil,Nat.reduceAdd,Nat.zero_add] at hO hA
      refine SO_ ?_
      refine lp_ (l3Copy_ok e0.sz e0 (Nat.le_refl _) (by omega)) Tryd.call53 ?_
      refine hK _ (S_ ?_);clear hK K hO hA O A
      refine wpM_frz [M1] [(42, M1, 0, 2, Ex.csL [e0, e0])] (by intro q hq; simp at hq; subst hq; simp -implicitDefEqProofs (disch := omega) only [go_sem]) (by intro q hq; simp only [List.mem_cons, List.not_mem_nil, or_false] at hq; subst hq; exact ⟨by simp, rowsOf_exc (T := 42) (l := [e0, e0]) (by rw [show [e0, e0] = [e0] ++ [e0] from rfl, ← exc_app, ← exc_one, Ex.cs_eq]; simp -implicitDefEqProofs (disch := omega) only [go_sem])⟩) ?_
      simp -implicitDefEqProofs (disch := omega) only [go_sem, rdObj]
      refine g_ [2,3,5] ?_
      refine .of' _ _ ⟨n1 - 1, by omega, i1 + 1, _, Ex.mk 3 0 ⟨0, 0⟩ [e0, e0], by omega, M_, ?_, rfl⟩ L_ L_ L_
      simp only [Ex.sz, Ex.szL, Nat.pow_succ]; omega
    refine g_ [2] ?_
    refine wpM_ret ?_
    try refine S_ ?_
    first
    | refine hQ _ _ (ret0 [(id, some (rdObj bs (q' + 1 + 1)))] rfl rfl rfl (by rw [Tryd.results34] <;> simp (maxSteps := 1000000) -implicitDefEqProofs (disch := omega) only [go_sem] <;> rfl) ⟨_, q' + 1 + 1, ⟨Ex.mk k2 e.n e.a e.kids, by rw [Ex.sz_eq] at hes; simp only [Ex.sz]; omega, by first | rfl | (rw [Ex.cs_eq]; done)⟩, by omega, by omega, rfl⟩ ?_ ?_ ?_ ?_) <;> (simp -implicitDefEqProofs (disch := omega) only [go_sem, rdObj, true_or, or_true]; done)
    | refine hQ _ _ (ret0 [(id, some (rdObj bs (q' + 1 + 1)))] rfl rfl rfl (by rw [Tryd.results34] <;> simp (maxSteps := 1000000) -implicitDefEqProofs (disch := omega) only [go_sem] <;> rfl) ⟨_, q' + 1 + 1, ⟨Ex.mk e.kind k3 e.a e.kids, by rw [Ex.sz_eq] at hes; simp only [Ex.sz]; omega, by first | rfl | (rw [Ex.cs_eq]; done)⟩, by omega, by omega, rfl⟩ ?_ ?_ ?_ ?_) <;> (simp -implicitDefEqProofs (disch := omega) only [go_sem, rdObj, true_or, or_true]; done)
    | refine hQ _ _ (ret0 [(id, some (rdObj bs (q2)))] rfl rfl rfl (by rw [Tryd.results34] <;> simp (maxSteps := 1000000) -implicitDefEqProofs (disch := omega) only [go_sem] <;> rfl) ⟨_, q2, ⟨Ex.mk e.kind e.n a e.kids, by rw [Ex.sz_eq] at hes; simp only [Ex.sz]; omega, by first | rfl | (rw [Ex.cs_eq]; done)⟩, by omega, by omega, rfl⟩ ?_ ?_ ?_ ?_) <;> (simp -implicitDefEqProofs (disch := omega) only [go_sem, rdObj, true_or, or_true]; done)
    | refine hQ _ _ (ret0 [(id, some (rdObj bs (q' + 1)))] rfl rfl rfl (by rw [Tryd.results34] <;> simp (maxSteps := 1000000) -implicitDefEqProofs (disch := omega) only [go_sem] <;> rfl) ⟨_, q' + 1, ⟨e0, by omega, by first | rfl | (rw [Ex.cs_eq]; done)⟩, by omega, by omega, rfl⟩ ?_ ?_ ?_ ?_) <;> (simp -implicitDefEqProofs (disch := omega) only [go_sem, rdObj, true_or, or_true]; done)
    | refine hQ _ _ (ret0 [(id, some (rdObj bs (q' + 1)))] rfl rfl rfl (by rw [Tryd.results34] <;> simp (maxSteps := 1000000) -implicitDefEqProofs (disch := omega) only [go_sem] <;> rfl) ⟨_, q' + 1, ⟨e0, by (have h4 : i1 = 4 := by omega); subst h4; omega, by first | rfl | (rw [Ex.cs_eq]; done)⟩, by omega, by omega, rfl⟩ ?_ ?_ ?_ ?_) <;> (simp -implicitDefEqProofs (disch := omega) only [go_sem, rdObj, true_or, or_true]; done)
    | refine hQ _ _ (ret0 [(id, some (rdObj bs (q' + 1)))] rfl rfl rfl (by rw [Tryd.results34] <;> simp (maxSteps := 1000000) -implicitDefEqProofs (disch := omega) only [go_sem] <;> rfl) ⟨_, q' + 1, ⟨e, by omega, by first | rfl | (rw [Ex.cs_eq]; done)⟩, by omega, by omega, rfl⟩ ?_ ?_ ?_ ?_) <;> (simp -implicitDefEqProofs (disch := omega) only [go_sem, rdObj, true_or, or_true]; done)
  refine g_ [2] ?_
  refine wpM_ret ?_
  try refine S_ ?_
  first
  | refine hQ _ _ (ret0 [(id, some (rdObj bs (q' + 1 + 1)))] rfl rfl rfl (by rw [Tryd.results34] <;> simp (maxSteps := 1000000) -implicitDefEqProofs (disch := omega) only [go_sem] <;> rfl) ⟨_, q' + 1 + 1, ⟨Ex.mk k2 e.n e.a e.kids, by rw [Ex.sz_eq] at hes; simp only [Ex.sz]; omega, by first | rfl | (rw [Ex.cs_eq]; done)⟩, by omega, by omega, rfl⟩ ?_ ?_ ?_ ?_) <;> (simp -implicitDefEqProofs (disch := omega) only [go_sem, rdObj, true_or, or_true]; done)
  | refine hQ _ _ (ret0 [(id, some (rdObj bs (q' + 1 + 1)))] rfl rfl rfl (by rw [Tryd.results34] <;> simp (maxSteps := 1000000) -implicitDefEqProofs (disch := omega) only [go_sem] <;> rfl) ⟨_, q' + 1 + 1, ⟨Ex.mk e.kind k3 e.a e.kids, by rw [Ex.sz_eq] at hes; simp only [Ex.sz]; omega, by first | rfl | (rw [Ex.cs_eq]; done)⟩, by omega, by omega, rfl⟩ ?_ ?_ ?_ ?_) <;> (simp -implicitDefEqProofs (disch := omega) only [go_sem, rdObj, true_or, or_true]; done)
  | refine hQ _ _ (ret0 [(id, some (rdObj bs (q2)))] rfl rfl rfl (by rw [Tryd.results34] <;> simp (maxSteps := 1000000) -implicitDefEqProofs (disch := omega) only [go_sem] <;> rfl) ⟨_, q2, ⟨Ex.mk e.kind e.n a e.kids, by rw [Ex.sz_eq] at hes; simp only [Ex.sz]; omega, by first | rfl | (rw [Ex.cs_eq]; done)⟩, by omega, by omega, rfl⟩ ?_ ?_ ?_ ?_) <;> (simp -implicitDefEqProofs (disch := omega) only [go_sem, rdObj, true_or, or_true]; done)
  | refine hQ _ _ (ret0 [(id, some (rdObj bs (q' + 1)))] rfl rfl rfl (by rw [Tryd.results34] <;> simp (maxSteps := 1000000) -implicitDefEqProofs (disch := omega) only [go_sem] <;> rfl) ⟨_, q' + 1, ⟨e0, by omega, by first | rfl | (rw [Ex.cs_eq]; done)⟩, by omega, by omega, rfl⟩ ?_ ?_ ?_ ?_) <;> (simp -implicitDefEqProofs (disch := omega) only [go_sem, rdObj, true_or, or_true]; done)
  | refine hQ _ _ (ret0 [(id, some (rdObj bs (q' + 1)))] rfl rfl rfl (by rw [Tryd.results34] <;> simp (maxSteps := 1000000) -implicitDefEqProofs (disch := omega) only [go_sem] <;> rfl) ⟨_, q' + 1, ⟨e0, by (have h4 : i1 = 4 := by omega); subst h4; omega, by first | rfl | (rw [Ex.cs_eq]; done)⟩, by omega, by omega, rfl⟩ ?_ ?_ ?_ ?_) <;> (simp -implicitDefEqProofs (disch := omega) only [go_sem, rdObj, true_or, or_true]; done)
  | refine hQ _ _ (ret0 [(id, some (rdObj bs (q' + 1)))] rfl rfl rfl (by rw [Tryd.results34] <;> simp (maxSteps := 1000000) -implicitDefEqProofs (disch := omega) only [go_sem] <;> rfl) ⟨_, q' + 1, ⟨e, by omega, by first | rfl | (rw [Ex.cs_eq]; done)⟩, by omega, by omega, rfl⟩ ?_ ?_ ?_ ?_) <;> (simp -implicitDefEqProofs (disch := omega) only [go_sem, rdObj, true_or, or_true]; done)
end Go.Proofs.YtnmfmeehmieifaaDoor
namespace Go.Proofs.YtnmfmeehmieifaaDoor
open Go Sg
set_option linter.unusedSectionVars false
variable [Glob]
set_option maxRecDepth 100000
set_option linter.unusedSimpArgs false
set_option linter.unusedVariables false
set_option maxHeartbeats 4000000
inductive Sm where
  | mk (kind : Int) (to' : AD) (e : Ex) (th el : List Sm)
  deriving Inhabited
def Sm.kind : Sm → Int | .mk k _ _ _ _ => k
def Sm.to' : Sm → AD | .mk _ a _ _ _ => a
def Sm.e : Sm → Ex | .mk _ _ e _ _ => e
def Sm.th : Sm → List Sm | .mk _ _ _ l _ => l
def Sm.el : Sm → List Sm | .mk _ _ _ _ l => l
mutual
def Sm.sz : Sm → Nat | .mk _ _ e th el => 1 + e.sz + Sm.szL th + Sm.szL el
def Sm.szL : List Sm → Nat | [] => 0 | s :: l => s.sz + Sm.szL l
end
theorem Sm.sz_eq (s : Sm) : s.sz = 1 + s.e.sz + Sm.szL s.th + Sm.szL s.el := by cases s; simp only [Sm.sz, Sm.e, Sm.th, Sm.el]
theorem Sm.len_szL (l : List Sm) : l.length ≤ Sm.szL l := by
  induction l with
  | nil => simp
  | cons s l ih => simp only [List.length_cons, Sm.szL]; have := s.sz_eq; omega
theorem Sm.get_szL (l : List Sm) (k : Nat) (h : k < l.length) : (l.getD k default).sz ≤ Sm.szL l := by
  induction l generalizing k with
  | nil => simp at h
  | cons e l ih =>
    simp only [Sm.szL]
    cases k with
    | zero => simp
    | succ k =>
      have := ih k (by simpa using h)
      simp only [List.getD_cons_succ]; omega
def Sm.plain (s : Sm) : Bool := if s.kind == 1 then s.to'.ok && s.to'.kind != 1 && (s.th.length : Int) == 0 && (s.el.length : Int) == 0
  else if s.kind == 2 then s.to'.kind == 0 && s.to'.at' == 0
  else if s.kind == 3 then s.to'.kind == 0 && s.to'.at' == 0 && (s.el.length : Int) == 0 else false
end Go.Proofs.YtnmfmeehmieifaaDoor
namespace Go.Proofs.YtnmfmeehmieifaaDoor
open Go Sg
set_option linter.unusedSectionVars false
variable [Glob]
set_option maxRecDepth 100000
set_option linter.unusedSimpArgs false
set_option linter.unusedVariables false
set_option maxHeartbeats 4000000
theorem Sm.szL_app (l : List Sm) (e : Sm) : Sm.szL (l ++ [e]) = Sm.szL l + e.sz := by
  induction l with
  | nil => simp [Sm.szL]
  | cons x l ih => simp only [List.cons_append, Sm.szL, ih]; omega
@[go_sem] theorem Sm.mk_kind (k : Int) (a : AD) (e : Ex) (th el : List Sm) : (Sm.mk k a e th el).kind = k := rfl
@[go_sem] theorem Sm.mk_to (k : Int) (a : AD) (e : Ex) (th el : List Sm) : (Sm.mk k a e th el).to' = a := rfl
@[go_sem] theorem Sm.mk_e (k : Int) (a : AD) (e : Ex) (th el : List Sm) : (Sm.mk k a e th el).e = e := rfl
@[go_sem] theorem Sm.mk_th (k : Int) (a : AD) (e : Ex) (th el : List Sm) : (Sm.mk k a e th el).th = th := rfl
@[go_sem] theorem Sm.mk_el (k : Int) (a : AD) (e : Ex) (th el : List Sm) : (Sm.mk k a e th el).el = el := rfl
end Go.Proofs.YtnmfmeehmieifaaDoor
namespace Go.Proofs.YtnmfmeehmieifaaDoor
open Go Sg
set_option linter.unusedSectionVars false
variable [Glob]
set_option maxRecDepth 100000
set_option linter.unusedSimpArgs false
set_option linter.unusedVariables false
set_option maxHeartbeats 4000000
def lb : Nat → Int
  | 0 => 211
  | d + 1 => 1 + 3 * (70 + 2 * lb d)
end Go.Proofs.YtnmfmeehmieifaaDoor
namespace Go.Proofs.YtnmfmeehmieifaaDoor
open Go Sg
set_option linter.unusedSectionVars false
variable [Glob]
set_option maxRecDepth 100000
set_option linter.unusedSimpArgs false
set_option linter.unusedVariables false
set_option maxHeartbeats 4000000
end Go.Proofs.YtnmfmeehmieifaaDoor
namespace Go.Proofs.YtnmfmeehmieifaaDoor
open Go Sg
set_option linter.unusedSectionVars false
variable [Glob]
set_option maxRecDepth 100000
set_option linter.unusedSimpArgs false
set_option linter.unusedVariables false
set_option maxHeartbeats 4000000
structure DRun (m : MM) (l : List Sm) (F : Int) : Prop where
  m : m.Sm
  l : Sm.szL l ≤ 1000000
  F0 : -1 ≤ F
  F1 : F ≤ 101
end Go.Proofs.YtnmfmeehmieifaaDoor
namespace Go.Proofs.YtnmfmeehmieifaaDoor
open Go Sg
set_option linter.unusedSectionVars false
variable [Glob]
set_option maxRecDepth 100000
set_option linter.unusedSimpArgs false
set_option linter.unusedVariables false
set_option maxHeartbeats 4000000
def doNil (s : Sm) : Bool := !(s.kind == 1 || s.kind == 2 || s.kind == 3)
def badS (n : Int) (deep : Int) (s : Sm) : Bool := decide (n > 16) || decide (deep ≥ 4) || doNil s || !s.plain || !(vis s.e 0 0).isSome
mutual
def Sm.vis : Sm → Nat → Nat → Option Nat
  | .mk k a e th el, d, c => if badS ((c : Int) + 1) (d : Int) (.mk k a e th el) then none else match Sm.visL th (d + 1) (c + 1) with
    | some c2 => Sm.visL el (d + 1) c2
    | none => none
def Sm.visL : List Sm → Nat → Nat → Option Nat
  | [], _, c => some c
  | s :: l, d, c => match s.vis d c with
    | some c2 => Sm.visL l d c2
    | none => none
end
end Go.Proofs.YtnmfmeehmieifaaDoor
namespace Go.Proofs.YtnmfmeehmieifaaDoor
open Go Sg
set_option linter.unusedSectionVars false
variable [Glob]
set_option maxRecDepth 100000
set_option linter.unusedSimpArgs false
set_option linter.unusedVariables false
set_option maxHeartbeats 4000000
theorem Sm.vis_eq (s : Sm) (d c : Nat) : s.vis d c = if badS ((c : Int) + 1) (d : Int) s then none else match Sm.visL s.th (d + 1) (c + 1) with
    | some c2 => Sm.visL s.el (d + 1) c2
    | none => none := by cases s; simp only [Sm.vis, Sm.th, Sm.el] <;> rfl
theorem Sm.visL_app (l : List Sm) : ∀ (r : List Sm) (d c : Nat), Sm.visL (l ++ r) d c = match Sm.visL l d c with
    | some c2 => Sm.visL r d c2
    | none => none := by
  induction l with
  | nil => intro r d c; rfl
  | cons s l ih =>
    intro r d c
    simp only [List.cons_append, Sm.visL]
    cases s.vis d c with
    | none => rfl
    | some c2 => exact ih r d c2
theorem Sm.visL_take (l : List Sm) (d c i : Nat) (h : i < l.length) : Sm.visL (l.take (i + 1)) d c = match Sm.visL (l.take i) d c with
    | some c2 => (l.getD i default).vis d c2
    | none => none := by
  rw [List.take_succ_eq_append_getElem h, Sm.visL_app]
  cases Sm.visL (l.take i) d c with
  | none => rfl
  | some c2 =>
    simp only [Sm.visL, List.getD, List.getElem?_eq_getElem h, Option.getD_some]
    cases (l[i]).vis d c2 <;> rfl
theorem Sm.visL_none {l : List Sm} {d c i : Nat} (h : Sm.visL (l.take i) d c = none) : Sm.visL l d c = none := by
  have := Sm.visL_app (l.take i) (l.drop i) d c
  rw [List.take_append_drop, h] at this
  exact this
end Go.Proofs.YtnmfmeehmieifaaDoor
namespace Go.Proofs.YtnmfmeehmieifaaDoor
open Go Sg
set_option linter.unusedSectionVars false
variable [Glob]
set_option maxRecDepth 100000
set_option linter.unusedSimpArgs false
set_option linter.unusedVariables false
set_option maxHeartbeats 4000000
end Go.Proofs.YtnmfmeehmieifaaDoor
namespace Go.Proofs.YtnmfmeehmieifaaDoor
open Go Sg
set_option maxRecDepth 100000
set_option linter.unusedSimpArgs false
set_option linter.unusedVariables false
set_option linter.unusedSectionVars false
set_option maxHeartbeats 4000000
variable [TabK]
end Go.Proofs.YtnmfmeehmieifaaDoor
namespace Go.Proofs.YtnmfmeehmieifaaDoor
open Go Sg
set_option maxRecDepth 100000
set_option linter.unusedSimpArgs false
set_option linter.unusedVariables false
set_option linter.unusedSectionVars false
set_option maxHeartbeats 4000000
variable [TabK]
def wh (c : MM → Bool) (b : MM → Nat → MM × Nat × Bool) : Nat → MM → Nat → MM × Nat × Bool
  | 0, m, _ => (m, 0, true)
  | g + 1, m, F => if c m then (if (b m F).2.2 then b m F else if (b m F).2.1 = 0 then ((b m F).1, 0, true) else wh c b g (b m F).1 ((b m F).2.1 - 1)) else (m, F, false)
mutual
def Sm.ex : Sm → MM → Nat → MM × Nat × Bool
  | .mk k a e th el, m, F => if k == 1 then (m.put a (e.of m), F, false)
    else if k == 3 then wh (fun m => e.of m != 0) (fun m F => Sm.exL th m F) (F + 1) m F
    else if e.of m != 0 then Sm.exL th m F else Sm.exL el m F
def Sm.exL : List Sm → MM → Nat → MM × Nat × Bool
  | [], m, F => (m, F, false)
  | s :: l, m, F => if (s.ex m F).2.2 then s.ex m F else Sm.exL l (s.ex m F).1 (s.ex m F).2.1
end
theorem wh_le {c : MM → Bool} {b : MM → Nat → MM × Nat × Bool} (h : ∀ m F, (b m F).2.1 ≤ F) : ∀ g m F, (wh c b g m F).2.1 ≤ F
  | 0, m, F => by simp [wh]
  | g + 1, m, F => by
    simp only [wh]
    split
    · split
      · exact h m F
      · split
        · simp
        · exact Nat.le_trans (wh_le h g _ _) (by have := h m F; omega)
    · simp
theorem wh_six {c : MM → Bool} {b : MM → Nat → MM × Nat × Bool} (h : ∀ m F, m.Six → (b m F).1.Six) : ∀ g m F, m.Six → (wh c b g m F).1.Six
  | 0, m, F => fun hm => hm
  | g + 1, m, F => fun hm => by
    simp only [wh]
    split
    · split
      · exact h m F hm
      · split
        · exact h m F hm
        · exact wh_six h g _ _ (h m F hm)
    · exact hm
mutual
theorem Sm.ex_le : (s : Sm) → (m : MM) → (F : Nat) → (s.ex m F).2.1 ≤ F
  | .mk k a e th el, m, F => by
    simp only [Sm.ex]
    split
    · simp
    · split
      · exact wh_le (fun m F => Sm.exL_le th m F) _ _ _
      · split
        · exact Sm.exL_le th m F
        · exact Sm.exL_le el m F
theorem Sm.exL_le : (l : List Sm) → (m : MM) → (F : Nat) → (Sm.exL l m F).2.1 ≤ F
  | [], m, F => by simp [Sm.exL]
  | s :: l, m, F => by
    simp only [Sm.exL]
    split
    · exact Sm.ex_le s m F
    · exact Nat.le_trans (Sm.exL_le l _ _) (Sm.ex_le s m F)
end
mutual
theorem Sm.ex_six : (s : Sm) → (m : MM) → (F : Nat) → m.Six → (s.ex m F).1.Six
  | .mk k a e th el, m, F => fun hm => by
    simp only [Sm.ex]
    split
    · exact MM.put_six hm _ _
    · split
      · exact wh_six (fun m F hm => Sm.exL_six th m F hm) _ _ _ hm
      · split
        · exact Sm.exL_six th m F hm
        · exact Sm.exL_six el m F hm
theorem Sm.exL_six : (l : List Sm) → (m : MM) → (F : Nat) → m.Six → (Sm.exL l m F).1.Six
  | [], m, F => fun hm => hm
  | s :: l, m, F => fun hm => by
    simp only [Sm.exL]
    split
    · exact Sm.ex_six s m F hm
    · exact Sm.exL_six l _ _ (Sm.ex_six s m F hm)
end
end Go.Proofs.YtnmfmeehmieifaaDoor
namespace Go.Proofs.YtnmfmeehmieifaaDoor
open Go Sg
set_option maxRecDepth 100000
set_option linter.unusedSimpArgs false
set_option linter.unusedVariables false
set_option linter.unusedSectionVars false
set_option maxHeartbeats 4000000
variable [TabK]
end Go.Proofs.YtnmfmeehmieifaaDoor
namespace Go.Proofs.YtnmfmeehmieifaaDoor
open Go Sg
set_option maxRecDepth 100000
set_option linter.unusedSimpArgs false
set_option linter.unusedVariables false
set_option linter.unusedSectionVars false
set_option maxHeartbeats 4000000
variable [TabK]
end Go.Proofs.YtnmfmeehmieifaaDoor
namespace Go.Proofs.YtnmfmeehmieifaaDoor
open Go Sg
set_option maxRecDepth 100000
set_option linter.unusedSimpArgs false
set_option linter.unusedVariables false
set_option linter.unusedSectionVars false
set_option maxHeartbeats 4000000
variable [TabK]
theorem Ex.ext' {a b : Ex} (h1 : a.kind = b.kind) (h2 : a.n = b.n) (h3 : a.a = b.a) (h4 : a.kids = b.kids) : a = b := by
  cases a; cases b
  simp only [Ex.kind, Ex.n, Ex.a, Ex.kids] at h1 h2 h3 h4
  subst h1; subst h2; subst h3; subst h4; rfl
open Classical in
noncomputable def same {α : Type} (a b : α) : Bool := decide (a = b)
theorem same_iff {α : Type} {a b : α} : same a b = true ↔ a = b := by simp [same]
theorem same_no {α : Type} {a b : α} (h : a ≠ b) : same a b = false := by simp [same, h]
theorem same_self {α : Type} (a : α) : same a a = true := by simp [same]
def numX (n : Int) : Ex := .mk 1 n ⟨0, 0⟩ []
def Ex.isN (e : Ex) (n : Int) : Bool := e.kind == 1 && e.n == n
noncomputable def slim2 (e a b : Ex) : Ex :=
  if a.kind == 1 && b.kind == 1 then numX (two e.kind a.n b.n)
  else if e.kind == 3 && b.isN 0 || e.kind == 4 && b.isN 0 || e.kind == 5 && b.isN 1 then a
  else if e.kind == 3 && a.isN 0 || e.kind == 5 && a.isN 1 then b
  else if e.kind == 5 && (a.isN 0 || b.isN 0) || e.kind == 8 && (a.isN 0 || b.isN 0) then numX 0
  else if e.kind == 7 && same a b then numX 1
  else if (e.kind == 6 || e.kind == 4) && same a b then numX 0
  else e
noncomputable def slimN (e : Ex) : Ex :=
  if e.kind == 10 && (e.kids.getD 0 default).kind == 1 then numX (numIs (!((e.kids.getD 0 default).n != 0)))
  else if (e.kids.length : Int) == 2 then slim2 e (e.kids.getD 0 default) (e.kids.getD 1 default) else e
mutual
noncomputable def Ex.slim : Ex → Ex
  | .mk k n a l => slimN (.mk k n a (Ex.slimL l))
noncomputable def Ex.slimL : List Ex → List Ex
  | [] => []
  | e :: l => e.slim :: Ex.slimL l
end
def Sm.no (s : Sm) : Bool := (s.kind == 1 && s.e.kind == 2 && (s.e.a.kind == s.to'.kind && s.e.a.at' == s.to'.at')) || (s.kind == 3 && s.e.isN 0) || (s.kind == 2 && (s.th.length : Int) == 0 && (s.el.length : Int) == 0)
def rb (s : Sm) : List Sm := if s.no then [] else if s.kind == 2 && s.e.kind == 1 && s.e.n != 0 then s.th else if s.kind == 2 && s.e.kind == 1 then s.el else [s]
mutual
noncomputable def Sm.sl : Sm → List Sm
  | .mk k a e th el => rb (.mk k a e.slim (Sm.slL th) (Sm.slL el))
noncomputable def Sm.slL : List Sm → List Sm
  | [] => []
  | s :: l => s.sl ++ Sm.slL l
end
theorem slim2_sz {e : Ex} (h : e.kids.length = 2) : (slim2 e (e.kids.getD 0 default) (e.kids.getD 1 default)).sz ≤ e.sz := by
  have h0 := Ex.kid_sz (e := e) (k := 0) (by omega)
  have h1 := Ex.kid_sz (e := e) (k := 1) (by omega)
  have hn : ∀ n, (numX n).sz = 1 := fun n => by simp [numX, Ex.sz, Ex.szL]
  unfold slim2
  repeat' split
  all_goals first | omega | (rw [hn]; omega)
theorem slimN_sz (e : Ex) : (slimN e).sz ≤ e.sz := by
  have hn : ∀ n, (numX n).sz = 1 := fun n => by simp [numX, Ex.sz, Ex.szL]
  have hp := e.sz_pos
  unfold slimN
  split
  · rw [hn]; omega
  · split
    · rename_i h2
      exact slim2_sz (by simp at h2; omega)
    · exact Nat.le_refl _
mutual
theorem Ex.slim_sz : (e : Ex) → e.slim.sz ≤ e.sz
  | .mk k n a l => by
    rw [Ex.slim]
    refine Nat.le_trans (slimN_sz _) ?_
    simp only [Ex.sz]
    have := Ex.slimL_sz l
    omega
theorem Ex.slimL_sz : (l : List Ex) → Ex.szL (Ex.slimL l) ≤ Ex.szL l
  | [] => Nat.le_refl _
  | e :: l => by
    simp only [Ex.slimL, Ex.szL]
    have := Ex.slim_sz e
    have := Ex.slimL_sz l
    omega
end
theorem many_sz (d : Nat) : ∀ e : Ex, formD d e = true → manyD d e = e.sz := by
  induction d with
  | zero => intro e h; cases h
  | succ d ih =>
    intro e h
    have hk : ∀ x ∈ e.kids, formD d x = true := by
      intro x hx
      obtain ⟨i, hi, rfl⟩ := List.getElem_of_mem hx
      have := (form_inv h).2.2 i hi
      rw [List.getD_eq_getElem?_getD, List.getElem?_eq_getElem hi] at this
      exact this
    rw [Ex.sz_eq, manyD]
    have : ∀ l : List Ex, (∀ x ∈ l, formD d x = true) → (l.map (manyD d)).sum = Ex.szL l := by
      intro l
      induction l with
      | nil => intro _; rfl
      | cons x l ihl =>
        intro hl
        simp only [List.map_cons, List.sum_cons, Ex.szL]
        rw [ih x (hl x (by simp)), ihl fun y hy => hl y (by simp [hy])]
    rw [this _ hk]
mutual
def Sm.cnt : Sm → Nat | .mk _ _ _ th el => 1 + Sm.cntL th + Sm.cntL el
def Sm.cntL : List Sm → Nat | [] => 0 | s :: l => s.cnt + Sm.cntL l
end
theorem Sm.cnt_eq (s : Sm) : s.cnt = 1 + Sm.cntL s.th + Sm.cntL s.el := by cases s; simp only [Sm.cnt, Sm.th, Sm.el]
theorem Sm.cntL_app (l r : List Sm) : Sm.cntL (l ++ r) = Sm.cntL l + Sm.cntL r := by
  induction l with
  | nil => simp [Sm.cntL]
  | cons s l ih => simp only [List.cons_append, Sm.cntL, ih]; omega
theorem rb_cnt (s : Sm) : Sm.cntL (rb s) ≤ s.cnt := by
  have := s.cnt_eq
  unfold rb
  repeat' split
  · simp [Sm.cntL]
  · omega
  · omega
  · simp [Sm.cntL]
mutual
theorem Sm.sl_cnt : (s : Sm) → Sm.cntL s.sl ≤ s.cnt
  | .mk k a e th el => by
    rw [Sm.sl]
    refine Nat.le_trans (rb_cnt _) ?_
    simp only [Sm.cnt]
    have := Sm.slL_cnt th
    have := Sm.slL_cnt el
    omega
theorem Sm.slL_cnt : (l : List Sm) → Sm.cntL (Sm.slL l) ≤ Sm.cntL l
  | [] => Nat.le_refl _
  | s :: l => by
    simp only [Sm.slL, Sm.cntL_app, Sm.cntL]
    have := Sm.sl_cnt s
    have := Sm.slL_cnt l
    omega
end
theorem rb_sz (s : Sm) : Sm.szL (rb s) ≤ s.sz := by
  have := s.sz_eq
  unfold rb
  repeat' split
  · simp [Sm.szL]
  · omega
  · omega
  · simp [Sm.szL]
mutual
theorem Sm.sl_sz : (s : Sm) → Sm.szL s.sl ≤ s.sz
  | .mk k a e th el => by
    rw [Sm.sl]
    refine Nat.le_trans (rb_sz _) ?_
    simp only [Sm.sz]
    have := Sm.slL_sz th
    have := Sm.slL_sz el
    have := e.slim_sz
    omega
theorem Sm.slL_sz : (l : List Sm) → Sm.szL (Sm.slL l) ≤ Sm.szL l
  | [] => Nat.le_refl _
  | s :: l => by
    have happ : ∀ a b : List Sm, Sm.szL (a ++ b) = Sm.szL a + Sm.szL b := by
      intro a b
      induction a with
      | nil => simp [Sm.szL]
      | cons s l ih => simp only [List.cons_append, Sm.szL, ih]; omega
    simp only [Sm.slL, happ, Sm.szL]
    have := Sm.sl_sz s
    have := Sm.slL_sz l
    omega
end
end Go.Proofs.YtnmfmeehmieifaaDoor
namespace Go.Proofs.YtnmfmeehmieifaaDoor
open Go Sg
set_option linter.unusedSectionVars false
variable [Glob]
set_option maxRecDepth 100000
theorem cht_iok (c : Cht) : c.iok = c.ok := by
  unfold Cht.iok Cht.ok
  have : (fun t : Trn => !(!plOk t.fr c.steps || !plOk t.to' c.steps || !(vis t.w 0 0).isSome)) = fun t => !t.bad c.steps := by
    funext t; rw [vis_ok]; rfl
  rw [this]
  split
  · rfl
  · congr 1
    rw [List.all_eq_not_any_not]; simp
end Go.Proofs.YtnmfmeehmieifaaDoor
namespace Go.Proofs.YtnmfmeehmieifaaDoor
open Go Sg
set_option maxRecDepth 100000
set_option linter.unusedSimpArgs false
set_option linter.unusedVariables false
set_option linter.unusedSectionVars false
set_option maxHeartbeats 4000000
variable [TabK]
theorem join_le {K : Nat} (sep : List UInt8) (xs : List (List UInt8)) (h : ∀ x ∈ xs, x.length ≤ K) : (Lib.join xs sep).length ≤ xs.length * (K + sep.length) := by
  have key : ∀ r : List (List UInt8), (∀ x ∈ r, x.length ≤ K) → (Lib.joinTail sep r).length ≤ r.length * (K + sep.length) := by
    intro r
    induction r with
    | nil => intro _; simp [Lib.joinTail]
    | cons x r ih =>
      intro h
      have h1 := h x (by simp)
      have h2 := ih fun y hy => h y (by simp [hy])
      rw [tail_cons, List.length_append, List.length_append, List.length_cons, Nat.succ_mul]
      omega
  cases xs with
  | nil => simp [Lib.join_nil]
  | cons x r =>
    have h1 := h x (by simp)
    have h2 := key r fun y hy => h y (by simp [hy])
    rw [Lib.join_cons, List.length_append, List.length_cons, Nat.succ_mul]
    omega
theorem bt_len (s : ByteArray) : (bt s).length = s.size := by
  show s.data.toList.length = s.data.size
  exact Array.length_toList
theorem bt_mk (l : List UInt8) : bt ⟨l.toArray⟩ = l := rfl
@[go_sem] theorem strC_nil : strC [] = [] := rfl
theorem mk_size (l : List UInt8) : (⟨l.toArray⟩ : ByteArray).size = l.length := by simp [ByteArray.size]
def plS (l : List Int) : ByteArray := ⟨(Lib.join ((l.map fmtS).map bt) [44]).toArray⟩
theorem bt_pl (l : List Int) : bt (plS l) = plB l := by
  rw [plS, bt_mk, plB, List.map_map]
  rfl
structure PlS (l : List Int) : Prop where
  len : l.length ≤ 6
  rng : ∀ i, i < l.length → 0 ≤ l.getD i 0 ∧ l.getD i 0 ≤ 1000
theorem pl_le {l : List Int} (h : PlS l) : (Lib.join ((l.map fmtS).map bt) [44]).length ≤ 150 := by
  have h1 : ∀ x ∈ (l.map fmtS).map bt, x.length ≤ 24 := by
    intro x hx
    simp only [List.mem_map] at hx
    obtain ⟨s, ⟨n, hn, rfl⟩, rfl⟩ := hx
    obtain ⟨i, hi, rfl⟩ := List.getElem_of_mem hn
    have := h.rng i hi
    simp only [List.getD_eq_getElem?_getD, List.getElem?_eq_getElem hi, Option.getD_some] at this
    rw [bt_len]
    exact fmtS_size _
  have := join_le [44] _ h1
  have h2 := h.len
  simp only [List.length_map, List.length_cons, List.length_nil] at this
  omega
theorem pl_size {l : List Int} (h : PlS l) : (plS l).size ≤ 150 := by rw [plS, mk_size]; exact pl_le h
theorem map_take1 {α β : Type} [Inhabited α] (f : α → β) (l : List α) (i : Nat) (h : i < l.length) : (l.take i).map f ++ [f (l.getD i default)] = (l.take (i + 1)).map f := by
  rw [List.take_succ_eq_append_getElem h, List.map_append]
  simp [List.getD, h]
theorem placesText_ok (l : List Int) (h : PlS l) : PureF Tryd.prog 24 [.rows 3 (rowsI l)] [.str (plS l)] := by
  have hln := h.len
  refine pureF_of Tryd.func24 rfl Tryd.ntmps24 (by simp) T_ ?_
  intro f0 B Q hQ
  refine g_ [0] ?_
  refine g_ [0,3] ?_
  refine wpM_nil 9 [(0, .rows 3 (rowsI l)), (3, .sl 9 B 0 0)] [] T_ T_ T_ ?_
  refine g_ [3,6,7,8] ?_
  refine n_ ?_
  refine wpM_loopS (fun q n s' => ∃ (i M Y : Nat) (L : List ByteArray), i + n = l.length ∧ B ≤ Y ∧ Y < M ∧ L = (l.take i).map fmtS ∧ s' = { q with env := setE 8 (.int .i64 (i : Nat)) (setE 3 (.sl 9 Y 0 L.length) q.env), l := [(Y, .cells 9 (strC L))], M := M }) (l.length) ?_ ?_
  ·
    refine .of' _ _ ⟨0, _, B, [], by omega, Nat.le_refl _, Nat.lt_succ_self _, rfl, rfl⟩ ?_ ?_ ?_
    all_goals exact L_
  rintro n s' ⟨i, M, Y, L, hi, hBY, hYM, hL, rfl⟩
  try refine S_ ?_
  refine g_ [3,6,7,8,9] ?_
  refine c_ (fun hc0 => ?_) fun hc0 => ?_
  ·
    have hi2 : i < l.length := by omega
    have hr := h.rng i hi2
    have hLl : L.length ≤ 6 := by rw [hL, List.length_map, List.length_take]; omega
    refine g_ [3,5,6,7,8] ?_
    refine wpM_regionK [3,6,7,8] rfl fun Q1 hQ1 => ?_
    refine S_ ?_
    refine cp_ (itoa_ok (l.getD i 0) (by omega) (by omega)) Tryd.call23 ?_
    refine hQ1 _ _ (S_ ?_);clear hQ1 Q1
    refine g_ [3,6,7,8] ?_
    have e1 : L ++ [fmtS (l.getD i 0)] = (l.take (i + 1)).map fmtS := by rw [hL]; exact map_take1 fmtS l i hi2
    rw [show L.length + 1 = (L ++ [fmtS (l.getD i 0)]).length from by simp]
    refine .of' _ _ ⟨n - 1, by omega, i + 1, _, M + 1, L ++ [fmtS (l.getD i 0)], by omega, M_, M_, e1, rfl⟩ L_ L_ L_
  refine n_ ?_
  have hiN : i = l.length := by omega
  have hL2 : L = l.map fmtS := by rw [hL, hiN, List.take_of_length_le (Nat.le_refl _)]
  have hple := pl_le h
  refine wpM_frz [Y] [(9, Y, 0, L.length, strR L)] (by intro q hq; simp at hq; subst hq; simp -implicitDefEqProofs (disch := omega) only [go_sem]) (by intro q hq; simp only [List.mem_cons, List.not_mem_nil, or_false] at hq; subst hq; exact ⟨by simp, rowsOf_str (T := 9) T_ rfl⟩) ?_
  refine S_ ?_
  rw [hL2]
  refine wpM_regionK [2] rfl fun Q1 hQ1 => ?_
  refine S_ ?_
  refine cp_ (join_ok (l.map fmtS) ⟨#[44]⟩ (by simp; omega) (by show (Lib.join ((l.map fmtS).map bt) [44]).length ≤ _; omega)) Tryd.call28 ?_
  refine hQ1 _ _ (S_ ?_);clear hQ1 Q1
  refine e_ Tryd.results24 ?_
  first
  | exact True.intro
  | rfl
theorem form_cutn {d : Nat} {e : Ex} (h : formD (d + 1) e = true) (h1 : e.kind = 1) : cut e.n = e.n := by
  rw [formD] at h
  split at h
  · cases h
  · split at h
    · cases h
    · rename_i h2
      simp [h1] at h2
      exact h2
theorem word_size {d : Nat} {e : Ex} (h : formD (d + 1) e = true) : (wordS e).size ≤ 30 := by
  have hf := form_inv h
  obtain ⟨hk, hn, ha, ho⟩ := form_kinds h
  have hc : e.kind = 1 → -1000000 ≤ e.n ∧ e.n ≤ 1000000 := fun h1 => by
    have := form_cutn h h1
    unfold cut at this; omega
  unfold wordS
  split
  · rename_i h1
    have := hc (by simpa using h1)
    have := fmtS_size e.n
    omega
  · split
    · rename_i h2
      have h3 := ho (by simpa using h2)
      simp only [AD.ok, Bool.and_eq_true, decide_eq_true_eq] at h3
      have h4 := letS_size e.a.kind (by omega)
      have h5 := fmtS_size e.a.at'
      rw [adrS, ByteArray.size_append]
      omega
    · split
      · rename_i h3
        simp only [isTwo, Bool.and_eq_true, decide_eq_true_eq] at h3
        have : e.kind = 3 ∨ e.kind = 4 ∨ e.kind = 5 ∨ e.kind = 6 ∨ e.kind = 7 ∨ e.kind = 8 ∨ e.kind = 9 := by omega
        rcases this with h1 | h1 | h1 | h1 | h1 | h1 | h1 <;> rw [h1] <;> decide
      · decide
theorem ws_size (d : Nat) : ∀ e : Ex, formD d e = true → ∀ w ∈ wsE e, w.size ≤ 30 := by
  induction d with
  | zero => intro e h; cases h
  | succ d ih =>
    intro e h w hw
    have hi := (form_inv h).2.2
    rw [wsE_eq, List.mem_cons] at hw
    rcases hw with rfl | hw
    · exact word_size h
    · have key : ∀ l : List Ex, (∀ i, i < l.length → formD d (l.getD i default) = true) → ∀ w ∈ wsL l, w.size ≤ 30 := by
        intro l
        induction l with
        | nil => intro _ w hw; simp [wsL] at hw
        | cons a l ihl =>
          intro hl w hw
          simp only [wsL, List.mem_append] at hw
          rcases hw with hw | hw
          · exact ih a (hl 0 (by simp)) w hw
          · exact ihl (fun i hi => hl (i + 1) (by simpa using hi)) w hw
      exact key _ hi w hw
def exS (e : Ex) : ByteArray := ⟨(Lib.join ((wsE e).map bt) [32]).toArray⟩
theorem bt_ex {d : Nat} {e : Ex} (h : formD d e = true) : bt (exS e) = Lib.join (wsB e) [32] := by rw [exS, bt_mk, bt_ws d e h]
theorem ok_sz {e : Ex} (h : e.ok = true) : formD 6 e = true ∧ e.sz ≤ 14 := by
  simp only [Ex.ok, Bool.and_eq_true, decide_eq_true_eq] at h
  have := many_sz 6 e h.1
  exact ⟨h.1, by omega⟩
theorem ex_le {e : Ex} (h : e.ok = true) : (Lib.join ((wsE e).map bt) [32]).length ≤ 500 := by
  obtain ⟨h1, h2⟩ := ok_sz h
  have h3 := join_le (K := 30) [32] ((wsE e).map bt) (fun x hx => by
    obtain ⟨w, hw, rfl⟩ := List.mem_map.1 hx
    rw [bt_len]; exact ws_size 6 e h1 w hw)
  rw [List.length_map, wsE_len] at h3
  simp only [List.length_cons, List.length_nil] at h3
  omega
theorem ex_size {e : Ex} (h : e.ok = true) : (exS e).size ≤ 500 := by rw [exS, mk_size]; exact ex_le h
theorem exprText_ok (e : Ex) (h : e.ok = true) : PureF Tryd.prog 25 [.agg e.cs] [.str (exS e)] := by
  obtain ⟨h1, h2⟩ := ok_sz h
  have hle := ex_le h
  have hws := wsE_len e
  have hv : (vis e 0 0).isSome = true := by rw [vis_ok]; exact h
  refine pureF_of Tryd.func25 rfl Tryd.ntmps25 (by simp) T_ ?_
  intro f0 B Q hQ
  refine g_ [1] ?_
  refine n_ ?_
  refine wpM_regionK [1,5] rfl fun Q1 hQ1 => ?_
  refine S_ ?_
  refine call_p (iexprOk_ok e (by omega)) Tryd.call39 rfl rfl rfl (by first | rfl | (simp -implicitDefEqProofs (disch := omega) only [go_sem] <;> rfl)) ?_
  simp -implicitDefEqProofs (disch := omega) only [go_sem, hv]
  refine hQ1 _ _ (S_ ?_);clear hQ1 Q1
  refine c1_ ?_
  refine n_ ?_
  refine wpM_regionK [2] rfl fun Q1 hQ1 => ?_
  refine S_ ?_
  refine cp_ (wordsOf_ok e (by omega) hv) Tryd.call44 ?_
  refine cp_ (join_ok (wsE e) ⟨#[32]⟩ (by omega) (by show (Lib.join ((wsE e).map bt) [32]).length ≤ _; omega)) Tryd.call28 ?_
  refine hQ1 _ _ (S_ ?_);clear hQ1 Q1
  refine e_ Tryd.results25 ?_
  first
  | exact True.intro
  | rfl
end Go.Proofs.YtnmfmeehmieifaaDoor
namespace Go.Proofs.YtnmfmeehmieifaaDoor
open Go Sg
set_option maxRecDepth 100000
set_option linter.unusedSimpArgs false
set_option linter.unusedVariables false
set_option linter.unusedSectionVars false
set_option maxHeartbeats 4000000
variable [TabK]
theorem pl_asc {l : List Int} {b : Int} (h : plOk l b = true) : ∀ i, i < l.length → (i : Int) ≤ l.getD i 0 ∧ l.getD i 0 < b := by
  simp only [plOk, Bool.and_eq_true, List.all_eq_true, List.mem_range, Bool.not_eq_true'] at h
  have hb := h.1
  have hx : ∀ i, i < l.length → 0 ≤ l.getD i 0 ∧ l.getD i 0 < b ∧ (0 < i → l.getD (i - 1) 0 < l.getD i 0) := by
    intro i hi
    have := hb i hi
    simp only [plBad, Bool.or_eq_false_iff, decide_eq_false_iff_not, Bool.and_eq_false_iff] at this
    refine ⟨by omega, by omega, fun h0 => ?_⟩
    have e : ((i : Int) - 1).toNat = i - 1 := by omega
    rw [e] at this
    omega
  intro i
  induction i with
  | zero => intro hi; have := hx 0 hi; exact ⟨by omega, by omega⟩
  | succ i ih =>
    intro hi
    have h1 := ih (by omega)
    have h2 := hx (i + 1) hi
    have h3 := h2.2.2 (by omega)
    rw [Nat.add_sub_cancel] at h3
    exact ⟨by omega, by omega⟩
theorem pl_S {l : List Int} {b : Int} (h : plOk l b = true) (hb : b ≤ 6) : PlS l := by
  have h1 := pl_asc h
  refine ⟨?_, fun i hi => ?_⟩
  · by_cases h0 : l.length ≤ 6
    · exact h0
    · have := h1 6 (by omega); omega
  · have := h1 i hi; omega
def stS (n : Int) : ByteArray := ⟨#[115, 116, 101, 112, 115, 32]⟩ ++ fmtS n
def trS (t : Trn) : ByteArray := plS t.fr ++ ⟨#[32, 62, 32]⟩ ++ plS t.to' ++ ⟨#[32, 119, 104, 101, 110, 32]⟩ ++ exS t.w
def actL : List ByteArray := [⟨#[]⟩, ⟨#[119, 105, 116, 104]⟩, ⟨#[115, 101, 116]⟩, ⟨#[111, 102, 102]⟩, ⟨#[98, 101, 103, 105, 110]⟩]
def acS (a : GAct) : ByteArray := actL.getD a.kind.toNat default ++ ⟨#[32]⟩ ++ fmtS a.step ++ ⟨#[32]⟩ ++ adrS a.to'
def itemsS (c : Cht) : List ByteArray := stS c.steps :: (c.ts.map trS ++ c.as'.map acS)
def chS (c : Cht) : ByteArray := ⟨(Lib.join ((itemsS c).map bt) [32, 59, 32]).toArray⟩
theorem actNames_ok : PureF Tryd.prog 26 [] [.rows 9 (strR actL)] := by
  refine pureF_of Tryd.func26 rfl Tryd.ntmps26 (by simp) T_ ?_
  intro f0 B Q hQ
  have hr : rep 5 [PV.str ⟨#[]⟩] = [.str ⟨#[]⟩, .str ⟨#[]⟩, .str ⟨#[]⟩, .str ⟨#[]⟩, .str ⟨#[]⟩] := rfl
  refine g_ [] ?_
  refine n_ ?_
  refine wpM_regionK [0] rfl fun Q1 hQ1 => ?_
  simp -implicitDefEqProofs (disch := omega) only [go_sem, hr, splice, List.take_succ_cons, List.take_zero, List.drop_succ_cons, List.drop_zero, List.cons_append, List.nil_append, List.length_cons, List.length_nil]
  refine hQ1 _ _ (S_ ?_);clear hQ1 Q1
  rw [show [PV.str ⟨#[]⟩, .str ⟨#[119, 105, 116, 104]⟩, .str ⟨#[115, 101, 116]⟩, .str ⟨#[111, 102, 102]⟩, .str ⟨#[98, 101, 103, 105, 110]⟩] = strC actL from rfl]
  refine wpM_frz [B] [(9, B, 0, 5, strR actL)] (by intro q hq; simp at hq; subst hq; simp -implicitDefEqProofs (disch := omega) only [go_sem]) (by intro q hq; simp only [List.mem_cons, List.not_mem_nil, or_false] at hq; subst hq; exact ⟨by simp, rowsOf_str (T := 9) T_ rfl⟩) ?_
  refine S_ ?_
  exact e_ Tryd.results26 True.intro
structure TrS (t : Trn) : Prop where
  fr : PlS t.fr
  to' : PlS t.to'
  w : t.w.ok = true
structure AcS (a : GAct) : Prop where
  k : 1 ≤ a.kind ∧ a.kind ≤ 4
  st : 0 ≤ a.step ∧ a.step ≤ 6
  to' : a.to'.ok = true
theorem act_size (k : Int) (h : 1 ≤ k ∧ k ≤ 4) : (actL.getD k.toNat default).size ≤ 5 := by
  have : k = 1 ∨ k = 2 ∨ k = 3 ∨ k = 4 := by omega
  rcases this with rfl | rfl | rfl | rfl <;> decide
theorem adr_size {a : AD} (h : a.ok = true) : (adrS a).size ≤ 30 := by
  simp only [AD.ok, Bool.and_eq_true, decide_eq_true_eq] at h
  have h4 := letS_size a.kind (by omega)
  have h5 := fmtS_size a.at'
  rw [adrS, ByteArray.size_append]; omega
theorem tr_size {t : Trn} (h : TrS t) : (trS t).size ≤ 1000 := by
  have h1 := pl_size h.fr
  have h2 := pl_size h.to'
  have h3 := ex_size h.w
  have e1 : (⟨#[32, 62, 32]⟩ : ByteArray).size = 3 := rfl
  have e2 : (⟨#[32, 119, 104, 101, 110, 32]⟩ : ByteArray).size = 6 := rfl
  simp only [trS, ByteArray.size_append, e1, e2]; omega
theorem ac_size {a : GAct} (h : AcS a) : (acS a).size ≤ 1000 := by
  have h1 := act_size a.kind h.k
  have hs := h.st
  have h2 := fmtS_size a.step
  have h3 := adr_size h.to'
  have e1 : (⟨#[32]⟩ : ByteArray).size = 1 := rfl
  simp only [acS, ByteArray.size_append, e1]; omega
theorem st_size {n : Int} (h : 1 ≤ n ∧ n ≤ 6) : (stS n).size ≤ 1000 := by
  have h2 := fmtS_size n
  have e1 : (⟨#[115, 116, 101, 112, 115, 32]⟩ : ByteArray).size = 6 := rfl
  simp only [stS, ByteArray.size_append, e1]; omega
theorem cht_TrS {c : Cht} (h : c.ok = true) : ∀ t ∈ c.ts, TrS t := fun t ht => by
  obtain ⟨h0, _, _, h1, _⟩ := cht_inv h
  obtain ⟨a, b, d⟩ := h1 t ht
  exact ⟨pl_S a h0.2, pl_S b h0.2, d⟩
theorem cht_AcS {c : Cht} (h : c.ok = true) : ∀ a ∈ c.as', AcS a := fun a ha => by
  obtain ⟨h0, _, _, _, h1⟩ := cht_inv h
  obtain ⟨k1, k2, k3, k4, k5⟩ := h1 a ha
  exact ⟨⟨k1, k2⟩, ⟨k3, by omega⟩, k5⟩
theorem items_le {c : Cht} (h : c.ok = true) : (itemsS c).length ≤ 13 ∧ (Lib.join ((itemsS c).map bt) [32, 59, 32]).length ≤ 20000 := by
  obtain ⟨h0, h1, h2, _, _⟩ := cht_inv h
  have hl : (itemsS c).length ≤ 13 := by simp [itemsS]; omega
  refine ⟨hl, ?_⟩
  have h3 := join_le (K := 1000) [32, 59, 32] ((itemsS c).map bt) (fun x hx => by
    obtain ⟨w, hw, rfl⟩ := List.mem_map.1 hx
    rw [bt_len]
    simp only [itemsS, List.mem_cons, List.mem_append, List.mem_map] at hw
    rcases hw with rfl | ⟨t, ht, rfl⟩ | ⟨a, ha, rfl⟩
    · exact st_size h0
    · exact tr_size (cht_TrS h t ht)
    · exact ac_size (cht_AcS h a ha))
  rw [List.length_map] at h3
  simp only [List.length_cons, List.length_nil] at h3
  have : (itemsS c).length * (1000 + (0 + 1 + 1 + 1)) ≤ 13 * (1000 + (0 + 1 + 1 + 1)) := Nat.mul_le_mul_right _ hl
  omega
theorem get_mem {α : Type} [Inhabited α] {l : List α} {i : Nat} (h : i < l.length) : l.getD i default ∈ l := by
  simp only [List.getD_eq_getElem?_getD, List.getElem?_eq_getElem h, Option.getD_some]
  exact List.getElem_mem h
theorem chartText_ok (c : Cht) (hc : c.Sm) (hok : c.ok = true) : PureF Tryd.prog 9 [.agg c.cs] [.str (chS c)] := by
  obtain ⟨hst, htl, hal, _, _⟩ := cht_inv hok
  obtain ⟨hil, hjl⟩ := items_le hok
  have e6 : (⟨#[115, 116, 101, 112, 115, 32]⟩ : ByteArray).size = 6 := rfl
  have e3 : (⟨#[32, 62, 32]⟩ : ByteArray).size = 3 := rfl
  have e5 : (⟨#[32, 119, 104, 101, 110, 32]⟩ : ByteArray).size = 6 := rfl
  have e1 : (⟨#[32]⟩ : ByteArray).size = 1 := rfl
  have hfs := fmtS_size c.steps
  refine pureF_of Tryd.func9 rfl Tryd.ntmps9 (by simp) T_ ?_
  intro f0 B Q hQ
  refine g_ [1] ?_
  refine n_ ?_
  refine wpM_regionK [1,10] rfl fun Q1 hQ1 => ?_
  refine S_ ?_
  refine call_p (ichartOk_ok c hc) Tryd.call22 rfl rfl rfl (by first | rfl | (simp -implicitDefEqProofs (disch := omega) only [go_sem] <;> rfl)) ?_
  simp -implicitDefEqProofs (disch := omega) only [go_sem, cht_iok, hok]
  refine hQ1 _ _ (S_ ?_);clear hQ1 Q1
  refine c1_ ?_
  refine n_ ?_
  refine wpM_regionK [1,3] rfl fun Q1 hQ1 => ?_
  simp -implicitDefEqProofs (disch := omega) only [go_sem, bin_adds]
  refine call_p (itoa_ok c.steps (by omega) (by omega)) Tryd.call23 rfl rfl rfl (by first | rfl | (simp -implicitDefEqProofs (disch := omega) only [go_sem] <;> rfl)) ?_
  simp -implicitDefEqProofs (disch := omega) only [go_sem, bin_adds]
  refine hQ1 _ _ (S_ ?_);clear hQ1 Q1
  rw [show [PV.str (⟨#[115, 116, 101, 112, 115, 32]⟩ ++ fmtS c.steps)] = strC [stS c.steps] from rfl]
  refine g_ [1,3,17,18,19] ?_
  refine n_ ?_
  refine wpM_loopS (fun q n s' => ∃ (i M Y : Nat) (L : List ByteArray), i + n = c.ts.length ∧ B + 1 ≤ Y ∧ Y < M ∧ L = stS c.steps :: (c.ts.take i).map trS ∧ s' = { q with env := setE 19 (.int .i64 (i : Nat)) (setE 3 (.sl 9 Y 0 L.length) q.env), l := [(Y, .cells 9 (strC L)), (B, .cells 26 c.cs)], M := M }) (c.ts.length) ?_ ?_
  ·
    refine .of' _ _ ⟨0, _, B + 1, [stS c.steps], by omega, Nat.le_refl _, Nat.lt_succ_self _, rfl, rfl⟩ ?_ ?_ ?_
    all_goals exact L_
  rintro n s' ⟨i, M, Y, L, hi, hBY, hYM, hL, rfl⟩
  try refine S_ ?_
  refine g_ [1,3,17,18,19,20] ?_
  refine c_ (fun hc1 => ?_) fun hc1 => ?_
  ·
    have hi2 : i < c.ts.length := by omega
    have hT := cht_TrS hok _ (get_mem hi2)
    have hLl : L.length ≤ 7 := by rw [hL, List.length_cons, List.length_map, List.length_take]; omega
    have z1 := pl_size hT.fr
    have z2 := pl_size hT.to'
    have z3 := ex_size hT.w
    have s1 : (plS (c.ts.getD i default).fr ++ ⟨#[32, 62, 32]⟩).size = (plS (c.ts.getD i default).fr).size + 3 := by rw [ByteArray.size_append, e3]
    have s2 : (plS (c.ts.getD i default).fr ++ ⟨#[32, 62, 32]⟩ ++ plS (c.ts.getD i default).to').size = (plS (c.ts.getD i default).fr).size + 3 + (plS (c.ts.getD i default).to').size := by rw [ByteArray.size_append, s1]
    have s3 : (plS (c.ts.getD i default).fr ++ ⟨#[32, 62, 32]⟩ ++ plS (c.ts.getD i default).to' ++ ⟨#[32, 119, 104, 101, 110, 32]⟩).size = (plS (c.ts.getD i default).fr).size + 3 + (plS (c.ts.getD i default).to').size + 6 := by rw [ByteArray.size_append, s2, e5]
    refine g_ [1,3,5,17,18,19] ?_
    refine dr_ mixed [1,3,17,18,19] 2 2 [M, Y, M + 1, M + 2] [⟨[3],[],[],[],false⟩,⟨[5],[],[],[],false⟩,⟨[24],[0],[],[],false⟩,⟨[25],[],[],[],true⟩,⟨[26],[],[],[],false⟩,⟨[5],[],[],[],false⟩,⟨[28],[0],[],[],false⟩,⟨[29],[],[],[],true⟩,⟨[27,30],[],[],[],false⟩,⟨[31],[],[],[],false⟩,⟨[5],[],[],[],false⟩,⟨[33],[0],[],[],false⟩,⟨[34],[],[],[],true⟩,⟨[32,35],[],[],[],false⟩,⟨[36],[],[],[2],false⟩,⟨[23,37],[1,2],[1],[3],false⟩,⟨[38],[],[],[],false⟩] [0,1,2,5,6,10,11,3,4,7,8,9,12,13,14,15,16] [[],[],[1],[1,2],[1,2,3],[],[5],[1,2,3,5,6],[1,2,3,4,5,6,7],[1,2,3,4,5,6,7,8],[],[10],[1,2,3,5,6,7,10,11],[1,2,3,4,5,6,7,8,9,10,11,12],[1,2,3,4,5,6,7,8,9,10,11,12,13],[0,1,2,3,4,5,6,7,8,9,10,11,12,13,14],[0,1,2,3,4,5,6,7,8,9,10,11,12,13,14,15]] 4 (htbl := by simp; omega) (hnm := by simp) ?_
    intro O A K hO hA hK;simp only [atL_cons,atL_nil,Nat.reduceAdd,Nat.zero_add] at hO hA
    simp -implicitDefEqProofs (disch := omega) only [go_sem, bin_adds, hO, hA]
    refine loud_p (placesText_ok (c.ts.getD i default).fr hT.fr) Tryd.call24 rfl rfl (by first | rfl | (simp -implicitDefEqProofs (disch := omega) only [go_sem] <;> rfl)) rfl ?_
    simp -implicitDefEqProofs (disch := omega) only [go_sem, bin_adds, hO, hA]
    refine loud_p (placesText_ok (c.ts.getD i default).to' hT.to') Tryd.call24 rfl rfl (by first | rfl | (simp -implicitDefEqProofs (disch := omega) only [go_sem] <;> rfl)) rfl ?_
    simp -implicitDefEqProofs (disch := omega) only [go_sem, bin_adds, hO, hA]
    refine loud_p (exprText_ok (c.ts.getD i default).w hT.w) Tryd.call25 rfl rfl (by first | rfl | (simp -implicitDefEqProofs (disch := omega) only [go_sem] <;> rfl)) rfl ?_
    simp -implicitDefEqProofs (disch := omega) only [go_sem, bin_adds, hO, hA]
    refine hK _ (S_ ?_);clear hK K hO hA O A
    refine g_ [1,3,17,18,19] ?_
    have e9 : L ++ [trS (c.ts.getD i default)] = stS c.steps :: (c.ts.take (i + 1)).map trS := by rw [hL, List.cons_append, map_take1 trS c.ts i hi2]
    rw [show plS (c.ts.getD i default).fr ++ ⟨#[32, 62, 32]⟩ ++ plS (c.ts.getD i default).to' ++ ⟨#[32, 119, 104, 101, 110, 32]⟩ ++ exS (c.ts.getD i default).w = trS (c.ts.getD i default) from rfl]
    rw [show L.length + 1 = (L ++ [trS (c.ts.getD i default)]).length from by simp]
    refine .of' _ _ ⟨n - 1, by omega, i + 1, _, M + 2, L ++ [trS (c.ts.getD i default)], by omega, M_, M_, e9, rfl⟩ L_ L_ L_
  refine n_ ?_
  have hiN : i = c.ts.length := by omega
  have hL2 : L = stS c.steps :: c.ts.map trS := by rw [hL, hiN, List.take_of_length_le (Nat.le_refl _)]
  have hLl : L.length ≤ 7 := by rw [hL2, List.length_cons, List.length_map]; omega
  refine g_ [3,41,42,43] ?_
  refine n_ ?_
  refine wpM_loopS (fun q n s' => ∃ (j M2 Y2 : Nat) (L2 : List ByteArray), j + n = c.as'.length ∧ B + 1 ≤ Y2 ∧ Y2 < M2 ∧ L2 = L ++ (c.as'.take j).map acS ∧ s' = { q with env := setE 43 (.int .i64 (j : Nat)) (setE 3 (.sl 9 Y2 0 L2.length) q.env), l := [(Y2, .cells 9 (strC L2)), (B, .cells 26 c.cs)], M := M2 }) (c.as'.length) ?_ ?_
  ·
    refine .of' _ _ ⟨0, _, Y, L, by omega, by omega, by first | assumption | (dsimp only; omega), by simp, rfl⟩ ?_ ?_ ?_
    all_goals exact L_
  rintro n s' ⟨j, M2, Y2, L2, hj, hBY2, hYM2, hL3, rfl⟩
  try refine S_ ?_
  refine g_ [3,41,42,43,44] ?_
  refine c_ (fun hc2 => ?_) fun hc2 => ?_
  ·
    have hj2 : j < c.as'.length := by omega
    have hAc := cht_AcS hok _ (get_mem hj2)
    have hk := hAc.k
    have hstp := hAc.st
    have hL2l : L2.length ≤ 14 := by rw [hL3, List.length_append, List.length_map, List.length_take]; omega
    have z1 := act_size (c.as'.getD j default).kind hk
    have z2 := fmtS_size (c.as'.getD j default).step
    have z3 := adr_size hAc.to'
    have s1 : (actL.getD (c.as'.getD j default).kind.toNat default ++ ⟨#[32]⟩).size = (actL.getD (c.as'.getD j default).kind.toNat default).size + 1 := by rw [ByteArray.size_append, e1]
    have s2 : (actL.getD (c.as'.getD j default).kind.toNat default ++ ⟨#[32]⟩ ++ fmtS (c.as'.getD j default).step).size = (actL.getD (c.as'.getD j default).kind.toNat default).size + 1 + (fmtS (c.as'.getD j default).step).size := by rw [ByteArray.size_append, s1]
    have s3 : (actL.getD (c.as'.getD j default).kind.toNat default ++ ⟨#[32]⟩ ++ fmtS (c.as'.getD j default).step ++ ⟨#[32]⟩).size = (actL.getD (c.as'.getD j default).kind.toNat default).size + 1 + (fmtS (c.as'.getD j default).step).size + 1 := by rw [ByteArray.size_append, s2, e1]
    have hal5 : actL.length = 5 := rfl
    refine g_ [3,7,41,42,43] ?_
    refine dr_ mixed [3,41,42,43] 2 2 [M2, Y2, M2 + 1, M2 + 2] [⟨[3],[],[],[],false⟩,⟨[],[],[],[],true⟩,⟨[7],[],[],[],false⟩,⟨[49],[0],[],[],false⟩,⟨[48,50],[],[],[],false⟩,⟨[51],[],[],[],false⟩,⟨[52],[],[],[],false⟩,⟨[7],[],[],[],false⟩,⟨[54],[0],[],[],false⟩,⟨[55],[],[],[],true⟩,⟨[53,56],[],[],[],false⟩,⟨[57],[],[],[],false⟩,⟨[7],[],[],[],false⟩,⟨[59],[0],[],[],false⟩,⟨[60],[],[],[],true⟩,⟨[58,61],[],[],[],false⟩,⟨[62],[],[],[2],false⟩,⟨[47,63],[1,2],[1],[3],false⟩,⟨[64],[],[],[],false⟩] [0,2,3,7,8,12,13,1,4,5,6,9,10,11,14,15,16,17,18] [[],[],[],[2],[1,2,3],[1,2,3,4],[1,2,3,4,5],[],[7],[1,7,8],[1,2,3,4,5,6,7,8,9],[1,2,3,4,5,6,7,8,9,10],[],[12],[1,7,8,9,12,13],[1,2,3,4,5,6,7,8,9,10,11,12,13,14],[1,2,3,4,5,6,7,8,9,10,11,12,13,14,15],[0,1,2,3,4,5,6,7,8,9,10,11,12,13,14,15,16],[0,1,2,3,4,5,6,7,8,9,10,11,12,13,14,15,16,17]] 4 (htbl := by simp; omega) (hnm := by simp) ?_
    intro O A K hO hA hK;simp only [atL_cons,atL_nil,Nat.reduceAdd,Nat.zero_add] at hO hA
    simp -implicitDefEqProofs (disch := omega) only [go_sem, bin_adds, hal5, hO, hA]
    refine loud_p (actNames_ok) Tryd.call26 rfl rfl (by first | rfl | (simp -implicitDefEqProofs (disch := omega) only [go_sem] <;> rfl)) rfl ?_
    simp -implicitDefEqProofs (disch := omega) only [go_sem, bin_adds, hal5, hO, hA]
    refine loud_p (itoa_ok (c.as'.getD j default).step (by omega) (by omega)) Tryd.call23 rfl rfl (by first | rfl | (simp -implicitDefEqProofs (disch := omega) only [go_sem] <;> rfl)) rfl ?_
    simp -implicitDefEqProofs (disch := omega) only [go_sem, bin_adds, hal5, hO, hA]
    refine loud_p (addrText_ok (c.as'.getD j default).to' hAc.to') Tryd.call27 rfl rfl (by first | rfl | (simp -implicitDefEqProofs (disch := omega) only [go_sem] <;> rfl)) rfl ?_
    simp -implicitDefEqProofs (disch := omega) only [go_sem, bin_adds, hal5, hO, hA]
    refine hK _ (S_ ?_);clear hK K hO hA O A
    refine g_ [3,41,42,43] ?_
    have e9 : L2 ++ [acS (c.as'.getD j default)] = L ++ (c.as'.take (j + 1)).map acS := by rw [hL3, List.append_assoc, map_take1 acS c.as' j hj2]
    rw [show actL.getD (c.as'.getD j default).kind.toNat default ++ ⟨#[32]⟩ ++ fmtS (c.as'.getD j default).step ++ ⟨#[32]⟩ ++ adrS (c.as'.getD j default).to' = acS (c.as'.getD j default) from rfl]
    rw [show L2.length + 1 = (L2 ++ [acS (c.as'.getD j default)]).length from by simp]
    refine .of' _ _ ⟨n - 1, by omega, j + 1, _, M2 + 2, L2 ++ [acS (c.as'.getD j default)], by omega, M_, M_, e9, rfl⟩ L_ L_ L_
  refine n_ ?_
  have hjN : j = c.as'.length := by omega
  have hL4 : L2 = itemsS c := by rw [hL3, hL2, hjN, List.take_of_length_le (Nat.le_refl _)]; rfl
  refine wpM_frz [Y2] [(9, Y2, 0, L2.length, strR L2)] (by intro q hq; simp at hq; subst hq; simp -implicitDefEqProofs (disch := omega) only [go_sem]) (by intro q hq; simp only [List.mem_cons, List.not_mem_nil, or_false] at hq; subst hq; exact ⟨by simp, rowsOf_str (T := 9) T_ rfl⟩) ?_
  refine S_ ?_
  rw [hL4]
  refine wpM_regionK [2] rfl fun Q1 hQ1 => ?_
  refine S_ ?_
  refine cp_ (join_ok (itemsS c) ⟨#[32, 59, 32]⟩ (by omega) (by show (Lib.join ((itemsS c).map bt) [32, 59, 32]).length ≤ _; omega)) Tryd.call28 ?_
  refine hQ1 _ _ (S_ ?_);clear hQ1 Q1
  refine e_ Tryd.results9 ?_
  first
  | exact True.intro
  | rfl
end Go.Proofs.YtnmfmeehmieifaaDoor
namespace Go.Proofs.YtnmfmeehmieifaaDoor
open Go Sg
set_option maxRecDepth 100000
set_option linter.unusedSimpArgs false
set_option linter.unusedVariables false
set_option linter.unusedSectionVars false
set_option maxHeartbeats 4000000
variable [TabK]
theorem eqfE_ok (a b : List Ex) (fid : Nat) (p : Ex → Ex → Bool) (ha : a.length ≤ 1099511627776) (henter : ∀ args w, (callFunc fid args).run Tryd.prog w = .ok (.enter fid args) w)
    (hf : ∀ i, i < a.length → i < b.length → PureF Tryd.prog fid [.agg (a.getD i default).cs, .agg (b.getD i default).cs] [.bool (p (a.getD i default) (b.getD i default))]) :
    PureF Tryd.prog 35 [.rows 42 (Ex.csL a), .rows 42 (Ex.csL b), .fn (.func fid) [] []] [.bool (a.length == b.length && (List.range a.length).all fun i => p (a.getD i default) (b.getD i default))] := by
  refine pureF_of Tryd.func35 rfl Tryd.ntmps35 (by simp) T_ ?_
  intro f0 B Q hQ
  refine g_ [0,1,2] ?_
  refine g_ [0,1,2,14] ?_
  refine c_ (fun hc0 => ?_) fun hc0 => ?_
  ·
    refine g_ [6] ?_
    refine e_ Tryd.results35 ?_
    first
    | exact True.intro
    | simp at hc0
      rw [beq_eq_false_iff_ne.2 (by omega)]; rfl
  have hab : a.length = b.length := by simp at hc0; omega
  refine g_ [1,2,15,16,17] ?_
  refine n_ ?_
  refine wpM_loopS (fun s n s' => ∃ (i0 M0 : Nat) , i0 + n = a.length ∧ s.M ≤ M0 ∧ ((List.range i0).all (fun i => p (a.getD i default) (b.getD i default)) = true) ∧ s' = { s with env := setE 17 (.int .i64 (i0 : Nat)) s.env, M := M0 }) (a.length) ?_ ?_
  ·
    refine .of' _ _ ⟨0, _, by omega, Nat.le_refl _, by simp, rfl⟩ ?_ ?_ ?_ <;> exact L_
  rintro n0 s' ⟨i0, M0, hi0, hM0, hv0, rfl⟩
  try dsimp only at hM0
  try refine S_ ?_
  refine g_ [1,2,15,16,17,18] ?_
  refine c_ (fun hc1 => ?_) fun hc1 => ?_
  ·
    have hl0 : i0 < a.length := by omega
    refine g_ [1,2,7,8,15,16,17] ?_
    refine g_ [1,2,8,9,15,16,17] ?_
    refine n_ ?_
    refine wpM_regionK [1,2,15,16,17,30] rfl fun Q1 hQ1 => ?_
    refine S_ ?_
    refine call_cap (l := []) (cap := []) (args := [.agg (a.getD i0 default).cs, .agg (b.getD i0 default).cs]) (hf i0 hl0 (by omega)) (fun i o h => by simp [lk] at h) henter rfl rfl T_ T_ ?_
    refine S_ ?_
    refine hQ1 _ _ (S_ ?_);clear hQ1 Q1
    refine c_ (fun hc2 => ?_) fun hc2 => ?_
    ·
      refine g_ [6] ?_
      refine e_ Tryd.results35 ?_
      first
      | exact True.intro
      | have h2 : (!p (a.getD i0 default) (b.getD i0 default)) = true := hc2
        rw [range_no hl0 (by simpa using h2)]
        simp
    refine g_ [1,2,15,16,17] ?_
    refine .of' _ _ ⟨n0 - 1, by omega, i0 + 1, _, by omega, M_, ?_, rfl⟩ L_ L_ L_
    have h2 : (!p (a.getD i0 default) (b.getD i0 default)) = false := hc2
    rw [range_all, hv0]; simpa using h2
  refine g_ [6] ?_
  refine e_ Tryd.results35 ?_
  first
  | exact True.intro
  | have h1 : i0 = a.length := by omega
    rw [← h1, hv0]; simp; omega
theorem range_ext {α : Type} [Inhabited α] {a b : List α} (h : a.length = b.length) (p : α → α → Bool) (hp : ∀ i, i < a.length → p (a.getD i default) (b.getD i default) = same (a.getD i default) (b.getD i default)) : (List.range a.length).all (fun i => p (a.getD i default) (b.getD i default)) = same a b := by
  by_cases hab : a = b
  · subst hab
    rw [same_self, List.all_eq_true]
    intro i hi
    rw [hp i (List.mem_range.1 hi), same_self]
  · rw [same_no hab, Bool.eq_false_iff]
    intro hall
    rw [List.all_eq_true] at hall
    refine hab (List.ext_getElem h fun i h1 h2 => ?_)
    have := hall i (List.mem_range.2 h1)
    rw [hp i h1, same_iff] at this
    simpa [List.getD, h1, h2] using this
theorem same_ex (a b : Ex) : (a.kind == b.kind && a.n == b.n && (a.a.kind == b.a.kind && a.a.at' == b.a.at') && (a.kids.length == b.kids.length && (List.range a.kids.length).all fun i => same (a.kids.getD i default) (b.kids.getD i default))) = same a b := by
  by_cases hl : a.kids.length = b.kids.length
  · rw [range_ext hl same fun _ _ => rfl, Bool.eq_iff_iff]
    simp only [Bool.and_eq_true, beq_iff_eq, same_iff]
    constructor
    · rintro ⟨⟨⟨h1, h2⟩, h3, h4⟩, _, h5⟩
      refine Ex.ext' h1 h2 ?_ h5
      cases hx : a.a; cases hy : b.a
      rw [hx, hy] at h3 h4
      simp only at h3 h4
      rw [h3, h4]
    · rintro rfl
      simp
  · rw [same_no (fun h => hl (by rw [h]))]
    have : (a.kids.length == b.kids.length) = false := by simpa using hl
    rw [this]; simp
theorem ialike_ok : ∀ (N : Nat) (a b : Ex), a.sz ≤ N → a.sz ≤ 1099511627776 → PureF Tryd.prog 14 [.agg a.cs, .agg b.cs] [.bool (same a b)] := by
  intro N
  induction N with
  | zero => intro e b h; have := e.sz_pos; omega
  | succ N ih =>
    intro a b hN hs
    have hlen := a.kids_len
    refine pureF_of Tryd.func14 rfl Tryd.ntmps14 (by simp) T_ ?_
    intro f0 B Q hQ
    refine g_ [2,3] ?_
    refine n_ ?_
    refine wpM_regionK [4] rfl fun Q1 hQ1 => ?_
    refine SD_ ?_
    first | refine cg_ (fun hb => eqfE_ok a.kids b.kids 14 same (by omega) Tryd.call14 (fun i h1 h2 => ih _ _ (by have := Ex.kid_sz (e := a) h1; omega) (by have := Ex.kid_sz (e := a) h1; omega))) Tryd.call35 ?_ | refine cpD_ (eqfE_ok a.kids b.kids 14 same (by omega) Tryd.call14 (fun i h1 h2 => ih _ _ (by have := Ex.kid_sz (e := a) h1; omega) (by have := Ex.kid_sz (e := a) h1; omega))) Tryd.call35 ?_
    refine hQ1 _ _ (S_ ?_);clear hQ1 Q1
    refine e_ Tryd.results14 ?_
    first
    | exact True.intro
    | first | (rw [← same_ex]; done) | (rw [← same_ex]; simp only [Bool.and_assoc])
def zM : MM := ⟨List.replicate 6 0, List.replicate 6 0, List.replicate 6 0⟩
@[go_sem high] theorem zM_mobj (id : Nat) : mobj id zM = [(id, .cells 146 [.int .i64 0, .int .i64 0, .int .i64 0, .int .i64 0, .int .i64 0, .int .i64 0, .int .i64 0, .int .i64 0, .int .i64 0, .int .i64 0, .int .i64 0, .int .i64 0, .int .i64 0, .int .i64 0, .int .i64 0, .int .i64 0, .int .i64 0, .int .i64 0])] := rfl
end Go.Proofs.YtnmfmeehmieifaaDoor
namespace Go.Proofs.YtnmfmeehmieifaaDoor
open Go Sg
set_option maxRecDepth 100000
set_option linter.unusedSimpArgs false
set_option linter.unusedVariables false
set_option linter.unusedSectionVars false
set_option maxHeartbeats 4000000
variable [TabK]
theorem salike_ok : ∀ (N : Nat) (a b : Ex), a.sz ≤ N → a.sz ≤ 1099511627776 → PureF Tryd.prog 18 [.agg a.cs, .agg b.cs] [.bool (same a b)] := by
  intro N
  induction N with
  | zero => intro e b h; have := e.sz_pos; omega
  | succ N ih =>
    intro a b hN hs
    have hlen := a.kids_len
    refine pureF_of Tryd.func18 rfl Tryd.ntmps18 (by simp) T_ ?_
    intro f0 B Q hQ
    refine g_ [2,3] ?_
    refine gD_ [2,3,33] ?_
    refine c_ (fun hc0 => ?_) fun hc0 => ?_
    ·
      refine g_ [4] ?_
      refine e_ Tryd.results18 ?_
      first
      | exact True.intro
      | rw [← same_ex]
        have h := hc0
        cases h1 : a.kind == b.kind
        · simp
        · cases h2 : a.n == b.n
          · simp
          · cases h3 : (a.a.kind == b.a.kind && a.a.at' == b.a.at')
            · simp
            · have : (a.kids.length == b.kids.length) = false := by
                simp [bne, h1, h2, h3] at h
                have h4 : ¬ a.kids.length = b.kids.length := by omega
                simpa using h4
              rw [this]; simp
    simp only [Bool.or_eq_false_iff, bne_eq_false_iff_eq, Bool.not_eq_false', Bool.and_eq_true, beq_iff_eq] at hc0
    have hkl : a.kids.length = b.kids.length := by omega
    refine g_ [2,3,5] ?_
    refine n_ ?_
    refine wpM_loopS (fun s n s' => ∃ (i0 M0 : Nat) , i0 + n = a.kids.length ∧ s.M ≤ M0 ∧ ((List.range i0).all (fun i => same (a.kids.getD i default) (b.kids.getD i default)) = true) ∧ s' = { s with env := setE 5 (.int .i64 (i0 : Nat)) s.env, M := M0 }) (a.kids.length) ?_ ?_
    ·
      refine .of' _ _ ⟨0, _, by omega, Nat.le_refl _, by simp, rfl⟩ ?_ ?_ ?_ <;> exact L_
    rintro n0 s' ⟨i0, M0, hi0, hM0, hv0, rfl⟩
    try dsimp only at hM0
    try refine S_ ?_
    refine g_ [2,3,5,38] ?_
    refine c_ (fun hc1 => ?_) fun hc1 => ?_
    ·
      have hks := Ex.kid_sz (e := a) (k := i0) (by omega)
      refine n_ ?_
      refine dr_ mixed [2,3,5,52] 0 2 [B,B + 1] [⟨[2],[],[],[],false⟩,⟨[41],[0],[],[],false⟩,⟨[5],[],[],[],false⟩,⟨[42,43],[],[],[],false⟩,⟨[44],[],[],[],false⟩,⟨[3],[],[],[],false⟩,⟨[46],[1],[],[],false⟩,⟨[5],[],[],[],false⟩,⟨[47,48],[],[],[],false⟩,⟨[49],[],[],[],false⟩,⟨[45,50],[],[],[],true⟩,⟨[51],[],[],[],false⟩] [0,1,2,3,4,5,6,7,8,9,10,11] [[],[0],[],[0,1,2],[0,1,2,3],[],[5],[],[5,6,7],[5,6,7,8],[0,1,2,3,4,5,6,7,8,9],[0,1,2,3,4,5,6,7,8,9,10]] 2 ?_
      intro O A K hO hA hK;simp only [atL_cons,atL_nil,Nat.reduceAdd,Nat.zero_add] at hO hA
      refine SO_ ?_
      refine lp_ (ih (a.kids.getD i0 default) (b.kids.getD i0 default) (by omega) (by omega)) Tryd.call18 ?_
      refine hK _ (S_ ?_);clear hK K hO hA O A
      refine c_ (fun hc2 => ?_) fun hc2 => ?_
      ·
        refine g_ [4] ?_
        refine e_ Tryd.results18 ?_
        first
        | exact True.intro
        | rw [← same_ex]
          have h2 : (!same (a.kids.getD i0 default) (b.kids.getD i0 default)) = true := hc2
          rw [range_no (i := i0) (p := fun i => same (a.kids.getD i default) (b.kids.getD i default)) (by omega) (by simpa using h2)]
          simp
      refine g_ [2,3,5] ?_
      refine .of' _ _ ⟨n0 - 1, by omega, i0 + 1, _, by omega, M_, ?_, rfl⟩ L_ L_ L_
      have h2 : (!same (a.kids.getD i0 default) (b.kids.getD i0 default)) = false := hc2
      rw [range_all, hv0]; simpa using h2
    refine g_ [4] ?_
    refine e_ Tryd.results18 ?_
    first
    | exact True.intro
    | rw [← same_ex]
      have h1 : i0 = a.kids.length := by omega
      rw [← h1, hv0]
      simp [hc0, h1, hkl]
end Go.Proofs.YtnmfmeehmieifaaDoor
namespace Go.Proofs.YtnmfmeehmieifaaDoor
open Go Sg
set_option linter.unusedSectionVars false
variable [Glob]
set_option maxRecDepth 100000
set_option linter.unusedSimpArgs false
set_option linter.unusedVariables false
set_option maxHeartbeats 4000000
theorem l8Some_ok (id : Nat) (bs : List Nat) (q : Int) (n : Nat) (hbs : Bs bs) (hq0 : 0 ≤ q) (hn : n ≤ 100) (hq : q + 101 ≤ 1000000000000) : RdF 49 [.int .i64 (n : Int)] id bs q 101 (fun v => ∃ l : List Int, l.length ≤ 101 ∧ v = .rows 3 (rowsI l)) := by
  refine callF_of' Tryd.func49 rfl Tryd.ntmps49 (by simp) ?_
  intro f0 B ns Q hB hns hQ
  have hid : id < B := hB id (by simp [hasKey, lk])
  obtain rfl : ns = [] := List.eq_nil_of_length_eq_zero hns
  refine g_ [0,1] ?_
  refine g_ [0,1,5] ?_
  refine g_ [0,1,5,6] ?_
  refine n_ ?_
  refine wpM_loopS (fun s r s' => ∃ (i0 M0 y : Nat) (l : List Int) (q' : Int), i0 + r = n ∧ B ≤ y ∧ y < M0 ∧ l.length ≤ i0 ∧ q ≤ q' ∧ q' ≤ q + i0 ∧ s' = { s with env := setE 6 (.int .i64 (i0 : Nat)) (setE 5 (.sl 3 y 0 l.length) s.env), l := [(y, .cells 3 (ints l)), (id, rdObj bs q')], M := M0 }) (n) ?_ ?_
  ·
    refine .of' _ _ ⟨0, _, B, [], q, by omega, by omega, ?_, by simp, by omega, by omega, rfl⟩ ?_ ?_ ?_
    · first | omega | (simp -implicitDefEqProofs (disch := omega) only [go_sem]; done) | (simp -implicitDefEqProofs (disch := omega) only [go_sem]; omega)
    all_goals exact L_
  rintro r s' ⟨i0, M0, y, l, q', hi0, hy, hyM, hll, hqa, hqb, rfl⟩
  try refine S_ ?_
  refine g_ [0,1,5,6,10] ?_
  refine c_ (fun hc0 => ?_) fun hc0 => ?_
  ·
    refine n_ ?_
    refine wpM_regionK [0,1,5,6,15] rfl fun Q1 hQ1 => ?_
    refine S_ ?_
    refine call_fn (l := [(id, rdObj bs q')]) (first := []) (cap := []) (ps := [.ptr id 0, .int .i64 3]) (pick_ok id bs q' 3 hbs (by omega) (by omega) (by omega)) Tryd.call30 rfl rfl rfl G_ T_ ?_
    rintro out ⟨k1, rfl, h1, h2, h3⟩
    refine S_ ?_
    refine hQ1 _ _ (S_ ?_);clear hQ1 Q1
    refine c_ (fun hc1 => ?_) fun hc1 => ?_
    ·
      refine g_ [0,1,5,6] ?_
      refine g_ [0,1,5,6] ?_
      first
      | (refine .of' _ _ ⟨r - 1, by omega, i0 + 1, _, M0 + 1, l ++ [(i0 : Int)], q' + 1, by omega, by omega, ?_, by simp; omega, by omega, by omega, rfl⟩ ?_ ?_ ?_
         · first | omega | (simp -implicitDefEqProofs (disch := omega) only [go_sem]; done) | (simp -implicitDefEqProofs (disch := omega) only [go_sem]; omega)
         all_goals exact L_)
      | (refine .of' _ _ ⟨r - 1, by omega, i0 + 1, _, y, l, q' + 1, by omega, by omega, ?_, by omega, by omega, by omega, rfl⟩ ?_ ?_ ?_
         · first | omega | (simp -implicitDefEqProofs (disch := omega) only [go_sem]; done) | (simp -implicitDefEqProofs (disch := omega) only [go_sem]; omega)
         all_goals exact L_)
    refine g_ [0,1,5,6] ?_
    first
    | (refine .of' _ _ ⟨r - 1, by omega, i0 + 1, _, M0 + 1, l ++ [(i0 : Int)], q' + 1, by omega, by omega, ?_, by simp; omega, by omega, by omega, rfl⟩ ?_ ?_ ?_
       · first | omega | (simp -implicitDefEqProofs (disch := omega) only [go_sem]; done) | (simp -implicitDefEqProofs (disch := omega) only [go_sem]; omega)
       all_goals exact L_)
    | (refine .of' _ _ ⟨r - 1, by omega, i0 + 1, _, y, l, q' + 1, by omega, by omega, ?_, by omega, by omega, by omega, rfl⟩ ?_ ?_ ?_
       · first | omega | (simp -implicitDefEqProofs (disch := omega) only [go_sem]; done) | (simp -implicitDefEqProofs (disch := omega) only [go_sem]; omega)
       all_goals exact L_)
  refine g_ [0,1,5,22] ?_
  refine c_ (fun hc2 => ?_) fun hc2 => ?_
  ·
    refine n_ ?_
    refine wpM_regionK [4] rfl fun Q1 hQ1 => ?_
    refine S_ ?_
    refine call_fn (l := [(id, rdObj bs q')]) (first := []) (cap := []) (ps := [.ptr id 0, .int .i64 n]) (pick_ok id bs q' n hbs (by omega) (by omega) (by omega)) Tryd.call30 rfl rfl rfl G_ T_ ?_
    rintro out ⟨k1, rfl, h1, h2, h3⟩
    refine S_ ?_
    refine hQ1 _ _ (S_ ?_);clear hQ1 Q1
    refine wpM_frz [M0] [(3, M0, 0, 1, rowsI [k1])] (by intro q hq; simp at hq; subst hq; simp -implicitDefEqProofs (disch := omega) only [go_sem]) (by intro q hq; simp only [List.mem_cons, List.not_mem_nil, or_false] at hq; subst hq; exact ⟨by simp, rowsOf_ints' (T := 3) (l := [k1]) (by simp -implicitDefEqProofs (disch := omega) only [go_sem, ints, List.map_cons, List.map_nil]) rfl⟩) ?_
    simp -implicitDefEqProofs (disch := omega) only [go_sem, rdObj]
    refine wpM_ret ?_
    try refine S_ ?_
    first
    | refine hQ _ _ (ret0 [(id, some (rdObj bs (q' + 1)))] rfl rfl rfl (by rw [Tryd.results49] <;> simp (maxSteps := 1000000) -implicitDefEqProofs (disch := omega) only [go_sem] <;> rfl) ⟨_, q' + 1, ⟨[k1], by simp, rfl⟩, by omega, by omega, rfl⟩ ?_ ?_ ?_ ?_) <;> (simp -implicitDefEqProofs (disch := omega) only [go_sem, rdObj, true_or, or_true]; done)
    | refine hQ _ _ (ret0 [(id, some (rdObj bs q'))] rfl rfl rfl (by rw [Tryd.results49] <;> simp (maxSteps := 1000000) -implicitDefEqProofs (disch := omega) only [go_sem] <;> rfl) ⟨_, q', ⟨l, by omega, rfl⟩, by omega, by omega, rfl⟩ ?_ ?_ ?_ ?_) <;> (simp -implicitDefEqProofs (disch := omega) only [go_sem, rdObj, true_or, or_true]; done)
  refine g_ [4] ?_
  refine wpM_frz [y] [(3, y, 0, l.length, rowsI l)] (by intro q hq; simp at hq; subst hq; simp -implicitDefEqProofs (disch := omega) only [go_sem]) (by intro q hq; simp only [List.mem_cons, List.not_mem_nil, or_false] at hq; subst hq; exact ⟨by simp, rowsOf_ints (T := 3) T_⟩) ?_
  simp -implicitDefEqProofs (disch := omega) only [go_sem, rdObj]
  refine wpM_ret ?_
  try refine S_ ?_
  first
  | refine hQ _ _ (ret0 [(id, some (rdObj bs (q' + 1)))] rfl rfl rfl (by rw [Tryd.results49] <;> simp (maxSteps := 1000000) -implicitDefEqProofs (disch := omega) only [go_sem] <;> rfl) ⟨_, q' + 1, ⟨[k1], by simp, rfl⟩, by omega, by omega, rfl⟩ ?_ ?_ ?_ ?_) <;> (simp -implicitDefEqProofs (disch := omega) only [go_sem, rdObj, true_or, or_true]; done)
  | refine hQ _ _ (ret0 [(id, some (rdObj bs q'))] rfl rfl rfl (by rw [Tryd.results49] <;> simp (maxSteps := 1000000) -implicitDefEqProofs (disch := omega) only [go_sem] <;> rfl) ⟨_, q', ⟨l, by omega, rfl⟩, by omega, by omega, rfl⟩ ?_ ?_ ?_ ?_) <;> (simp -implicitDefEqProofs (disch := omega) only [go_sem, rdObj, true_or, or_true]; done)
end Go.Proofs.YtnmfmeehmieifaaDoor
namespace Go.Proofs.YtnmfmeehmieifaaDoor
open Go Sg
set_option linter.unusedSectionVars false
variable [Glob]
set_option maxRecDepth 100000
set_option linter.unusedSimpArgs false
set_option linter.unusedVariables false
set_option maxHeartbeats 4000000
def trc (l : List Trn) : List PV := (rowsT l).flatten
def acc (l : List GAct) : List PV := (rowsA l).flatten
@[go_sem] theorem trc_len (l : List Trn) : (trc l).length = l.length * 7 := by
  induction l with
  | nil => rfl
  | cons e l ih => simp only [trc, rowsT, List.map_cons, List.flatten_cons, List.length_append, Trn.cs, List.length_cons, List.length_nil] at ih ⊢; omega
@[go_sem] theorem acc_len (l : List GAct) : (acc l).length = l.length * 4 := by
  induction l with
  | nil => rfl
  | cons e l ih => simp only [acc, rowsA, List.map_cons, List.flatten_cons, List.length_append, GAct.cs, List.length_cons, List.length_nil] at ih ⊢; omega
@[go_sem] theorem trc_nil : trc [] = [] := rfl
@[go_sem] theorem acc_nil : acc [] = [] := rfl
theorem trc_app (l : List Trn) (e : Trn) : trc l ++ e.cs = trc (l ++ [e]) := by simp [trc, rowsT]
theorem acc_app (l : List GAct) (e : GAct) : acc l ++ e.cs = acc (l ++ [e]) := by simp [acc, rowsA]
@[go_sem] theorem trc_ids (p : Nat → Prop) (l : List Trn) : PV.idsL p (trc l) = True := by
  induction l with
  | nil => simp [trc, rowsT, PV.idsL]
  | cons e l ih => simp only [trc, rowsT, List.map_cons, List.flatten_cons] at ih ⊢; rw [idsL_app, ih]; simp [Trn.cs, PV.idsL, PV.ids]
@[go_sem] theorem acc_ids (p : Nat → Prop) (l : List GAct) : PV.idsL p (acc l) = True := by
  induction l with
  | nil => simp [acc, rowsA, PV.idsL]
  | cons e l ih => simp only [acc, rowsA, List.map_cons, List.flatten_cons] at ih ⊢; rw [idsL_app, ih]; simp [GAct.cs, PV.idsL, PV.ids]
@[go_sem] theorem trc_ren (p : Nat → Nat) (l : List Trn) : PV.renL p (trc l) = trc l := by
  induction l with
  | nil => simp [trc, rowsT, PV.renL]
  | cons e l ih => simp only [trc, rowsT, List.map_cons, List.flatten_cons] at ih ⊢; rw [renL_app, ih]; simp [Trn.cs, PV.renL, PV.ren]
@[go_sem] theorem acc_ren (p : Nat → Nat) (l : List GAct) : PV.renL p (acc l) = acc l := by
  induction l with
  | nil => simp [acc, rowsA, PV.renL]
  | cons e l ih => simp only [acc, rowsA, List.map_cons, List.flatten_cons] at ih ⊢; rw [renL_app, ih]; simp [GAct.cs, PV.renL, PV.ren]
@[go_sem] theorem trc_sub (θ : TypeId → Nat → Nat → Nat → Option PV) (l : List Trn) : PV.subL θ (trc l) = trc l := by
  induction l with
  | nil => simp [trc, rowsT, PV.subL]
  | cons e l ih => simp only [trc, rowsT, List.map_cons, List.flatten_cons] at ih ⊢; rw [subL_app, ih]; simp [Trn.cs, PV.subL, PV.sub]
@[go_sem] theorem acc_sub (θ : TypeId → Nat → Nat → Nat → Option PV) (l : List GAct) : PV.subL θ (acc l) = acc l := by
  induction l with
  | nil => simp [acc, rowsA, PV.subL]
  | cons e l ih => simp only [acc, rowsA, List.map_cons, List.flatten_cons] at ih ⊢; rw [subL_app, ih]; simp [GAct.cs, PV.subL, PV.sub]
theorem rowsOf_trc {f : Nat → Option AObj} {id : Nat} {T : TypeId} {l : List Trn} (h : f id = some (.cells T (trc l))) : RowsOf Tryd.prog f 44 id 0 l.length (rowsT l) := by
  refine ⟨by rw [cellsOf44]; omega, by rw [rowsT_len], ?_, T, _, h, ?_, ?_⟩
  · intro c hc
    rw [rowsT, List.mem_map] at hc
    obtain ⟨x, _, rfl⟩ := hc
    rw [cellsOf44]; exact ⟨rfl, rfl⟩
  · rw [cellsOf44, trc_len]; omega
  · rw [cellsOf44, List.drop_zero, List.take_of_length_le (by rw [trc_len]; omega)]; rfl
theorem rowsOf_acc {f : Nat → Option AObj} {id : Nat} {T : TypeId} {l : List GAct} (h : f id = some (.cells T (acc l))) : RowsOf Tryd.prog f 51 id 0 l.length (rowsA l) := by
  refine ⟨by rw [cellsOf51]; omega, by rw [rowsA_len], ?_, T, _, h, ?_, ?_⟩
  · intro c hc
    rw [rowsA, List.mem_map] at hc
    obtain ⟨x, _, rfl⟩ := hc
    rw [cellsOf51]; exact ⟨rfl, rfl⟩
  · rw [cellsOf51, acc_len]; omega
  · rw [cellsOf51, List.drop_zero, List.take_of_length_le (by rw [acc_len]; omega)]; rfl
def TSm (l : List Trn) : Prop := l.length ≤ 10 ∧ ∀ t ∈ l, t.Sm
theorem TSm.app {l : List Trn} {t : Trn} (h : TSm l) (hl : l.length < 10) (ht : t.Sm) : TSm (l ++ [t]) := ⟨by simp; omega, fun x hx => by
  rcases List.mem_append.1 hx with h1 | h1
  · exact h.2 x h1
  · rw [List.mem_singleton.1 h1]; exact ht⟩
theorem TSm.nil : TSm [] := ⟨by simp, fun x hx => by simp at hx⟩
theorem l8Chart_ok (id : Nat) (bs : List Nat) (q : Int) (hbs : Bs bs) (hq0 : 0 ≤ q) (hq : q + 2000 ≤ 1000000000000) : CallF Tryd.prog 29 [.ptr id 0] [(id, rdObj bs q)] 2 (fun ns o => ∃ x y st ts acs q', ns = [x, y] ∧ TSm ts ∧ ts.length ≤ 4 ∧ acs.length ≤ 4 ∧ q ≤ q' ∧ q' ≤ q + 2000 ∧ o = { rs := [.agg [.int .i64 st, .sl 44 x 0 ts.length, .sl 51 y 0 acs.length]], u := [(id, some (rdObj bs q'))], nw := [(x, .cells 44 (trc ts)), (y, .cells 51 (acc acs))] }) := by
  refine callF_of' Tryd.func29 rfl Tryd.ntmps29 (by simp) ?_
  intro f0 B ns Q hB hns hQ
  have hid : id < B := hB id (by simp [hasKey, lk])
  obtain ⟨x, y, rfl⟩ : ∃ x y, ns = [x, y] := by
    match ns, hns with
    | [x, y], _ => exact ⟨x, y, rfl⟩
  have b2 : eb 2 = 28 := rfl
  have s2 : es 2 = 7 := rfl
  refine g_ [0,2] ?_
  refine n_ ?_
  refine wpM_regionK [0,2,3] rfl fun Q1 hQ1 => ?_
  refine S_ ?_
  refine call_fn (l := [(id, rdObj bs q)]) (first := []) (cap := []) (ps := [.ptr id 0, .int .i64 4]) (pick_ok id bs q 4 hbs (by omega) (by omega) (by omega)) Tryd.call30 rfl rfl rfl G_ T_ ?_
  rintro out ⟨k0, rfl, h01, h02, h03⟩
  refine S_ ?_
  refine hQ1 _ _ (S_ ?_);clear hQ1 Q1
  refine n_ ?_
  refine wpM_regionK [0,2,3,4] rfl fun Q1 hQ1 => ?_
  refine S_ ?_
  refine call_fn (l := [(id, rdObj bs (q + 1))]) (first := []) (cap := []) (ps := [.ptr id 0, .int .i64 5]) (pick_ok id bs (q + 1) 5 hbs (by omega) (by omega) (by omega)) Tryd.call30 rfl rfl rfl G_ T_ ?_
  rintro out ⟨n0, rfl, h11, h12, h13⟩
  refine S_ ?_
  refine hQ1 _ _ (S_ ?_);clear hQ1 Q1
  obtain ⟨n, rfl⟩ := Int.eq_ofNat_of_zero_le h11
  obtain ⟨sn, hsn⟩ : ∃ sn : Nat, 1 + k0 = (sn : Int) := ⟨(1 + k0).toNat, by omega⟩
  rw [hsn]
  refine wpM_nil 44 [(0, .ptr id 0), (2, .ptr B 0), (3, .ptr (B + 1) 0), (4, .int .i64 (n : Int))] [(B + 1, .cells 26 [.int .i64 (sn : Int), .sl 44 (B + 2) 0 0, .emp]), (B, .cells 26 [.int .i64 0, .emp, .emp]), (id, rdObj bs (q + 1 + 1))] T_ T_ T_ ?_
  simp -implicitDefEqProofs (disch := omega) only [go_sem]
  refine wpM_nil 51 [(0, .ptr id 0), (2, .ptr B 0), (3, .ptr (B + 1) 0), (4, .int .i64 (n : Int))] [(B + 2, .cells 44 []), (B + 1, .cells 26 [.int .i64 (sn : Int), .sl 44 (B + 2) 0 0, .sl 51 (B + 3) 0 0]), (B, .cells 26 [.int .i64 0, .emp, .emp]), (id, rdObj bs (q + 1 + 1))] T_ T_ T_ ?_
  simp -implicitDefEqProofs (disch := omega) only [go_sem]
  refine n_ ?_
  refine wpM_loopS (fun s r s' => ∃ (M0 y : Nat) (l : List Trn) (q' : Int), l.length + r = n ∧ (y = B + 2 ∨ B + 4 ≤ y) ∧ y < M0 ∧ B + 4 ≤ M0 ∧ TSm l ∧ q + 2 ≤ q' ∧ q' ≤ q + 2 + 240 * (l.length : Int) ∧ s' = { s with env := setE 4 (.int .i64 (r : Nat)) s.env, l := [(y, .cells 44 (trc l)), (B + 3, .cells 51 []), (B + 1, .cells 26 [.int .i64 (sn : Int), .sl 44 y 0 l.length, .sl 51 (B + 3) 0 0]), (B, .cells 26 [.int .i64 0, .emp, .emp]), (id, rdObj bs q')], M := M0 }) (n) ?_ ?_
  ·
    refine .of' _ _ ⟨B + 4, B + 2, [], q + 1 + 1, by simp, by omega, by omega, by omega, TSm.nil, by omega, by simp; omega, rfl⟩ ?_ ?_ ?_ <;> exact L_
  rintro r s' ⟨M0, y', l, q', hlr, hy, hyM, hM0, hsm, hqa, hqb, rfl⟩
  try refine S_ ?_
  refine g_ [0,2,3,4,14] ?_
  refine c_ (fun hc0 => ?_) fun hc0 => ?_
  ·
    refine n_ ?_
    refine dr_ mixed [0,2,3,4,5] 3 2 [B + 1, id, M0, M0 + 1, M0 + 2] [⟨[0],[],[],[],false⟩,⟨[3],[],[],[],false⟩,⟨[18],[0],[],[],false⟩,⟨[17,19],[1],[1],[],true⟩,⟨[20],[],[],[2],false⟩,⟨[0],[],[],[],false⟩,⟨[3],[],[],[],false⟩,⟨[23],[0],[],[],false⟩,⟨[22,24],[1],[1],[],true⟩,⟨[25],[],[],[3],false⟩,⟨[0],[],[],[],false⟩,⟨[0],[],[],[],false⟩,⟨[28],[1],[1],[],true⟩,⟨[29],[],[],[],false⟩,⟨[27,30],[1],[1],[],true⟩,⟨[21,26,31],[],[],[],false⟩,⟨[],[],[],[4],false⟩,⟨[5,32],[4],[4],[],false⟩] [0,1,2,5,6,7,10,11,16,3,4,8,9,12,13,14,15,17] [[],[],[1],[0,1,2],[0,1,2,3],[],[],[6],[0,1,2,3,5,6,7],[0,1,2,3,5,6,7,8],[],[],[0,1,2,3,5,6,7,8,11],[0,1,2,3,5,6,7,8,11,12],[0,1,2,3,5,6,7,8,10,11,12,13],[0,1,2,3,4,5,6,7,8,9,10,11,12,13,14],[],[0,1,2,3,4,5,6,7,8,9,10,11,12,13,14,15,16]] 5 (htbl := by simp; omega) (hnm := by simp) ?_
    intro O A K hO hA hK;simp only [atL_cons,atL_nil,Nat.reduceAdd,Nat.zero_add] at hO hA
    refine SO_ ?_
    refine loud_fn (first := []) (cap := []) (ps := [.ptr id 0, .int .i64 sn]) (l := [(id, rdObj bs (q'))]) (pick_ok id bs (q') sn hbs (by omega) (by omega) (by omega)) Tryd.call30 rfl rfl F_ (subG_spec T_) rfl ?_
    rintro out ⟨k1, rfl, h21, h22, h23⟩
    refine ⟨rfl, ?_⟩
    refine SO_ ?_
    refine loud_fn (first := []) (cap := []) (ps := [.ptr id 0, .int .i64 sn]) (l := [(id, rdObj bs (q' + 1))]) (pick_ok id bs (q' + 1) sn hbs (by omega) (by omega) (by omega)) Tryd.call30 rfl rfl F_ (subG_spec T_) rfl ?_
    rintro out ⟨k2, rfl, h31, h32, h33⟩
    refine ⟨rfl, ?_⟩
    refine SO_ ?_
    refine loud_fn (first := []) (cap := []) (ps := [.ptr id 0, .int .i64 2]) (l := [(id, rdObj bs (q' + 1 + 1))]) (pick_ok id bs (q' + 1 + 1) 2 hbs (by omega) (by omega) (by omega)) Tryd.call30 rfl rfl F_ (subG_spec T_) rfl ?_
    rintro out ⟨k3, rfl, h41, h42, h43⟩
    refine ⟨rfl, ?_⟩
    refine SO_ ?_
    refine loud_fn (first := []) (cap := []) (ps := [.ptr id 0, .int .i64 (1 + k3)]) (l := [(id, rdObj bs (q' + 1 + 1 + 1))]) (l3Expr_ok id bs hbs 2 (q' + 1 + 1 + 1) (1 + k3) (by omega) (by omega) (by omega) (by omega)) Tryd.call32 rfl rfl F_ (subG_spec T_) rfl ?_
    rintro out ⟨_, q1, ⟨e, hes, rfl⟩, hqc, hqd, rfl⟩
    refine ⟨rfl, ?_⟩
    refine SO_ ?_
    refine hK _ (S_ ?_);clear hK K hO hA O A
    refine wpM_frz [M0, M0 + 1] [(3, M0, 0, 1, rowsI [k1]), (3, M0 + 1, 0, 1, rowsI [k2])] (by intro q hq; simp at hq; rcases hq with rfl | rfl <;> simp -implicitDefEqProofs (disch := omega) only [go_sem]) (by
      intro q hq
      simp only [List.mem_cons, List.not_mem_nil, or_false] at hq
      rcases hq with rfl | rfl
      · exact ⟨by simp, rowsOf_ints' (T := 3) (l := [k1]) (by simp -implicitDefEqProofs (disch := omega) only [go_sem, ints, List.map_cons, List.map_nil]) rfl⟩
      · exact ⟨by simp, rowsOf_ints' (T := 3) (l := [k2]) (by simp -implicitDefEqProofs (disch := omega) only [go_sem, ints, List.map_cons, List.map_nil]) rfl⟩) ?_
    simp -implicitDefEqProofs (disch := omega) only [go_sem]
    refine n_ ?_
    refine wpM_regionK [0,2,3,4,5,35] rfl fun Q1 hQ1 => ?_
    refine S_ ?_
    refine call_fn (l := [(id, rdObj bs q1)]) (first := []) (cap := []) (ps := [.ptr id 0, .int .i64 3]) (pick_ok id bs q1 3 hbs (by omega) (by omega) (by omega)) Tryd.call30 rfl rfl rfl G_ T_ ?_
    rintro out ⟨k4, rfl, h51, h52, h53⟩
    refine S_ ?_
    refine hQ1 _ _ (S_ ?_);clear hQ1 Q1
    refine c_ (fun hc1 => ?_) fun hc1 => ?_
    ·
      refine n_ ?_
      refine wpM_regionK [0,2,3,4,5] rfl fun Q1 hQ1 => ?_
      refine S_ ?_
      refine call_fn (l := [(id, rdObj bs (q1 + 1))]) (first := []) (cap := []) (ps := [.ptr id 0, .int .i64 (sn : Int)]) (l8Some_ok id bs (q1 + 1) sn hbs (by omega) (by omega) (by omega)) Tryd.call49 rfl rfl rfl G_ T_ ?_
      rintro out ⟨_, q3, ⟨l1, hl1, rfl⟩, hqe, hqf, rfl⟩
      refine S_ ?_
      refine hQ1 _ _ (S_ ?_);clear hQ1 Q1
      refine wpM_regionK [0,2,3,4,5] rfl fun Q1 hQ1 => ?_
      refine S_ ?_
      refine call_fn (l := [(id, rdObj bs q3)]) (first := []) (cap := []) (ps := [.ptr id 0, .int .i64 (sn : Int)]) (l8Some_ok id bs q3 sn hbs (by omega) (by omega) (by omega)) Tryd.call49 rfl rfl rfl G_ T_ ?_
      rintro out ⟨_, q4, ⟨l2, hl2, rfl⟩, hqg, hqh, rfl⟩
      refine S_ ?_
      refine hQ1 _ _ (S_ ?_);clear hQ1 Q1
      refine g_ [0,2,3,4] ?_
      refine g_ [0,2,3,4] ?_
      first
      | (have e1 : trc l ++ [PV.rows 3 (rowsI l1), .rows 3 (rowsI l2), .int .i64 e.kind, .int .i64 e.n, .int .i64 e.a.kind, .int .i64 e.a.at', .rows 42 (Ex.csL e.kids)] = trc (l ++ [⟨l1, l2, e⟩]) := by rw [← trc_app]; rfl
         rw [e1, show ((r : Int) - 1) = ((r - 1 : Nat) : Int) by omega]
         refine .of' _ _ ⟨r - 1, by omega, M0 + 5, M0 + 4, l ++ [⟨l1, l2, e⟩], q4, by simp; omega, by omega, by omega, by omega, TSm.app hsm (by omega) ⟨by show l1.length ≤ _; omega, by show l2.length ≤ _; omega, by show e.sz ≤ _; omega⟩, by omega, by simp; omega, rfl⟩ ?_ ?_ ?_
         all_goals exact L_)
      | (have e1 : trc l ++ [PV.rows 3 (rowsI [k1]), .rows 3 (rowsI [k2]), .int .i64 e.kind, .int .i64 e.n, .int .i64 e.a.kind, .int .i64 e.a.at', .rows 42 (Ex.csL e.kids)] = trc (l ++ [⟨[k1], [k2], e⟩]) := by rw [← trc_app]; rfl
         rw [e1, show ((r : Int) - 1) = ((r - 1 : Nat) : Int) by omega]
         refine .of' _ _ ⟨r - 1, by omega, M0 + 5, M0 + 4, l ++ [⟨[k1], [k2], e⟩], q1 + 1, by simp; omega, by omega, by omega, by omega, TSm.app hsm (by omega) ⟨by simp, by simp, by show e.sz ≤ _; omega⟩, by omega, by simp; omega, rfl⟩ ?_ ?_ ?_
         all_goals exact L_)
    refine g_ [0,2,3,4] ?_
    refine g_ [0,2,3,4] ?_
    first
    | (have e1 : trc l ++ [PV.rows 3 (rowsI l1), .rows 3 (rowsI l2), .int .i64 e.kind, .int .i64 e.n, .int .i64 e.a.kind, .int .i64 e.a.at', .rows 42 (Ex.csL e.kids)] = trc (l ++ [⟨l1, l2, e⟩]) := by rw [← trc_app]; rfl
       rw [e1, show ((r : Int) - 1) = ((r - 1 : Nat) : Int) by omega]
       refine .of' _ _ ⟨r - 1, by omega, M0 + 5, M0 + 4, l ++ [⟨l1, l2, e⟩], q4, by simp; omega, by omega, by omega, by omega, TSm.app hsm (by omega) ⟨by show l1.length ≤ _; omega, by show l2.length ≤ _; omega, by show e.sz ≤ _; omega⟩, by omega, by simp; omega, rfl⟩ ?_ ?_ ?_
       all_goals exact L_)
    | (have e1 : trc l ++ [PV.rows 3 (rowsI [k1]), .rows 3 (rowsI [k2]), .int .i64 e.kind, .int .i64 e.n, .int .i64 e.a.kind, .int .i64 e.a.at', .rows 42 (Ex.csL e.kids)] = trc (l ++ [⟨[k1], [k2], e⟩]) := by rw [← trc_app]; rfl
       rw [e1, show ((r : Int) - 1) = ((r - 1 : Nat) : Int) by omega]
       refine .of' _ _ ⟨r - 1, by omega, M0 + 5, M0 + 4, l ++ [⟨[k1], [k2], e⟩], q1 + 1, by simp; omega, by omega, by omega, by omega, TSm.app hsm (by omega) ⟨by simp, by simp, by show e.sz ≤ _; omega⟩, by omega, by simp; omega, rfl⟩ ?_ ?_ ?_
       all_goals exact L_)
  refine n_ ?_
  have hr0 : r = 0 := by omega
  have hll : l.length ≤ 4 := by omega
  refine wpM_regionK [0,2,3,6] rfl fun Q1 hQ1 => ?_
  refine S_ ?_
  refine call_fn (l := [(id, rdObj bs q')]) (first := []) (cap := []) (ps := [.ptr id 0, .int .i64 5]) (pick_ok id bs q' 5 hbs (by omega) (by omega) (by omega)) Tryd.call30 rfl rfl rfl G_ T_ ?_
  rintro out ⟨n1, rfl, h61, h62, h63⟩
  refine S_ ?_
  refine hQ1 _ _ (S_ ?_);clear hQ1 Q1
  obtain ⟨n2, rfl⟩ := Int.eq_ofNat_of_zero_le h61
  obtain ⟨q2, hq2⟩ : ∃ q2, q2 = q' + 1 := ⟨_, rfl⟩
  rw [← hq2]
  refine n_ ?_
  refine wpM_loopS (fun s r s' => ∃ (M1 y2 : Nat) (la : List GAct) (q'' : Int), la.length + r = n2 ∧ (y2 = B + 3 ∨ M0 ≤ y2) ∧ y2 < M1 ∧ M0 ≤ M1 ∧ q2 ≤ q'' ∧ q'' ≤ q2 + 3 * (la.length : Int) ∧ s' = { s with env := setE 6 (.int .i64 (r : Nat)) s.env, l := [(y2, .cells 51 (acc la)), (y', .cells 44 (trc l)), (B + 1, .cells 26 [.int .i64 (sn : Int), .sl 44 y' 0 l.length, .sl 51 y2 0 la.length]), (B, .cells 26 [.int .i64 0, .emp, .emp]), (id, rdObj bs q'')], M := M1 }) (n2) ?_ ?_
  ·
    refine .of' _ _ ⟨M0, B + 3, [], q2, by simp, by omega, by omega, by omega, by omega, by simp, rfl⟩ ?_ ?_ ?_ <;> exact L_
  rintro r1 s' ⟨M1, y2, la, q'', hlar, hy2, hy2M, hM1, hq0'', hqb'', rfl⟩
  try refine S_ ?_
  refine g_ [0,2,3,6,55] ?_
  refine c_ (fun hc2 => ?_) fun hc2 => ?_
  ·
    refine n_ ?_
    refine dr_ mixed [0,2,3,6] 2 3 [B + 1, id, y2, M1, M1 + 1] [⟨[3],[],[],[],false⟩,⟨[58],[0],[],[],false⟩,⟨[0],[],[],[],false⟩,⟨[60],[1],[1],[],true⟩,⟨[61],[],[],[],false⟩,⟨[0],[],[],[],false⟩,⟨[3],[],[],[],false⟩,⟨[64],[0],[],[],false⟩,⟨[63,65],[1],[1],[],true⟩,⟨[0],[],[],[],false⟩,⟨[67],[1],[1],[],true⟩,⟨[68],[],[],[],false⟩,⟨[62,66,69],[],[],[],false⟩,⟨[70],[],[],[3],false⟩,⟨[59,71],[2,3],[2],[4],false⟩,⟨[3],[],[],[],false⟩,⟨[72,73],[0],[0],[],false⟩] [0,1,2,5,6,7,9,3,4,8,10,11,12,13,14,15,16] [[],[0],[],[2],[2,3],[],[],[6],[2,3,5,6,7],[],[2,3,5,6,7,8,9],[2,3,5,6,7,8,9,10],[2,3,4,5,6,7,8,9,10,11],[2,3,4,5,6,7,8,9,10,11,12],[0,1,2,3,4,5,6,7,8,9,10,11,12,13],[0,1,2,3,4,5,6,7,8,9,10,11,12,13,14],[0,1,2,3,4,5,6,7,8,9,10,11,12,13,14,15]] 5 (htbl := by simp; omega) (hnm := by simp) ?_
    intro O A K hO hA hK;simp only [atL_cons,atL_nil,Nat.reduceAdd,Nat.zero_add] at hO hA
    refine SO_ ?_
    refine loud_fn (first := []) (cap := []) (ps := [.ptr id 0, .int .i64 4]) (l := [(id, rdObj bs (q''))]) (pick_ok id bs (q'') 4 hbs (by omega) (by omega) (by omega)) Tryd.call30 rfl rfl F_ (subG_spec T_) rfl ?_
    rintro out ⟨g1, rfl, h21, h22, h23⟩
    refine ⟨rfl, ?_⟩
    refine SO_ ?_
    refine loud_fn (first := []) (cap := []) (ps := [.ptr id 0, .int .i64 sn]) (l := [(id, rdObj bs (q'' + 1))]) (pick_ok id bs (q'' + 1) sn hbs (by omega) (by omega) (by omega)) Tryd.call30 rfl rfl F_ (subG_spec T_) rfl ?_
    rintro out ⟨g2, rfl, h31, h32, h33⟩
    refine ⟨rfl, ?_⟩
    refine SO_ ?_
    refine loud_fn (first := []) (cap := []) (ps := [.ptr id 0, .int .i64 3]) (l := [(id, rdObj bs (q'' + 1 + 1))]) (pick_ok id bs (q'' + 1 + 1) 3 hbs (by omega) (by omega) (by omega)) Tryd.call30 rfl rfl F_ (subG_spec T_) rfl ?_
    rintro out ⟨g3, rfl, h41, h42, h43⟩
    refine ⟨rfl, ?_⟩
    refine SO_ ?_
    refine hK _ (S_ ?_);clear hK K hO hA O A
    refine g_ [0,2,3,6] ?_
    have e1 : acc la ++ [PV.int .i64 (1 + g1), .int .i64 g2, .int .i64 2, .int .i64 g3] = acc (la ++ [⟨1 + g1, g2, ⟨2, g3⟩⟩]) := by rw [← acc_app]; rfl
    rw [e1, show ((r1 : Int) - 1) = ((r1 - 1 : Nat) : Int) by omega]
    refine .of' _ _ ⟨r1 - 1, by omega, _, M1 + 1, la ++ [⟨1 + g1, g2, ⟨2, g3⟩⟩], q'' + 1 + 1 + 1, by simp; omega, by omega, ?_, ?_, by omega, by simp; omega, rfl⟩ ?_ ?_ ?_
    · first | omega | (simp -implicitDefEqProofs (disch := omega) only [go_sem]; done) | (simp -implicitDefEqProofs (disch := omega) only [go_sem]; omega)
    · first | omega | (simp -implicitDefEqProofs (disch := omega) only [go_sem]; done) | (simp -implicitDefEqProofs (disch := omega) only [go_sem]; omega)
    all_goals exact L_
  refine n_ ?_
  have hr0' : r1 = 0 := by omega
  refine g_ [2] ?_
  refine wpM_ret ?_
  try refine S_ ?_
  refine hQ _ _ (retK [y', y2] [(id, some (rdObj bs q''))] [(x, .cells 44 (trc l)), (y, .cells 51 (acc la))] rfl rfl rfl (by rw [Tryd.results29] <;> simp (maxSteps := 1000000) -implicitDefEqProofs (disch := omega) only [go_sem] <;> rfl) ?_ ⟨x, y, sn, l, la, q'', rfl, hsm, by omega, by omega, by omega, by omega, rfl⟩ ?_ ?_ ?_ ?_ ?_ ?_)
  all_goals (simp -implicitDefEqProofs (disch := omega) only [go_sem, rdObj, List.nodup_cons, List.nodup_nil, true_or, or_true, List.mem_cons, List.not_mem_nil] <;> omega)
end Go.Proofs.YtnmfmeehmieifaaDoor
namespace Go.Proofs.YtnmfmeehmieifaaDoor
open Go Sg
set_option linter.unusedSectionVars false
variable [Glob]
set_option maxRecDepth 100000
set_option linter.unusedSimpArgs false
set_option linter.unusedVariables false
set_option maxHeartbeats 4000000
theorem TSm.cht (st : Int) {ts : List Trn} {acs : List GAct} (h : TSm ts) (ha : acs.length ≤ 10) : (⟨st, ts, acs⟩ : Cht).Sm :=
  ⟨by have := h.1; show ts.length ≤ _; omega, by show acs.length ≤ _; omega, fun i hi => h.2 _ (by rw [List.getD_eq_getElem?_getD, List.getElem?_eq_getElem hi]; exact List.getElem_mem hi)⟩
theorem frzTA {r : Option Nat} {N : Nat} {c : Code} {s : MS} {Q : ExitA → MS → Prop} (x y : Nat) (ts : List Trn) (acs : List GAct) (hx : s.B ≤ x) (hy : s.B ≤ y) (h1 : s.f x = some (.cells 44 (trc ts))) (h2 : s.f y = some (.cells 51 (acc acs)))
    (h : wpM Tryd.prog r N c (s.frz [x, y] [(44, x, 0, ts.length, rowsT ts), (51, y, 0, acs.length, rowsA acs)]) Q) : wpM Tryd.prog r N c s Q := by
  refine wpM_frz [x, y] _ (by intro q hq; simp at hq; rcases hq with rfl | rfl <;> assumption) (by
      intro q hq
      simp only [List.mem_cons, List.not_mem_nil, or_false] at hq
      rcases hq with rfl | rfl
      · exact ⟨by simp, rowsOf_trc (T := 44) (l := ts) h1⟩
      · exact ⟨by simp, rowsOf_acc (T := 51) (l := acs) h2⟩) h
theorem frzI {r : Option Nat} {N : Nat} {c : Code} {s : MS} {Q : ExitA → MS → Prop} (x n : Nat) (l : List Int) (hn : l.length = n) (hx : s.B ≤ x) (h1 : s.f x = some (.cells 3 (ints l)))
    (h : wpM Tryd.prog r N c (s.frz [x] [(3, x, 0, n, rowsI l)]) Q) : wpM Tryd.prog r N c s Q := by
  refine wpM_frz [x] _ (by intro q hq; simp at hq; subst hq; assumption) (by
      intro q hq
      simp only [List.mem_cons, List.not_mem_nil, or_false] at hq
      subst hq
      exact ⟨by simp, rowsOf_ints' (T := 3) (l := l) h1 hn⟩) h
theorem l8Bent_ok (id : Nat) (bs : List Nat) (q : Int) (hbs : Bs bs) (hq0 : 0 ≤ q) (hq : q + 3000 ≤ 1000000000000) : RdF 10 [] id bs q 3000 (fun v => ∃ c : Cht, c.Sm ∧ v = .agg c.cs) := by
  refine callF_of' Tryd.func10 rfl Tryd.ntmps10 (by simp) ?_
  intro f0 B ns Q hB hns hQ
  have hid : id < B := hB id (by simp [hasKey, lk])
  obtain rfl : ns = [] := List.eq_nil_of_length_eq_zero hns
  have b0 : eb 0 = 4 := rfl
  have s0 : es 0 = 1 := rfl
  refine g_ [0,2] ?_
  refine n_ ?_
  refine wpM_regionK [0,2,3] rfl fun Q1 hQ1 => ?_
  refine S_ ?_
  refine call_fn (l := [(id, rdObj bs q)]) (first := []) (cap := []) (ps := [.ptr id 0]) (l8Chart_ok id bs q hbs hq0 (by omega)) Tryd.call29 rfl rfl rfl G_ T_ ?_
  rintro out ⟨x', y', st, ts, acs, q', ⟨⟩, hsm, htl, hal, hqa, hqb, rfl⟩
  refine S_ ?_
  refine hQ1 _ _ (S_ ?_);clear hQ1 Q1
  refine n_ ?_
  refine wpM_regionK [0,2,3,7] rfl fun Q1 hQ1 => ?_
  refine S_ ?_
  refine call_fn (l := [(id, rdObj bs q')]) (first := []) (cap := []) (ps := [.ptr id 0, .int .i64 50]) (pick_ok id bs q' 50 hbs (by omega) (by omega) (by omega)) Tryd.call30 rfl rfl rfl G_ T_ ?_
  rintro out ⟨k1, rfl, h1, h2, h3⟩
  refine S_ ?_
  have hS : TSm ts := hsm
  have hA : acs.length ≤ 10 := by omega
  refine hQ1 _ _ (S_ ?_);clear hQ1 Q1
  refine g_ [0,2,3,7,8] ?_
  refine c_ (fun hc0 => ?_) fun hc0 => ?_
  ·
    refine wpM_regionK [2,3] rfl fun Q1 hQ1 => ?_
    refine S_ ?_
    refine call_fn (l := [(id, rdObj bs (q' + 1)), (B + 4, .cells 3 (ints [0, 6, 7]))]) (first := []) (cap := []) (ps := [.ptr id 0, .sl 3 (B + 4) 0 3]) (num_ok id (B + 4) bs (q' + 1) [0, 6, 7] 3 rfl (by omega) (by omega) (by omega) hbs (by omega) (by omega)) Tryd.call31 rfl rfl rfl G_ (by simp -implicitDefEqProofs (disch := omega) only [go_sem, ints, List.map_cons, List.map_nil]) ?_
    rintro out ⟨k2, rfl, h4⟩
    refine S_ ?_
    refine hQ1 _ _ (S_ ?_);clear hQ1 Q1
    refine frzTA (B + 1) (B + 2) ts acs T_ T_ T_ T_ ?_
    simp -implicitDefEqProofs (disch := omega) only [go_sem]
    refine g_ [2] ?_
    refine wpM_ret ?_
    try refine S_ ?_
    first
    | refine hQ _ _ (ret0 [(id, some (rdObj bs (q2)))] rfl rfl rfl (by rw [Tryd.results10] <;> simp (maxSteps := 1000000) -implicitDefEqProofs (disch := omega) only [go_sem] <;> rfl) ⟨_, q2, ⟨_, TSm.cht _ hS hA, rfl⟩, by omega, by omega, rfl⟩ ?_ ?_ ?_ ?_) <;> (simp -implicitDefEqProofs (disch := omega) only [go_sem, rdObj, true_or, or_true]; done)
    | refine hQ _ _ (ret0 [(id, some (rdObj bs (q' + 1 + 1)))] rfl rfl rfl (by rw [Tryd.results10] <;> simp (maxSteps := 1000000) -implicitDefEqProofs (disch := omega) only [go_sem] <;> rfl) ⟨_, q' + 1 + 1, ⟨_, TSm.cht _ hS hA, rfl⟩, by omega, by omega, rfl⟩ ?_ ?_ ?_ ?_) <;> (simp -implicitDefEqProofs (disch := omega) only [go_sem, rdObj, true_or, or_true]; done)
    | refine hQ _ _ (ret0 [(id, some (rdObj bs (q' + 1)))] rfl rfl rfl (by rw [Tryd.results10] <;> simp (maxSteps := 1000000) -implicitDefEqProofs (disch := omega) only [go_sem] <;> rfl) ⟨_, q' + 1, ⟨_, TSm.cht _ hS hA, rfl⟩, by omega, by omega, rfl⟩ ?_ ?_ ?_ ?_) <;> (simp -implicitDefEqProofs (disch := omega) only [go_sem, rdObj, true_or, or_true]; done)
  refine g_ [0,2,3,7,14] ?_
  refine c_ (fun hc1 => ?_) fun hc1 => ?_
  ·
    refine dr_ mixed [2,3] 4 3 [B + 3, id, B + 1, B + 4, B + 5, B + 6, B + 7] [⟨[3],[],[],[],false⟩,⟨[16],[0],[],[],false⟩,⟨[],[],[],[3],false⟩,⟨[3],[],[],[],false⟩,⟨[19],[0],[],[],false⟩,⟨[20],[],[],[4],false⟩,⟨[0],[],[],[],false⟩,⟨[22],[1],[1],[],true⟩,⟨[18,21,23],[],[],[],false⟩,⟨[24],[],[],[5],false⟩,⟨[17,25],[2,5],[2],[6],false⟩,⟨[3],[],[],[],false⟩,⟨[26,27],[0],[0],[],false⟩] [0,1,2,3,4,5,6,7,8,9,10,11,12] [[],[0],[],[],[3],[3,4],[],[6],[2,3,4,5,6,7],[2,3,4,5,6,7,8],[0,1,2,3,4,5,6,7,8,9],[0,1,2,3,4,5,6,7,8,9,10],[0,1,2,3,4,5,6,7,8,9,10,11]] 7 (htbl := by simp; omega) (hnm := by simp) ?_
    intro O A K hO hA hK;simp only [atL_cons,atL_nil,Nat.reduceAdd,Nat.zero_add] at hO hA
    refine SO_ ?_
    refine loud_fn (first := []) (cap := []) (ps := [.ptr id 0, .int .i64 1]) (l := [(id, rdObj bs (q' + 1))]) (l3Expr_ok id bs hbs 0 (q' + 1) 1 (by omega) (by omega) (by omega) (by omega)) Tryd.call32 rfl rfl F_ (subG_spec T_) rfl ?_
    rintro out ⟨_, q2, ⟨e, hes, rfl⟩, hqc, hqd, rfl⟩
    refine ⟨rfl, ?_⟩
    refine SO_ ?_
    refine hK _ (S_ ?_);clear hK K hO hA O A
    refine frzI (B + 4) 1 [0] rfl T_ (by simp -implicitDefEqProofs (disch := omega) only [go_sem, ints, List.map_cons, List.map_nil]) ?_
    simp -implicitDefEqProofs (disch := omega) only [go_sem, subL_app]
    refine frzI (B + 5) 1 [st] rfl T_ (by simp -implicitDefEqProofs (disch := omega) only [go_sem, ints, List.map_cons, List.map_nil]) ?_
    simp -implicitDefEqProofs (disch := omega) only [go_sem, subL_app]
    rw [show trc ts ++ [PV.rows 3 (rowsI [0]), .rows 3 (rowsI [st]), .int .i64 e.kind, .int .i64 e.n, .int .i64 e.a.kind, .int .i64 e.a.at', .rows 42 (Ex.csL e.kids)] = trc (ts ++ [⟨[0], [st], e⟩]) from by rw [← trc_app]; rfl]
    have hS : TSm (ts ++ [⟨[0], [st], e⟩]) := TSm.app hsm (by omega) ⟨by simp, by simp, by show e.sz ≤ _; omega⟩
    rw [show ts.length + 1 = (ts ++ [(⟨[0], [st], e⟩ : Trn)]).length by simp]
    refine frzTA (B + 7) (B + 2) (ts ++ [(⟨[0], [st], e⟩ : Trn)]) acs T_ T_ T_ T_ ?_
    simp -implicitDefEqProofs (disch := omega) only [go_sem]
    refine g_ [2] ?_
    refine wpM_ret ?_
    try refine S_ ?_
    first
    | refine hQ _ _ (ret0 [(id, some (rdObj bs (q2)))] rfl rfl rfl (by rw [Tryd.results10] <;> simp (maxSteps := 1000000) -implicitDefEqProofs (disch := omega) only [go_sem] <;> rfl) ⟨_, q2, ⟨_, TSm.cht _ hS hA, rfl⟩, by omega, by omega, rfl⟩ ?_ ?_ ?_ ?_) <;> (simp -implicitDefEqProofs (disch := omega) only [go_sem, rdObj, true_or, or_true]; done)
    | refine hQ _ _ (ret0 [(id, some (rdObj bs (q' + 1 + 1)))] rfl rfl rfl (by rw [Tryd.results10] <;> simp (maxSteps := 1000000) -implicitDefEqProofs (disch := omega) only [go_sem] <;> rfl) ⟨_, q' + 1 + 1, ⟨_, TSm.cht _ hS hA, rfl⟩, by omega, by omega, rfl⟩ ?_ ?_ ?_ ?_) <;> (simp -implicitDefEqProofs (disch := omega) only [go_sem, rdObj, true_or, or_true]; done)
    | refine hQ _ _ (ret0 [(id, some (rdObj bs (q' + 1)))] rfl rfl rfl (by rw [Tryd.results10] <;> simp (maxSteps := 1000000) -implicitDefEqProofs (disch := omega) only [go_sem] <;> rfl) ⟨_, q' + 1, ⟨_, TSm.cht _ hS hA, rfl⟩, by omega, by omega, rfl⟩ ?_ ?_ ?_ ?_) <;> (simp -implicitDefEqProofs (disch := omega) only [go_sem, rdObj, true_or, or_true]; done)
  refine g_ [0,2,3,7,28] ?_
  refine c_ (fun hc2 => ?_) fun hc2 => ?_
  ·
    refine dr_ mixed [2,3] 3 3 [B + 3, id, B + 1, B + 4, B + 5, B + 6] [⟨[3],[],[],[],false⟩,⟨[30],[0],[],[],false⟩,⟨[],[],[],[3],false⟩,⟨[0],[],[],[],false⟩,⟨[33],[1],[1],[],true⟩,⟨[32,34],[],[],[],false⟩,⟨[35],[],[],[4],false⟩,⟨[31,36],[2,4],[2],[5],false⟩,⟨[3],[],[],[],false⟩,⟨[37,38],[0],[0],[],false⟩] [0,1,2,3,4,5,6,7,8,9] [[],[0],[],[],[3],[2,3,4],[2,3,4,5],[0,1,2,3,4,5,6],[0,1,2,3,4,5,6,7],[0,1,2,3,4,5,6,7,8]] 6 (htbl := by simp; omega) (hnm := by simp) ?_
    intro O A K hO hA hK;simp only [atL_cons,atL_nil,Nat.reduceAdd,Nat.zero_add] at hO hA
    refine SO_ ?_
    refine loud_fn (first := []) (cap := []) (ps := [.ptr id 0, .int .i64 1]) (l := [(id, rdObj bs (q' + 1))]) (l3Expr_ok id bs hbs 0 (q' + 1) 1 (by omega) (by omega) (by omega) (by omega)) Tryd.call32 rfl rfl F_ (subG_spec T_) rfl ?_
    rintro out ⟨_, q2, ⟨e, hes, rfl⟩, hqc, hqd, rfl⟩
    refine ⟨rfl, ?_⟩
    refine SO_ ?_
    refine hK _ (S_ ?_);clear hK K hO hA O A
    refine frzI (B + 4) 1 [0] rfl T_ (by simp -implicitDefEqProofs (disch := omega) only [go_sem, ints, List.map_cons, List.map_nil]) ?_
    simp -implicitDefEqProofs (disch := omega) only [go_sem, subL_app]
    refine wpM_le [(2, .ptr B 0), (3, .ptr (B + 3) 0)] [(B + 6, .cells 44 (trc ts ++ (⟨[], [0], e⟩ : Trn).cs)), (B + 3, .cells 26 [.int .i64 st, .sl 44 (B + 6) 0 (ts.length + 1), .sl 51 (B + 2) 0 acs.length]), (B + 2, .cells 51 (acc acs)), (B, .cells 26 [.int .i64 0, .emp, .emp]), (id, rdObj bs q2)] T_ (by simp -implicitDefEqProofs (disch := omega) only [go_sem, leL_app, Trn.cs, rowsI, List.map_nil]) T_ ?_
    rw [trc_app, show ts.length + 1 = (ts ++ [(⟨[], [0], e⟩ : Trn)]).length by simp]
    have hS : TSm (ts ++ [(⟨[], [0], e⟩ : Trn)]) := TSm.app hsm (by omega) ⟨by simp, by simp, by show e.sz ≤ _; omega⟩
    refine frzTA (B + 6) (B + 2) (ts ++ [(⟨[], [0], e⟩ : Trn)]) acs T_ T_ T_ T_ ?_
    simp -implicitDefEqProofs (disch := omega) only [go_sem]
    refine g_ [2] ?_
    refine wpM_ret ?_
    try refine S_ ?_
    first
    | refine hQ _ _ (ret0 [(id, some (rdObj bs (q2)))] rfl rfl rfl (by rw [Tryd.results10] <;> simp (maxSteps := 1000000) -implicitDefEqProofs (disch := omega) only [go_sem] <;> rfl) ⟨_, q2, ⟨_, TSm.cht _ hS hA, rfl⟩, by omega, by omega, rfl⟩ ?_ ?_ ?_ ?_) <;> (simp -implicitDefEqProofs (disch := omega) only [go_sem, rdObj, true_or, or_true]; done)
    | refine hQ _ _ (ret0 [(id, some (rdObj bs (q' + 1 + 1)))] rfl rfl rfl (by rw [Tryd.results10] <;> simp (maxSteps := 1000000) -implicitDefEqProofs (disch := omega) only [go_sem] <;> rfl) ⟨_, q' + 1 + 1, ⟨_, TSm.cht _ hS hA, rfl⟩, by omega, by omega, rfl⟩ ?_ ?_ ?_ ?_) <;> (simp -implicitDefEqProofs (disch := omega) only [go_sem, rdObj, true_or, or_true]; done)
    | refine hQ _ _ (ret0 [(id, some (rdObj bs (q' + 1)))] rfl rfl rfl (by rw [Tryd.results10] <;> simp (maxSteps := 1000000) -implicitDefEqProofs (disch := omega) only [go_sem] <;> rfl) ⟨_, q' + 1, ⟨_, TSm.cht _ hS hA, rfl⟩, by omega, by omega, rfl⟩ ?_ ?_ ?_ ?_) <;> (simp -implicitDefEqProofs (disch := omega) only [go_sem, rdObj, true_or, or_true]; done)
  refine g_ [0,2,3,7,39] ?_
  refine c_ (fun hc3 => ?_) fun hc3 => ?_
  ·
    refine dr_ mixed [2,3] 2 3 [B + 3, id, B + 2, B + 4, B + 5] [⟨[3],[],[],[],false⟩,⟨[41],[0],[],[],false⟩,⟨[0],[],[],[],false⟩,⟨[43],[1],[1],[],true⟩,⟨[0],[],[],[],false⟩,⟨[45],[1],[1],[],true⟩,⟨[0],[],[],[],false⟩,⟨[47],[1],[1],[],true⟩,⟨[44,46,48],[],[],[],false⟩,⟨[49],[],[],[3],false⟩,⟨[42,50],[2,3],[2],[4],false⟩,⟨[3],[],[],[],false⟩,⟨[51,52],[0],[0],[],false⟩] [0,1,2,4,6,3,5,7,8,9,10,11,12] [[],[0],[],[2],[],[2,3,4],[],[2,3,4,5,6],[2,3,4,5,6,7],[2,3,4,5,6,7,8],[0,1,2,3,4,5,6,7,8,9],[0,1,2,3,4,5,6,7,8,9,10],[0,1,2,3,4,5,6,7,8,9,10,11]] 5 (htbl := by simp; omega) (hnm := by simp) ?_
    intro O A K hO hA hK;simp only [atL_cons,atL_nil,Nat.reduceAdd,Nat.zero_add] at hO hA
    refine SO_ ?_
    refine loud_fn (first := []) (cap := []) (ps := [.ptr id 0, .int .i64 6]) (l := [(id, rdObj bs (q' + 1))]) (pick_ok id bs (q' + 1) 6 hbs (by omega) (by omega) (by omega)) Tryd.call30 rfl rfl F_ (subG_spec T_) rfl ?_
    rintro out ⟨g1, rfl, h21, h22, h23⟩
    refine ⟨rfl, ?_⟩
    refine SO_ ?_
    refine loud_fn (first := []) (cap := []) (ps := [.ptr id 0, .int .i64 7]) (l := [(id, rdObj bs (q' + 1 + 1))]) (pick_ok id bs (q' + 1 + 1) 7 hbs (by omega) (by omega) (by omega)) Tryd.call30 rfl rfl F_ (subG_spec T_) rfl ?_
    rintro out ⟨g2, rfl, h31, h32, h33⟩
    refine ⟨rfl, ?_⟩
    refine SO_ ?_
    refine loud_fn (first := []) (cap := []) (ps := [.ptr id 0]) (l := [(id, rdObj bs (q' + 1 + 1 + 1))]) (l2AddrBent_ok id bs (q' + 1 + 1 + 1) hbs (by omega) (by omega)) Tryd.call33 rfl rfl F_ (subG_spec T_) rfl ?_
    rintro out ⟨_, q2, ⟨a, rfl⟩, hqc, hqd, rfl⟩
    refine ⟨rfl, ?_⟩
    refine SO_ ?_
    refine hK _ (S_ ?_);clear hK K hO hA O A
    rw [show acc acs ++ [PV.int .i64 g1, .int .i64 g2, .int .i64 a.kind, .int .i64 a.at'] = acc (acs ++ [(⟨g1, g2, a⟩ : GAct)]) from by rw [← acc_app]; rfl, show acs.length + 1 = (acs ++ [(⟨g1, g2, a⟩ : GAct)]).length by simp]
    have hA : (acs ++ [(⟨g1, g2, a⟩ : GAct)]).length ≤ 10 := by simp; omega
    refine frzTA (B + 1) (B + 5) ts (acs ++ [(⟨g1, g2, a⟩ : GAct)]) T_ T_ T_ T_ ?_
    simp -implicitDefEqProofs (disch := omega) only [go_sem]
    refine g_ [2] ?_
    refine wpM_ret ?_
    try refine S_ ?_
    first
    | refine hQ _ _ (ret0 [(id, some (rdObj bs (q2)))] rfl rfl rfl (by rw [Tryd.results10] <;> simp (maxSteps := 1000000) -implicitDefEqProofs (disch := omega) only [go_sem] <;> rfl) ⟨_, q2, ⟨_, TSm.cht _ hS hA, rfl⟩, by omega, by omega, rfl⟩ ?_ ?_ ?_ ?_) <;> (simp -implicitDefEqProofs (disch := omega) only [go_sem, rdObj, true_or, or_true]; done)
    | refine hQ _ _ (ret0 [(id, some (rdObj bs (q' + 1 + 1)))] rfl rfl rfl (by rw [Tryd.results10] <;> simp (maxSteps := 1000000) -implicitDefEqProofs (disch := omega) only [go_sem] <;> rfl) ⟨_, q' + 1 + 1, ⟨_, TSm.cht _ hS hA, rfl⟩, by omega, by omega, rfl⟩ ?_ ?_ ?_ ?_) <;> (simp -implicitDefEqProofs (disch := omega) only [go_sem, rdObj, true_or, or_true]; done)
    | refine hQ _ _ (ret0 [(id, some (rdObj bs (q' + 1)))] rfl rfl rfl (by rw [Tryd.results10] <;> simp (maxSteps := 1000000) -implicitDefEqProofs (disch := omega) only [go_sem] <;> rfl) ⟨_, q' + 1, ⟨_, TSm.cht _ hS hA, rfl⟩, by omega, by omega, rfl⟩ ?_ ?_ ?_ ?_) <;> (simp -implicitDefEqProofs (disch := omega) only [go_sem, rdObj, true_or, or_true]; done)
  refine g_ [0,2,3,53] ?_
  refine c_ (fun hc4 => ?_) fun hc4 => ?_
  ·
    refine dr_ mixed [2,3] 4 3 [B + 3, id, B + 1, B + 4, B + 5, B + 6, B + 7] [⟨[3],[],[],[],false⟩,⟨[55],[0],[],[],false⟩,⟨[],[],[],[3],false⟩,⟨[],[],[],[4],false⟩,⟨[0],[],[],[],false⟩,⟨[59],[1],[1],[],true⟩,⟨[57,58,60],[],[],[],false⟩,⟨[61],[],[],[5],false⟩,⟨[56,62],[2,5],[2],[6],false⟩,⟨[3],[],[],[],false⟩,⟨[63,64],[0],[0],[],false⟩] [0,1,2,3,4,5,6,7,8,9,10] [[],[0],[],[],[],[4],[2,3,4,5],[2,3,4,5,6],[0,1,2,3,4,5,6,7],[0,1,2,3,4,5,6,7,8],[0,1,2,3,4,5,6,7,8,9]] 7 (htbl := by simp; omega) (hnm := by simp) ?_
    intro O A K hO hA hK;simp only [atL_cons,atL_nil,Nat.reduceAdd,Nat.zero_add] at hO hA
    refine SO_ ?_
    refine loud_fn (first := []) (cap := []) (ps := [.ptr id 0]) (l := [(id, rdObj bs (q' + 1))]) (l3Bent_ok id bs (q' + 1) hbs (by omega) (by omega)) Tryd.call34 rfl rfl F_ (subG_spec T_) rfl ?_
    rintro out ⟨_, q2, ⟨e, hes, rfl⟩, hqc, hqd, rfl⟩
    refine ⟨rfl, ?_⟩
    refine SO_ ?_
    refine hK _ (S_ ?_);clear hK K hO hA O A
    refine frzI (B + 4) 1 [0] rfl T_ (by simp -implicitDefEqProofs (disch := omega) only [go_sem, ints, List.map_cons, List.map_nil]) ?_
    simp -implicitDefEqProofs (disch := omega) only [go_sem, subL_app]
    refine frzI (B + 5) 1 [0] rfl T_ (by simp -implicitDefEqProofs (disch := omega) only [go_sem, ints, List.map_cons, List.map_nil]) ?_
    simp -implicitDefEqProofs (disch := omega) only [go_sem, subL_app]
    rw [show trc ts ++ [PV.rows 3 (rowsI [0]), .rows 3 (rowsI [0]), .int .i64 e.kind, .int .i64 e.n, .int .i64 e.a.kind, .int .i64 e.a.at', .rows 42 (Ex.csL e.kids)] = trc (ts ++ [⟨[0], [0], e⟩]) from by rw [← trc_app]; rfl]
    have hS : TSm (ts ++ [⟨[0], [0], e⟩]) := TSm.app hsm (by omega) ⟨by simp, by simp, by show e.sz ≤ _; omega⟩
    rw [show ts.length + 1 = (ts ++ [(⟨[0], [0], e⟩ : Trn)]).length by simp]
    refine frzTA (B + 7) (B + 2) (ts ++ [(⟨[0], [0], e⟩ : Trn)]) acs T_ T_ T_ T_ ?_
    simp -implicitDefEqProofs (disch := omega) only [go_sem]
    refine g_ [2] ?_
    refine wpM_ret ?_
    try refine S_ ?_
    first
    | refine hQ _ _ (ret0 [(id, some (rdObj bs (q2)))] rfl rfl rfl (by rw [Tryd.results10] <;> simp (maxSteps := 1000000) -implicitDefEqProofs (disch := omega) only [go_sem] <;> rfl) ⟨_, q2, ⟨_, TSm.cht _ hS hA, rfl⟩, by omega, by omega, rfl⟩ ?_ ?_ ?_ ?_) <;> (simp -implicitDefEqProofs (disch := omega) only [go_sem, rdObj, true_or, or_true]; done)
    | refine hQ _ _ (ret0 [(id, some (rdObj bs (q' + 1 + 1)))] rfl rfl rfl (by rw [Tryd.results10] <;> simp (maxSteps := 1000000) -implicitDefEqProofs (disch := omega) only [go_sem] <;> rfl) ⟨_, q' + 1 + 1, ⟨_, TSm.cht _ hS hA, rfl⟩, by omega, by omega, rfl⟩ ?_ ?_ ?_ ?_) <;> (simp -implicitDefEqProofs (disch := omega) only [go_sem, rdObj, true_or, or_true]; done)
    | refine hQ _ _ (ret0 [(id, some (rdObj bs (q' + 1)))] rfl rfl rfl (by rw [Tryd.results10] <;> simp (maxSteps := 1000000) -implicitDefEqProofs (disch := omega) only [go_sem] <;> rfl) ⟨_, q' + 1, ⟨_, TSm.cht _ hS hA, rfl⟩, by omega, by omega, rfl⟩ ?_ ?_ ?_ ?_) <;> (simp -implicitDefEqProofs (disch := omega) only [go_sem, rdObj, true_or, or_true]; done)
  refine frzTA (B + 1) (B + 2) ts acs T_ T_ T_ T_ ?_
  simp -implicitDefEqProofs (disch := omega) only [go_sem]
  refine g_ [2] ?_
  refine wpM_ret ?_
  try refine S_ ?_
  first
  | refine hQ _ _ (ret0 [(id, some (rdObj bs (q2)))] rfl rfl rfl (by rw [Tryd.results10] <;> simp (maxSteps := 1000000) -implicitDefEqProofs (disch := omega) only [go_sem] <;> rfl) ⟨_, q2, ⟨_, TSm.cht _ hS hA, rfl⟩, by omega, by omega, rfl⟩ ?_ ?_ ?_ ?_) <;> (simp -implicitDefEqProofs (disch := omega) only [go_sem, rdObj, true_or, or_true]; done)
  | refine hQ _ _ (ret0 [(id, some (rdObj bs (q' + 1 + 1)))] rfl rfl rfl (by rw [Tryd.results10] <;> simp (maxSteps := 1000000) -implicitDefEqProofs (disch := omega) only [go_sem] <;> rfl) ⟨_, q' + 1 + 1, ⟨_, TSm.cht _ hS hA, rfl⟩, by omega, by omega, rfl⟩ ?_ ?_ ?_ ?_) <;> (simp -implicitDefEqProofs (disch := omega) only [go_sem, rdObj, true_or, or_true]; done)
  | refine hQ _ _ (ret0 [(id, some (rdObj bs (q' + 1)))] rfl rfl rfl (by rw [Tryd.results10] <;> simp (maxSteps := 1000000) -implicitDefEqProofs (disch := omega) only [go_sem] <;> rfl) ⟨_, q' + 1, ⟨_, TSm.cht _ hS hA, rfl⟩, by omega, by omega, rfl⟩ ?_ ?_ ?_ ?_) <;> (simp -implicitDefEqProofs (disch := omega) only [go_sem, rdObj, true_or, or_true]; done)
end Go.Proofs.YtnmfmeehmieifaaDoor
namespace Go.Proofs.YtnmfmeehmieifaaDoor
open Go Sg
set_option maxRecDepth 100000
set_option linter.unusedSimpArgs false
set_option linter.unusedVariables false
set_option linter.unusedSectionVars false
set_option maxHeartbeats 4000000
variable [TabK]
theorem eqI_same (a b : List Int) : eqI a b = same a b := by
  unfold eqI
  by_cases h : a.length = b.length
  · rw [if_neg (by simp [h])]
    refine range_ext h (fun x y => !(x != y)) fun i hi => ?_
    by_cases hx : a.getD i 0 = b.getD i 0
    · show (!(a.getD i 0 != b.getD i 0)) = same (a.getD i 0) (b.getD i 0)
      rw [hx, same_self]; simp
    · show (!(a.getD i 0 != b.getD i 0)) = same (a.getD i 0) (b.getD i 0)
      rw [same_no hx]; simpa using hx
  · rw [if_pos (by simpa using (by omega : ¬ (a.length : Int) = b.length)), same_no (fun e => h (by rw [e]))]
theorem sints_ok (a b : List Int) (ha : a.length ≤ 1099511627776) : PureF Tryd.prog 17 [.rows 3 (rowsI a), .rows 3 (rowsI b)] [.bool (same a b)] := by
  rw [← eqI_same]
  refine pureF_of Tryd.func17 rfl Tryd.ntmps17 (by simp) T_ ?_
  intro f0 B Q hQ
  refine g_ [0,1] ?_
  refine g_ [0,1,10] ?_
  refine c_ (fun hc0 => ?_) fun hc0 => ?_
  ·
    refine g_ [4] ?_
    refine e_ Tryd.results17 ?_
    first
    | exact True.intro
    | unfold eqI
      first
      | rw [if_pos hc0]
      | (rw [if_neg (by rw [hc0]; simp), range_no hl0 (by simp only [hc2]; rfl)])
      | (have : i0 = a.length := by omega
         rw [if_neg (by rw [hc0]; simp), ← this, hv0])
  refine g_ [0,1,5] ?_
  refine n_ ?_
  refine wpM_loopS (fun s n s' => ∃ (i0 M0 : Nat) , i0 + n = a.length ∧ s.M ≤ M0 ∧ ((List.range i0).all (fun i => !(a.getD i 0 != b.getD i 0)) = true) ∧ s' = { s with env := setE 5 (.int .i64 (i0 : Nat)) s.env, M := M0 }) (a.length) ?_ ?_
  ·
    refine .of' _ _ ⟨0, _, by omega, Nat.le_refl _, by simp, rfl⟩ ?_ ?_ ?_ <;> exact L_
  rintro n0 s' ⟨i0, M0, hi0, hM0, hv0, rfl⟩
  try dsimp only at hM0
  try refine S_ ?_
  refine g_ [0,1,5,14] ?_
  refine c_ (fun hc1 => ?_) fun hc1 => ?_
  ·
    have hl0 : i0 < a.length := by omega
    have hlb : i0 < b.length := by simp at hc0; omega
    refine n_ ?_
    refine dr_ mixed [0,1,5,25] 0 0 [] [⟨[0],[],[],[],false⟩,⟨[5],[],[],[],false⟩,⟨[17,18],[],[],[],false⟩,⟨[19],[],[],[],false⟩,⟨[1],[],[],[],false⟩,⟨[5],[],[],[],false⟩,⟨[21,22],[],[],[],false⟩,⟨[23],[],[],[],false⟩,⟨[20,24],[],[],[],false⟩] [0,1,2,3,4,5,6,7,8] [[],[],[0,1],[0,1,2],[],[],[4,5],[4,5,6],[0,1,2,3,4,5,6,7]] 0 ?_
    intro O A K hO hA hK;simp only [atL_cons,atL_nil,Nat.reduceAdd,Nat.zero_add] at hO hA
    refine SO_ ?_
    refine hK _ (S_ ?_);clear hK K hO hA O A
    refine c_ (fun hc2 => ?_) fun hc2 => ?_
    ·
      refine g_ [4] ?_
      refine e_ Tryd.results17 ?_
      first
      | exact True.intro
      | unfold eqI
        first
        | rw [if_pos hc0]
        | (rw [if_neg (by rw [hc0]; simp), range_no hl0 (by simp only [hc2]; rfl)])
        | (have : i0 = a.length := by omega
           rw [if_neg (by rw [hc0]; simp), ← this, hv0])
    refine g_ [0,1,5] ?_
    refine .of' _ _ ⟨n0 - 1, by omega, i0 + 1, _, by omega, M_, ?_, rfl⟩ L_ L_ L_
    rw [range_all, hv0]
    simp only [hc2]; rfl
  refine g_ [4] ?_
  refine e_ Tryd.results17 ?_
  first
  | exact True.intro
  | unfold eqI
    first
    | rw [if_pos hc0]
    | (rw [if_neg (by rw [hc0]; simp), range_no hl0 (by simp only [hc2]; rfl)])
    | (have : i0 = a.length := by omega
       rw [if_neg (by rw [hc0]; simp), ← this, hv0])
theorem same_tr (t u : Trn) : (same t.fr u.fr && same t.to' u.to' && same t.w u.w) = same t u := by
  rw [Bool.eq_iff_iff]
  simp only [Bool.and_eq_true, same_iff]
  constructor
  · rintro ⟨⟨h1, h2⟩, h3⟩
    cases t; cases u
    simp only at h1 h2 h3
    rw [h1, h2, h3]
  · rintro rfl; simp
theorem itrSame_ok (t u : Trn) (ht : t.Sm) : PureF Tryd.prog 12 [.agg t.cs, .agg u.cs] [.bool (same t u)] := by
  refine pureF_of Tryd.func12 rfl Tryd.ntmps12 (by simp) T_ ?_
  intro f0 B Q hQ
  refine g_ [2,3] ?_
  refine n_ ?_
  refine wpM_regionK [4] rfl fun Q1 hQ1 => ?_
  refine SD_ ?_
  refine cpD_ (eqI_ok t.fr u.fr ht.fr) Tryd.call13 ?_
  first | refine cg_ (fun hb => eqI_ok t.to' u.to' ht.to') Tryd.call13 ?_ | refine cpD_ (eqI_ok t.to' u.to' ht.to') Tryd.call13 ?_
  first | refine cg_ (fun hb => ialike_ok t.w.sz t.w u.w (Nat.le_refl _) ht.w) Tryd.call14 ?_ | refine cpD_ (ialike_ok t.w.sz t.w u.w (Nat.le_refl _) ht.w) Tryd.call14 ?_
  refine hQ1 _ _ (S_ ?_);clear hQ1 Q1
  refine e_ Tryd.results12 ?_
  first
  | exact True.intro
  | rw [← same_tr, eqI_same, eqI_same]
theorem eqfT_ok (a b : List Trn) (fid : Nat) (p : Trn → Trn → Bool) (ha : a.length ≤ 1099511627776) (henter : ∀ args w, (callFunc fid args).run Tryd.prog w = .ok (.enter fid args) w)
    (hf : ∀ i, i < a.length → i < b.length → PureF Tryd.prog fid [.agg (a.getD i default).cs, .agg (b.getD i default).cs] [.bool (p (a.getD i default) (b.getD i default))]) :
    PureF Tryd.prog 15 [.rows 44 (rowsT a), .rows 44 (rowsT b), .fn (.func fid) [] []] [.bool (a.length == b.length && (List.range a.length).all fun i => p (a.getD i default) (b.getD i default))] := by
  refine pureF_of Tryd.func15 rfl Tryd.ntmps15 (by simp) T_ ?_
  intro f0 B Q hQ
  refine g_ [0,1,2] ?_
  refine g_ [0,1,2,14] ?_
  refine c_ (fun hc0 => ?_) fun hc0 => ?_
  ·
    refine g_ [6] ?_
    refine e_ Tryd.results15 ?_
    first
    | exact True.intro
    | simp at hc0
      rw [beq_eq_false_iff_ne.2 (by omega)]; rfl
  have hab : a.length = b.length := by simp at hc0; omega
  refine g_ [1,2,15,16,17] ?_
  refine n_ ?_
  refine wpM_loopS (fun s n s' => ∃ (i0 M0 : Nat) , i0 + n = a.length ∧ s.M ≤ M0 ∧ ((List.range i0).all (fun i => p (a.getD i default) (b.getD i default)) = true) ∧ s' = { s with env := setE 17 (.int .i64 (i0 : Nat)) s.env, M := M0 }) (a.length) ?_ ?_
  ·
    refine .of' _ _ ⟨0, _, by omega, Nat.le_refl _, by simp, rfl⟩ ?_ ?_ ?_ <;> exact L_
  rintro n0 s' ⟨i0, M0, hi0, hM0, hv0, rfl⟩
  try dsimp only at hM0
  try refine S_ ?_
  refine g_ [1,2,15,16,17,18] ?_
  refine c_ (fun hc1 => ?_) fun hc1 => ?_
  ·
    have hl0 : i0 < a.length := by omega
    refine g_ [1,2,7,8,15,16,17] ?_
    refine g_ [1,2,8,9,15,16,17] ?_
    refine n_ ?_
    refine wpM_regionK [1,2,15,16,17,30] rfl fun Q1 hQ1 => ?_
    refine S_ ?_
    refine call_cap (l := []) (cap := []) (args := [.agg (a.getD i0 default).cs, .agg (b.getD i0 default).cs]) (hf i0 hl0 (by omega)) (fun i o h => by simp [lk] at h) henter rfl rfl T_ T_ ?_
    refine S_ ?_
    refine hQ1 _ _ (S_ ?_);clear hQ1 Q1
    refine c_ (fun hc2 => ?_) fun hc2 => ?_
    ·
      refine g_ [6] ?_
      refine e_ Tryd.results15 ?_
      first
      | exact True.intro
      | have h2 : (!p (a.getD i0 default) (b.getD i0 default)) = true := hc2
        rw [range_no hl0 (by simpa using h2)]
        simp
    refine g_ [1,2,15,16,17] ?_
    refine .of' _ _ ⟨n0 - 1, by omega, i0 + 1, _, by omega, M_, ?_, rfl⟩ L_ L_ L_
    have h2 : (!p (a.getD i0 default) (b.getD i0 default)) = false := hc2
    rw [range_all, hv0]; simpa using h2
  refine g_ [6] ?_
  refine e_ Tryd.results15 ?_
  first
  | exact True.intro
  | have h1 : i0 = a.length := by omega
    rw [← h1, hv0]; simp; omega
theorem eqAc (d : Nat) (a b c e a' b' c' e' : Int) : eqA Tryd.prog (d + 3) 51 (.agg [.int .i64 a, .int .i64 b, .int .i64 c, .int .i64 e]) (.agg [.int .i64 a', .int .i64 b', .int .i64 c', .int .i64 e']) = some (a == a' && b == b' && c == c' && e == e') := by
  unfold eqA
  simp only [Tryd.underlying51, Tryd.stoodInHeld51, Bool.false_eq_true, if_false, eqFs]
  simp -implicitDefEqProofs (disch := omega) only [go_sem, eqA, eqFs, ne_eq, String.reduceEq]
  rw [eqAD d]
  cases h1 : a == a' <;> cases h2 : b == b' <;> cases h3 : (c == c' && e == e') <;> simp [eqA, Tryd.underlying3, h1, h2, h3, Bool.and_assoc]
@[go_sem] theorem neqAc (x y : Operand) (a b c e a' b' c' e' : Int) : binOpA Tryd.prog .neq 51 x y (.agg [.int .i64 a, .int .i64 b, .int .i64 c, .int .i64 e]) (.agg [.int .i64 a', .int .i64 b', .int .i64 c', .int .i64 e']) = some (.bool (!(a == a' && b == b' && c == c' && e == e'))) := by
  simp only [binOpA, Tryd.eqGuardType51]
  rw [eqAc 9997]; rfl
def eqAcB (x y : GAct) : Bool := x.kind == y.kind && x.step == y.step && x.to'.kind == y.to'.kind && x.to'.at' == y.to'.at'
theorem eqAcB_same (x y : GAct) : eqAcB x y = same x y := by
  rw [Bool.eq_iff_iff, same_iff]
  obtain ⟨a, b, ⟨c, d⟩⟩ := x
  obtain ⟨a', b', ⟨c', d'⟩⟩ := y
  simp [eqAcB, and_assoc]
theorem eqAs_ok (a b : List GAct) (ha : a.length ≤ 1099511627776) : PureF Tryd.prog 16 [.rows 51 (rowsA a), .rows 51 (rowsA b)] [.bool (same a b)] := by
  refine pureF_of Tryd.func16 rfl Tryd.ntmps16 (by simp) T_ ?_
  intro f0 B Q hQ
  refine g_ [0,1] ?_
  refine g_ [0,1,10] ?_
  refine c_ (fun hc0 => ?_) fun hc0 => ?_
  ·
    refine g_ [4] ?_
    refine e_ Tryd.results16 ?_
    first
    | exact True.intro
    | simp at hc0
      exact (same_no (fun h => by rw [h] at hc0; exact hc0 rfl)).symm
  have hab : a.length = b.length := by simp at hc0; omega
  refine g_ [0,1,12,13] ?_
  refine n_ ?_
  refine wpM_loopS (fun s n s' => ∃ (i0 M0 : Nat) , i0 + n = a.length ∧ s.M ≤ M0 ∧ ((List.range i0).all (fun i => eqAcB (a.getD i default) (b.getD i default)) = true) ∧ s' = { s with env := setE 13 (.int .i64 (i0 : Nat)) s.env, M := M0 }) (a.length) ?_ ?_
  ·
    refine .of' _ _ ⟨0, _, by omega, Nat.le_refl _, by simp, rfl⟩ ?_ ?_ ?_ <;> exact L_
  rintro n0 s' ⟨i0, M0, hi0, hM0, hv0, rfl⟩
  try dsimp only at hM0
  try refine S_ ?_
  refine g_ [0,1,12,13,14] ?_
  refine c_ (fun hc1 => ?_) fun hc1 => ?_
  ·
    have hl0 : i0 < a.length := by omega
    refine g_ [0,1,5,12,13] ?_
    refine n_ ?_
    refine dr_ mixed [0,1,12,13,24] 0 0 [] [⟨[0],[],[],[],false⟩,⟨[5],[],[],[],false⟩,⟨[16,17],[],[],[],false⟩,⟨[18],[],[],[],false⟩,⟨[1],[],[],[],false⟩,⟨[5],[],[],[],false⟩,⟨[20,21],[],[],[],false⟩,⟨[22],[],[],[],false⟩,⟨[19,23],[],[],[],false⟩] [0,1,2,3,4,5,6,7,8] [[],[],[0,1],[0,1,2],[],[],[4,5],[4,5,6],[0,1,2,3,4,5,6,7]] 0 ?_
    intro O A K hO hA hK;simp only [atL_cons,atL_nil,Nat.reduceAdd,Nat.zero_add] at hO hA
    refine SO_ ?_
    refine hK _ (S_ ?_);clear hK K hO hA O A
    refine c_ (fun hc2 => ?_) fun hc2 => ?_
    ·
      refine g_ [4] ?_
      refine e_ Tryd.results16 ?_
      first
      | exact True.intro
      | have h2 : (!eqAcB (a.getD i0 default) (b.getD i0 default)) = true := hc2
        rw [← range_ext hab eqAcB (fun i _ => eqAcB_same _ _), range_no hl0 (by simpa using h2)]
    refine g_ [0,1,12,13] ?_
    refine .of' _ _ ⟨n0 - 1, by omega, i0 + 1, _, by omega, M_, ?_, rfl⟩ L_ L_ L_
    have h2 : (!eqAcB (a.getD i0 default) (b.getD i0 default)) = false := hc2
    rw [range_all, hv0]; simpa using h2
  refine g_ [4] ?_
  refine e_ Tryd.results16 ?_
  first
  | exact True.intro
  | have : i0 = a.length := by omega
    rw [← range_ext hab eqAcB (fun i _ => eqAcB_same _ _), ← this, hv0]
theorem same_ch (a b : Cht) : (a.steps == b.steps && same a.ts b.ts && same a.as' b.as') = same a b := by
  rw [Bool.eq_iff_iff]
  simp only [Bool.and_eq_true, beq_iff_eq, same_iff]
  constructor
  · rintro ⟨⟨h1, h2⟩, h3⟩
    cases a; cases b
    simp only at h1 h2 h3
    rw [h1, h2, h3]
  · rintro rfl; simp
theorem len_same {α : Type} [Inhabited α] (a b : List α) : (a.length == b.length && (List.range a.length).all fun i => same (a.getD i default) (b.getD i default)) = same a b := by
  by_cases h : a.length = b.length
  · rw [range_ext h same fun _ _ => rfl]; simp [h]
  · rw [same_no (fun e => h (by rw [e]))]
    have : (a.length == b.length) = false := by simpa using h
    rw [this]; rfl
theorem ichSame_ok (a b : Cht) (ha : a.Sm) : PureF Tryd.prog 6 [.agg a.cs, .agg b.cs] [.bool (same a b)] := by
  have hts := ha.ts
  have has := ha.as'
  refine pureF_of Tryd.func6 rfl Tryd.ntmps6 (by simp) T_ ?_
  intro f0 B Q hQ
  refine g_ [2,3] ?_
  refine g_ [2,3,5] ?_
  refine n_ ?_
  refine wpM_regionK [4] rfl fun Q1 hQ1 => ?_
  refine SD_ ?_
  first | refine cg_ (fun hb => eqfT_ok a.ts b.ts 12 same hts Tryd.call12 (fun i h1 h2 => itrSame_ok _ _ (ha.t i h1))) Tryd.call15 ?_ | refine cpD_ (eqfT_ok a.ts b.ts 12 same hts Tryd.call12 (fun i h1 h2 => itrSame_ok _ _ (ha.t i h1))) Tryd.call15 ?_
  first | refine cg_ (fun hb => eqAs_ok a.as' b.as' has) Tryd.call16 ?_ | refine cpD_ (eqAs_ok a.as' b.as' has) Tryd.call16 ?_
  refine hQ1 _ _ (S_ ?_);clear hQ1 Q1
  refine e_ Tryd.results6 ?_
  first
  | exact True.intro
  | rw [← same_ch, ← len_same a.ts]
theorem schSame_ok (a b : Cht) (ha : a.Sm) : PureF Tryd.prog 7 [.agg a.cs, .agg b.cs] [.bool (same a b)] := by
  have hts := ha.ts
  have has := ha.as'
  refine pureF_of Tryd.func7 rfl Tryd.ntmps7 (by simp) T_ ?_
  intro f0 B Q hQ
  refine g_ [2,3] ?_
  refine gD_ [2,3,29] ?_
  refine c_ (fun hc0 => ?_) fun hc0 => ?_
  ·
    refine g_ [4] ?_
    refine e_ Tryd.results7 ?_
    first
    | exact True.intro
    | refine (same_no ?_).symm
      rintro rfl
      simp at hc0
  have hh := hc0
  simp only [Bool.or_eq_false_iff, bne_eq_false_iff_eq] at hh
  have hl1 : a.ts.length = b.ts.length := by omega
  have hl2 : a.as'.length = b.as'.length := by omega
  refine g_ [2,3,5] ?_
  refine n_ ?_
  refine wpM_loopS (fun s n s' => ∃ (i0 M0 : Nat) , i0 + n = a.ts.length ∧ s.M ≤ M0 ∧ ((List.range i0).all (fun i => same (a.ts.getD i default) (b.ts.getD i default)) = true) ∧ s' = { s with env := setE 5 (.int .i64 (i0 : Nat)) s.env, M := M0 }) (a.ts.length) ?_ ?_
  ·
    refine .of' _ _ ⟨0, _, by omega, Nat.le_refl _, by simp, rfl⟩ ?_ ?_ ?_ <;> exact L_
  rintro n0 s' ⟨i0, M0, hi0, hM0, hv0, rfl⟩
  try dsimp only at hM0
  try refine S_ ?_
  refine g_ [2,3,5,34] ?_
  refine c_ (fun hc1 => ?_) fun hc1 => ?_
  ·
    have hl0 : i0 < a.ts.length := by omega
    have ht := ha.t i0 hl0
    refine n_ ?_
    refine dr_ mixed [2,3,5,82] 0 2 [B,B + 1] [⟨[2],[],[],[],false⟩,⟨[37],[0],[],[],false⟩,⟨[5],[],[],[],false⟩,⟨[38,39],[],[],[],false⟩,⟨[40],[],[],[],false⟩,⟨[41],[],[],[],false⟩,⟨[3],[],[],[],false⟩,⟨[43],[1],[],[],false⟩,⟨[5],[],[],[],false⟩,⟨[44,45],[],[],[],false⟩,⟨[46],[],[],[],false⟩,⟨[47],[],[],[],false⟩,⟨[42,48],[],[],[],true⟩,⟨[49],[],[],[],false⟩,⟨[50],[],[],[],false⟩,⟨[2,51],[],[],[],false⟩,⟨[51,52],[0],[],[],false⟩,⟨[5,51],[],[],[],false⟩,⟨[51,53,54],[],[],[],false⟩,⟨[51,55],[],[],[],false⟩,⟨[51,56],[],[],[],false⟩,⟨[3,51],[],[],[],false⟩,⟨[51,58],[1],[],[],false⟩,⟨[5,51],[],[],[],false⟩,⟨[51,59,60],[],[],[],false⟩,⟨[51,61],[],[],[],false⟩,⟨[51,62],[],[],[],false⟩,⟨[51,57,63],[],[],[],true⟩,⟨[51,64],[],[],[],false⟩,⟨[51,65],[],[],[],false⟩,⟨[66],[],[],[],false⟩,⟨[2,67],[],[],[],false⟩,⟨[67,68],[0],[],[],false⟩,⟨[5,67],[],[],[],false⟩,⟨[67,69,70],[],[],[],false⟩,⟨[67,71],[],[],[],false⟩,⟨[67,72],[],[],[],false⟩,⟨[3,67],[],[],[],false⟩,⟨[67,74],[1],[],[],false⟩,⟨[5,67],[],[],[],false⟩,⟨[67,75,76],[],[],[],false⟩,⟨[67,77],[],[],[],false⟩,⟨[67,78],[],[],[],false⟩,⟨[67,73,79],[],[],[],true⟩,⟨[67,80],[],[],[],false⟩,⟨[67,81],[],[],[],false⟩] [0,1,2,3,4,5,6,7,8,9,10,11,12,13,14,15,16,17,18,19,20,21,22,23,24,25,26,27,28,29,30,31,32,33,34,35,36,37,38,39,40,41,42,43,44,45] [[],[0],[],[0,1,2],[0,1,2,3],[0,1,2,3,4],[],[6],[],[6,7,8],[6,7,8,9],[6,7,8,9,10],[0,1,2,3,4,5,6,7,8,9,10,11],[0,1,2,3,4,5,6,7,8,9,10,11,12],[0,1,2,3,4,5,6,7,8,9,10,11,12,13],[0,1,2,3,4,5,6,7,8,9,10,11,12,13,14],[0,1,2,3,4,5,6,7,8,9,10,11,12,13,14,15],[0,1,2,3,4,5,6,7,8,9,10,11,12,13,14],[0,1,2,3,4,5,6,7,8,9,10,11,12,13,14,15,16,17],[0,1,2,3,4,5,6,7,8,9,10,11,12,13,14,15,16,17,18],[0,1,2,3,4,5,6,7,8,9,10,11,12,13,14,15,16,17,18,19],[0,1,2,3,4,5,6,7,8,9,10,11,12,13,14],[0,1,2,3,4,5,6,7,8,9,10,11,12,13,14,21],[0,1,2,3,4,5,6,7,8,9,10,11,12,13,14],[0,1,2,3,4,5,6,7,8,9,10,11,12,13,14,21,22,23],[0,1,2,3,4,5,6,7,8,9,10,11,12,13,14,21,22,23,24],[0,1,2,3,4,5,6,7,8,9,10,11,12,13,14,21,22,23,24,25],[0,1,2,3,4,5,6,7,8,9,10,11,12,13,14,15,16,17,18,19,20,21,22,23,24,25,26],[0,1,2,3,4,5,6,7,8,9,10,11,12,13,14,15,16,17,18,19,20,21,22,23,24,25,26,27],[0,1,2,3,4,5,6,7,8,9,10,11,12,13,14,15,16,17,18,19,20,21,22,23,24,25,26,27,28],[0,1,2,3,4,5,6,7,8,9,10,11,12,13,14,15,16,17,18,19,20,21,22,23,24,25,26,27,28,29],[0,1,2,3,4,5,6,7,8,9,10,11,12,13,14,15,16,17,18,19,20,21,22,23,24,25,26,27,28,29,30],[0,1,2,3,4,5,6,7,8,9,10,11,12,13,14,15,16,17,18,19,20,21,22,23,24,25,26,27,28,29,30,31],[0,1,2,3,4,5,6,7,8,9,10,11,12,13,14,15,16,17,18,19,20,21,22,23,24,25,26,27,28,29,30],[0,1,2,3,4,5,6,7,8,9,10,11,12,13,14,15,16,17,18,19,20,21,22,23,24,25,26,27,28,29,30,31,32,33],[0,1,2,3,4,5,6,7,8,9,10,11,12,13,14,15,16,17,18,19,20,21,22,23,24,25,26,27,28,29,30,31,32,33,34],[0,1,2,3,4,5,6,7,8,9,10,11,12,13,14,15,16,17,18,19,20,21,22,23,24,25,26,27,28,29,30,31,32,33,34,35],[0,1,2,3,4,5,6,7,8,9,10,11,12,13,14,15,16,17,18,19,20,21,22,23,24,25,26,27,28,29,30],[0,1,2,3,4,5,6,7,8,9,10,11,12,13,14,15,16,17,18,19,20,21,22,23,24,25,26,27,28,29,30,37],[0,1,2,3,4,5,6,7,8,9,10,11,12,13,14,15,16,17,18,19,20,21,22,23,24,25,26,27,28,29,30],[0,1,2,3,4,5,6,7,8,9,10,11,12,13,14,15,16,17,18,19,20,21,22,23,24,25,26,27,28,29,30,37,38,39],[0,1,2,3,4,5,6,7,8,9,10,11,12,13,14,15,16,17,18,19,20,21,22,23,24,25,26,27,28,29,30,37,38,39,40],[0,1,2,3,4,5,6,7,8,9,10,11,12,13,14,15,16,17,18,19,20,21,22,23,24,25,26,27,28,29,30,37,38,39,40,41],[0,1,2,3,4,5,6,7,8,9,10,11,12,13,14,15,16,17,18,19,20,21,22,23,24,25,26,27,28,29,30,31,32,33,34,35,36,37,38,39,40,41,42],[0,1,2,3,4,5,6,7,8,9,10,11,12,13,14,15,16,17,18,19,20,21,22,23,24,25,26,27,28,29,30,31,32,33,34,35,36,37,38,39,40,41,42,43],[0,1,2,3,4,5,6,7,8,9,10,11,12,13,14,15,16,17,18,19,20,21,22,23,24,25,26,27,28,29,30,31,32,33,34,35,36,37,38,39,40,41,42,43,44]] 2 ?_
    intro O A K hO hA hK;simp only [atL_cons,atL_nil,Nat.reduceAdd,Nat.zero_add] at hO hA
    refine SE_ ?_
    refine lpE_ (sints_ok (a.ts.getD i0 default).fr (b.ts.getD i0 default).fr ht.fr) Tryd.call17 ?_
    first | refine lg_ (fun hb => sints_ok (a.ts.getD i0 default).to' (b.ts.getD i0 default).to' ht.to') Tryd.call17 ?_ | refine lpE_ (sints_ok (a.ts.getD i0 default).to' (b.ts.getD i0 default).to' ht.to') Tryd.call17 ?_
    first | refine lg_ (fun hb => salike_ok (a.ts.getD i0 default).w.sz (a.ts.getD i0 default).w (b.ts.getD i0 default).w (Nat.le_refl _) ht.w) Tryd.call18 ?_ | refine lpE_ (salike_ok (a.ts.getD i0 default).w.sz (a.ts.getD i0 default).w (b.ts.getD i0 default).w (Nat.le_refl _) ht.w) Tryd.call18 ?_
    refine hK _ (S_ ?_);clear hK K hO hA O A
    refine c_ (fun hc2 => ?_) fun hc2 => ?_
    ·
      refine g_ [4] ?_
      refine e_ Tryd.results7 ?_
      first
      | exact True.intro
      | refine (same_no ?_).symm
        rintro rfl
        simp only [same_self] at hc2
        cases hc2
    refine g_ [2,3,5] ?_
    refine .of' _ _ ⟨n0 - 1, by omega, i0 + 1, _, by omega, M_, ?_, rfl⟩ L_ L_ L_
    have h2 : same (a.ts.getD i0 default) (b.ts.getD i0 default) = true := by
      rw [← same_tr]
      simp only [Bool.or_eq_false_iff, Bool.not_eq_false'] at hc2
      simp only [hc2.1.1, hc2.1.2, hc2.2, Bool.and_self]
    rw [range_all, hv0, h2]; rfl
  refine g_ [2,3,6] ?_
  refine n_ ?_
  refine wpM_loopS (fun s n s' => ∃ (i1 M1 : Nat) , i1 + n = a.as'.length ∧ s.M ≤ M1 ∧ ((List.range i1).all (fun i => eqAcB (a.as'.getD i default) (b.as'.getD i default)) = true) ∧ s' = { s with env := setE 6 (.int .i64 (i1 : Nat)) s.env, M := M1 }) (a.as'.length) ?_ ?_
  ·
    refine .of' _ _ ⟨0, _, by omega, Nat.le_refl _, by simp, rfl⟩ ?_ ?_ ?_ <;> exact L_
  rintro n1 s' ⟨i1, M1, hi1, hM1, hv1, rfl⟩
  try dsimp only at hM1
  try refine S_ ?_
  refine g_ [2,3,6,87] ?_
  refine c_ (fun hc3 => ?_) fun hc3 => ?_
  ·
    have hl1 : i1 < a.as'.length := by omega
    refine n_ ?_
    refine dr_ mixed [2,3,6,100] 0 2 [B,B + 1] [⟨[2],[],[],[],false⟩,⟨[90],[0],[],[],false⟩,⟨[6],[],[],[],false⟩,⟨[91,92],[],[],[],false⟩,⟨[93],[],[],[],false⟩,⟨[3],[],[],[],false⟩,⟨[95],[1],[],[],false⟩,⟨[6],[],[],[],false⟩,⟨[96,97],[],[],[],false⟩,⟨[98],[],[],[],false⟩,⟨[94,99],[],[],[],false⟩] [0,1,2,3,4,5,6,7,8,9,10] [[],[0],[],[0,1,2],[0,1,2,3],[],[5],[],[5,6,7],[5,6,7,8],[0,1,2,3,4,5,6,7,8,9]] 2 ?_
    intro O A K hO hA hK;simp only [atL_cons,atL_nil,Nat.reduceAdd,Nat.zero_add] at hO hA
    refine SO_ ?_
    refine hK _ (S_ ?_);clear hK K hO hA O A
    refine c_ (fun hc4 => ?_) fun hc4 => ?_
    ·
      refine g_ [4] ?_
      refine e_ Tryd.results7 ?_
      first
      | exact True.intro
      | refine (same_no ?_).symm
        rintro rfl
        have h2 : (!eqAcB (a.as'.getD i1 default) (a.as'.getD i1 default)) = true := hc4
        rw [eqAcB_same, same_self] at h2
        cases h2
    refine g_ [2,3,6] ?_
    refine .of' _ _ ⟨n1 - 1, by omega, i1 + 1, _, by omega, M_, ?_, rfl⟩ L_ L_ L_
    have h2 : (!eqAcB (a.as'.getD i1 default) (b.as'.getD i1 default)) = false := hc4
    rw [range_all, hv1]; simpa using h2
  refine g_ [4] ?_
  refine e_ Tryd.results7 ?_
  first
  | exact True.intro
  | have e0 : i0 = a.ts.length := by omega
    have e1 : i1 = a.as'.length := by omega
    rw [e0] at hv0
    rw [e1] at hv1
    have h1 : same a.ts b.ts = true := by rw [← range_ext hl1 same fun _ _ => rfl]; exact hv0
    have h2 : same a.as' b.as' = true := by rw [← range_ext hl2 eqAcB fun _ _ => eqAcB_same _ _]; exact hv1
    rw [← same_ch, h1, h2, hh.1.1]
    simp
end Go.Proofs.YtnmfmeehmieifaaDoor
namespace Go.Proofs.YtnmfmeehmieifaaDoor
open Go Sg
set_option maxRecDepth 100000
set_option linter.unusedSimpArgs false
set_option linter.unusedVariables false
set_option linter.unusedSectionVars false
set_option maxHeartbeats 4000000
variable [TabK]
theorem bt_st (n : Int) : bt (stS n) = Lib.join (stB n) [32] := by
  rw [stS, bt_app, bt_fmt, stB, join_cons2, Lib.join_one]
  try rfl
theorem bt_tr {t : Trn} (h : TrS t) : bt (trS t) = Lib.join (trB t) [32] := by
  obtain ⟨h6, _⟩ := ok_sz h.w
  have hw : ∃ x r, wsB t.w = x :: r := by rw [wsB_eq]; exact ⟨_, _, rfl⟩
  obtain ⟨x, r, hx⟩ := hw
  rw [trS, bt_app, bt_app, bt_app, bt_app, bt_pl, bt_pl, bt_ex h6, trB]
  simp only [List.cons_append, List.nil_append]
  rw [hx, join_cons2, join_cons2, join_cons2, join_cons2]
  simp only [List.append_assoc]
  try rfl
theorem bt_act {k : Int} (h : 1 ≤ k ∧ k ≤ 4) : bt (actL.getD k.toNat default) = actB k := by
  have : k = 1 ∨ k = 2 ∨ k = 3 ∨ k = 4 := by omega
  rcases this with rfl | rfl | rfl | rfl <;> decide
theorem bt_ac {a : GAct} (h : AcS a) : bt (acS a) = Lib.join (acB a) [32] := by
  rw [acS, bt_app, bt_app, bt_app, bt_app, bt_act h.k, bt_fmt, bt_adr h.to', acB, join_cons2, join_cons2, Lib.join_one]
  simp only [List.append_assoc]
  try rfl
theorem bt_ch {c : Cht} (h : c.ok = true) : bt (chS c) = chTx c := by
  rw [chS, bt_mk, chTx]
  congr 1
  simp only [itemsS, chItems, List.map_cons, List.map_append, List.map_map, bt_st]
  congr 1
  congr 1
  · exact List.map_congr_left fun t ht => bt_tr (cht_TrS h t ht)
  · exact List.map_congr_left fun a ha => bt_ac (cht_AcS h a ha)
theorem chS_same {a b : Cht} (ha : a.ok = true) (hb : b.ok = true) : ((chS a).toList == (chS b).toList) = same a b := by
  rw [ByteArray.toList_eq, ByteArray.toList_eq, Bool.eq_iff_iff, beq_iff_eq, same_iff]
  constructor
  · intro h
    refine chTx_inj ha hb ?_
    rw [← bt_ch ha, ← bt_ch hb]
    exact h
  · rintro rfl; rfl
@[go_sem] theorem neqBo (x y : Operand) (a b : Bool) : binOpA Tryd.prog .neq 4 x y (.bool a) (.bool b) = some (.bool (a != b)) := by
  simp only [binOpA, eqPair, if_true, eqA, Tryd.underlying4, Option.map_some, bne]
@[go_sem] theorem eqlBo (x y : Operand) (a b : Bool) : binOpA Tryd.prog .eql 4 x y (.bool a) (.bool b) = some (.bool (a == b)) := by
  simp only [binOpA, eqPair, if_true, eqA, Tryd.underlying4, Option.map_some]
theorem same_comm {α : Type} (a b : α) : same a b = same b a := by
  rw [Bool.eq_iff_iff, same_iff, same_iff]
  exact eq_comm
@[go_sem] theorem eqlSt (t : TypeId) (x y : Operand) (a b : ByteArray) : binOpA Tryd.prog .eql t x y (.str a) (.str b) = some (.bool (a.toList == b.toList)) := rfl
theorem drawSame_ok (code : List Nat) (hcode : ∀ x ∈ code, x < 256) (hl : code.length ≤ 1099511627776) :
    CallF Tryd.prog 4 [.rows 5 (u8s code)] [] 0 (fun _ o => ∃ a b : Cht, (a.Sm ∧ b.Sm) ∧ o = { rs := [.agg a.cs, .agg b.cs] }) := by
  refine callF_of' Tryd.func4 rfl Tryd.ntmps4 (by simp) ?_
  intro f0 B ns Q hB hns hQ
  obtain rfl : ns = [] := List.eq_nil_of_length_eq_zero hns
  refine g_ [0,2,3] ?_
  refine n_ ?_
  refine wpM_regionK [0,2,3,4] rfl fun Q1 hQ1 => ?_
  refine S_ ?_
  refine call_fn (l := []) (first := []) (cap := []) (ps := [.rows 5 (u8s code)]) (open_ok code hcode hl) Tryd.call11 rfl rfl rfl G_ T_ ?_
  rintro out ⟨j, bs, ⟨⟩, hbs, rfl, hbe⟩
  refine S_ ?_
  refine call_fn (l := [(B + 2, rdObj bs 0)]) (first := []) (cap := []) (ps := [.ptr (B + 2) 0]) (l8Bent_ok (B + 2) bs 0 hbs (by omega) (by omega)) Tryd.call10 rfl rfl rfl G_ T_ ?_
  rintro out ⟨_, q1, ⟨a, ha, rfl⟩, hqa, hqb, rfl⟩
  refine S_ ?_
  refine hQ1 _ _ (S_ ?_);clear hQ1 Q1
  refine n_ ?_
  refine wpM_regionK [0,2,3,4,5] rfl fun Q1 hQ1 => ?_
  refine S_ ?_
  refine call_fn (l := []) (first := []) (cap := []) (ps := [.rows 5 (u8s code)]) (open_ok code hcode hl) Tryd.call11 rfl rfl rfl G_ T_ ?_
  rintro out ⟨j2, bs2, ⟨⟩, hbs2, rfl, hbe2⟩
  refine S_ ?_
  refine call_fn (l := [(B + 4, rdObj bs2 0)]) (first := []) (cap := []) (ps := [.ptr (B + 4) 0]) (l8Bent_ok (B + 4) bs2 0 hbs2 (by omega) (by omega)) Tryd.call10 rfl rfl rfl G_ T_ ?_
  rintro out ⟨_, q2, ⟨b, hb, rfl⟩, hqc, hqd, rfl⟩
  refine S_ ?_
  refine hQ1 _ _ (S_ ?_);clear hQ1 Q1
  refine gD_ [2,3,4,5,21] ?_
  refine c_ (fun hc0 => ?_) fun hc0 => ?_
  ·
    refine g_ [2,3,4,5] ?_
    refine n_ ?_
    refine dr_ mixed [2,3] 0 4 [B + 3, B + 5, B, B + 1] [⟨[4],[0],[],[],false⟩,⟨[5],[1],[],[],false⟩,⟨[2,26],[2],[2],[],false⟩,⟨[3,27],[3],[3],[],false⟩] [0,1,2,3] [[],[],[0],[0,1,2]] 4 ?_
    intro O A K hO hA hK;simp only [atL_cons,atL_nil,Nat.reduceAdd,Nat.zero_add] at hO hA
    refine SO_ ?_
    refine hK _ (S_ ?_);clear hK K hO hA O A
    refine wpM_ret ?_
    try refine S_ ?_
    refine hQ _ _ (ret0 [] rfl rfl rfl (by rw [Tryd.results4] <;> simp (maxSteps := 1000000) -implicitDefEqProofs (disch := omega) only [go_sem] <;> rfl) ⟨a, ⟨IntKind.i64.wrap (b.steps + 1), b.ts, b.as'⟩, ⟨ha, ⟨hb.ts, hb.as', hb.t⟩⟩, rfl⟩ ?_ ?_ ?_ ?_)
    all_goals simp -implicitDefEqProofs (disch := omega) only [go_sem, rdObj, true_or, or_true]
  refine n_ ?_
  refine dr_ mixed [2,3] 0 4 [B + 3, B + 5, B, B + 1] [⟨[4],[0],[],[],false⟩,⟨[5],[1],[],[],false⟩,⟨[2,26],[2],[2],[],false⟩,⟨[3,27],[3],[3],[],false⟩] [0,1,2,3] [[],[],[0],[0,1,2]] 4 ?_
  intro O A K hO hA hK;simp only [atL_cons,atL_nil,Nat.reduceAdd,Nat.zero_add] at hO hA
  refine SO_ ?_
  refine hK _ (S_ ?_);clear hK K hO hA O A
  refine wpM_ret ?_
  try refine S_ ?_
  refine hQ _ _ (ret0 [] rfl rfl rfl (by rw [Tryd.results4] <;> simp (maxSteps := 1000000) -implicitDefEqProofs (disch := omega) only [go_sem] <;> rfl) ⟨a, b, ⟨ha, hb⟩, rfl⟩ ?_ ?_ ?_ ?_)
  all_goals simp -implicitDefEqProofs (disch := omega) only [go_sem, rdObj, true_or, or_true]
theorem drawText_ok (code : List Nat) (hcode : ∀ x ∈ code, x < 256) (hl : code.length ≤ 1099511627776) :
    CallF Tryd.prog 5 [.rows 5 (u8s code)] [] 0 (fun _ o => ∃ c : Cht, c.Sm ∧ o = { rs := [.agg c.cs] }) := by
  refine callF_of' Tryd.func5 rfl Tryd.ntmps5 (by simp) ?_
  intro f0 B ns Q hB hns hQ
  obtain rfl : ns = [] := List.eq_nil_of_length_eq_zero hns
  refine g_ [0,2] ?_
  refine n_ ?_
  refine wpM_regionK [2] rfl fun Q1 hQ1 => ?_
  refine S_ ?_
  refine call_fn (l := []) (first := []) (cap := []) (ps := [.rows 5 (u8s code)]) (open_ok code hcode hl) Tryd.call11 rfl rfl rfl G_ T_ ?_
  rintro out ⟨j, bs, ⟨⟩, hbs, rfl, hbe⟩
  refine S_ ?_
  refine call_fn (l := [(B + 1, rdObj bs 0)]) (first := []) (cap := []) (ps := [.ptr (B + 1) 0]) (l8Bent_ok (B + 1) bs 0 hbs (by omega) (by omega)) Tryd.call10 rfl rfl rfl G_ T_ ?_
  rintro out ⟨_, q1, ⟨c, hc, rfl⟩, hqa, hqb, rfl⟩
  refine S_ ?_
  refine hQ1 _ _ (S_ ?_);clear hQ1 Q1
  refine wpM_ret ?_
  try refine S_ ?_
  refine hQ _ _ (ret0 [] rfl rfl rfl (by rw [Tryd.results5] <;> simp (maxSteps := 1000000) -implicitDefEqProofs (disch := omega) only [go_sem] <;> rfl) ⟨c, hc, rfl⟩ ?_ ?_ ?_ ?_)
  all_goals simp -implicitDefEqProofs (disch := omega) only [go_sem, rdObj, true_or, or_true]
theorem lawSame_ok (code more : List Nat) (hcode : ∀ x ∈ code, x < 256) (hmore : ∀ x ∈ more, x < 256) : PureF Tryd.prog 3 [.rows 5 (u8s code), .rows 5 (u8s more)] [.bool true] := by
  refine pureF_of Tryd.func3 rfl Tryd.ntmps3 (by simp) T_ ?_
  intro f0 B Q hQ
  refine g_ [0,1] ?_
  refine gD_ [0,1,15] ?_
  refine c_ (fun hc0 => ?_) fun hc0 => ?_
  ·
    refine g_ [4] ?_
    exact e_ Tryd.results3 True.intro
  have hl2 : code.length ≤ 1099511627776 ∧ more.length ≤ 1099511627776 := by
    have := hc0
    simp at this
    omega
  refine n_ ?_
  refine wpM_regionK [1,5,6] rfl fun Q1 hQ1 => ?_
  refine S_ ?_
  refine call_fn (l := []) (first := []) (cap := []) (ps := [.rows 5 (u8s code)]) (drawSame_ok code hcode hl2.1) Tryd.call4 rfl rfl rfl G_ T_ ?_
  rintro out ⟨a, b, ⟨ha, hbS⟩, rfl⟩
  refine S_ ?_
  refine hQ1 _ _ (S_ ?_);clear hQ1 Q1
  refine n_ ?_
  refine wpM_regionK [5,6,7] rfl fun Q1 hQ1 => ?_
  refine S_ ?_
  refine call_fn (l := []) (first := []) (cap := []) (ps := [.rows 5 (u8s more)]) (drawText_ok more hmore hl2.2) Tryd.call5 rfl rfl rfl G_ T_ ?_
  rintro out ⟨c, hc, rfl⟩
  refine S_ ?_
  refine hQ1 _ _ (S_ ?_);clear hQ1 Q1
  refine n_ ?_
  refine dr_ mixed [5,6,7,44] 0 3 [B, B + 1, B + 2] [⟨[5],[0],[],[],false⟩,⟨[6],[1],[],[],false⟩,⟨[23,24],[],[],[],true⟩,⟨[5],[0],[],[],false⟩,⟨[6],[1],[],[],false⟩,⟨[26,27],[],[],[],true⟩,⟨[25,28],[],[],[],false⟩,⟨[29],[],[],[],false⟩,⟨[5,30],[0],[],[],false⟩,⟨[7,30],[2],[],[],false⟩,⟨[30,31,32],[],[],[],true⟩,⟨[7,30],[2],[],[],false⟩,⟨[5,30],[0],[],[],false⟩,⟨[30,34,35],[],[],[],true⟩,⟨[30,33,36],[],[],[],false⟩,⟨[30,37],[],[],[],false⟩,⟨[38],[],[],[],false⟩,⟨[5,39],[0],[],[],false⟩,⟨[5,39],[0],[],[],false⟩,⟨[39,40,41],[],[],[],true⟩,⟨[39,42],[],[],[],false⟩,⟨[39,43],[],[],[],false⟩] [0,1,3,4,2,5,6,7,8,9,11,12,10,13,14,15,16,17,18,19,20,21] [[],[],[0,1],[],[],[0,1,2,3,4],[0,1,2,3,4,5],[0,1,2,3,4,5,6],[0,1,2,3,4,5,6,7],[0,1,2,3,4,5,6,7],[0,1,2,3,4,5,6,7,8,9],[0,1,2,3,4,5,6,7],[0,1,2,3,4,5,6,7],[0,1,2,3,4,5,6,7,8,9,10,11,12],[0,1,2,3,4,5,6,7,8,9,10,11,12,13],[0,1,2,3,4,5,6,7,8,9,10,11,12,13,14],[0,1,2,3,4,5,6,7,8,9,10,11,12,13,14,15],[0,1,2,3,4,5,6,7,8,9,10,11,12,13,14,15,16],[0,1,2,3,4,5,6,7,8,9,10,11,12,13,14,15,16],[0,1,2,3,4,5,6,7,8,9,10,11,12,13,14,15,16,17,18],[0,1,2,3,4,5,6,7,8,9,10,11,12,13,14,15,16,17,18,19],[0,1,2,3,4,5,6,7,8,9,10,11,12,13,14,15,16,17,18,19,20]] 3 ?_
  intro O A K hO hA hK;simp only [atL_cons,atL_nil,Nat.reduceAdd,Nat.zero_add] at hO hA
  refine SE_ ?_
  refine lpE_ (ichSame_ok a b ha) Tryd.call6 ?_
  refine lpE_ (schSame_ok a b ha) Tryd.call7 ?_
  first | refine lg_ (fun hb => ichSame_ok a c ha) Tryd.call6 ?_ | refine lpE_ (ichSame_ok a c ha) Tryd.call6 ?_
  first | refine lg_ (fun hb => ichSame_ok c a hc) Tryd.call6 ?_ | refine lpE_ (ichSame_ok c a hc) Tryd.call6 ?_
  first | refine lg_ (fun hb => ichSame_ok a a ha) Tryd.call6 ?_ | refine lpE_ (ichSame_ok a a ha) Tryd.call6 ?_
  refine hK _ (S_ ?_);clear hK K hO hA O A
  refine c_ (fun hc1 => ?_) fun hc1 => ?_
  · exfalso; rw [same_comm c a, same_self] at hc1; simp at hc1
  refine n_ ?_
  refine wpM_regionK [5,6,7,57] rfl fun Q1 hQ1 => ?_
  refine SD_ ?_
  refine cpD_ (chtOk_ok a ha) Tryd.call8 ?_
  first | refine cg_ (fun hb => chtOk_ok b hbS) Tryd.call8 ?_ | refine cpD_ (chtOk_ok b hbS) Tryd.call8 ?_
  first | refine cg_ (fun hb => chtOk_ok c hc) Tryd.call8 ?_ | refine cpD_ (chtOk_ok c hc) Tryd.call8 ?_
  refine hQ1 _ _ (S_ ?_);clear hQ1 Q1
  refine c_ (fun hc2 => ?_) fun hc2 => ?_
  ·
    refine g_ [4] ?_
    exact e_ Tryd.results3 True.intro
  have hok := hc2
  simp only [Bool.or_eq_false_iff, Bool.not_eq_false'] at hok
  obtain ⟨⟨oa, ob⟩, oc⟩ := hok
  refine n_ ?_
  refine dr_ mixed [4] 0 3 [B, B + 1, B + 2] [⟨[5],[0],[],[],false⟩,⟨[6],[1],[],[],false⟩,⟨[58,59],[],[],[],true⟩,⟨[5],[0],[],[],false⟩,⟨[61],[],[],[],true⟩,⟨[6],[1],[],[],false⟩,⟨[63],[],[],[],true⟩,⟨[62,64],[],[],[],false⟩,⟨[60,65],[],[],[],false⟩,⟨[66],[],[],[],false⟩,⟨[5,67],[0],[],[],false⟩,⟨[7,67],[2],[],[],false⟩,⟨[67,68,69],[],[],[],true⟩,⟨[5,67],[0],[],[],false⟩,⟨[67,71],[],[],[],true⟩,⟨[7,67],[2],[],[],false⟩,⟨[67,73],[],[],[],true⟩,⟨[67,72,74],[],[],[],false⟩,⟨[67,70,75],[],[],[],false⟩,⟨[67,76],[],[],[],false⟩,⟨[77],[],[],[],false⟩] [0,1,3,5,2,4,6,7,8,9,10,11,13,15,12,14,16,17,18,19,20] [[],[],[0,1],[],[0,1,2,3],[],[0,1,2,3,4,5],[0,1,2,3,4,5,6],[0,1,2,3,4,5,6,7],[0,1,2,3,4,5,6,7,8],[0,1,2,3,4,5,6,7,8,9],[0,1,2,3,4,5,6,7,8,9],[0,1,2,3,4,5,6,7,8,9,10,11],[0,1,2,3,4,5,6,7,8,9],[0,1,2,3,4,5,6,7,8,9,10,11,12,13],[0,1,2,3,4,5,6,7,8,9],[0,1,2,3,4,5,6,7,8,9,10,11,12,13,14,15],[0,1,2,3,4,5,6,7,8,9,10,11,12,13,14,15,16],[0,1,2,3,4,5,6,7,8,9,10,11,12,13,14,15,16,17],[0,1,2,3,4,5,6,7,8,9,10,11,12,13,14,15,16,17,18],[0,1,2,3,4,5,6,7,8,9,10,11,12,13,14,15,16,17,18,19]] 3 ?_
  intro O A K hO hA hK;simp only [atL_cons,atL_nil,Nat.reduceAdd,Nat.zero_add] at hO hA
  refine SE_ ?_
  refine lpE_ (ichSame_ok a b ha) Tryd.call6 ?_
  refine lpE_ (chartText_ok a ha oa) Tryd.call9 ?_
  refine lpE_ (chartText_ok b hbS ob) Tryd.call9 ?_
  first | refine lg_ (fun hb => ichSame_ok a c ha) Tryd.call6 ?_ | refine lpE_ (ichSame_ok a c ha) Tryd.call6 ?_
  first | refine lg_ (fun hb => chartText_ok a ha oa) Tryd.call9 ?_ | refine lpE_ (chartText_ok a ha oa) Tryd.call9 ?_
  first | refine lg_ (fun hb => chartText_ok c hc oc) Tryd.call9 ?_ | refine lpE_ (chartText_ok c hc oc) Tryd.call9 ?_
  refine hK _ (S_ ?_);clear hK K hO hA O A
  refine e_ Tryd.results3 ?_
  first
  | exact True.intro
  | rw [chS_same oa ob, chS_same oa oc, beq_self_eq_true, beq_self_eq_true]
    rfl
end Go.Proofs.YtnmfmeehmieifaaDoor
