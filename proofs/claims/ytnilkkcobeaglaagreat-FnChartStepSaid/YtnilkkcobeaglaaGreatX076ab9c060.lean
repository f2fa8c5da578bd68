/- A part of a proof: lemmas and contracts of functions; the last text of the claim says what is proved. -/
import Derived.Test.YtnilkkcobeaglaaGreatXc469afdf97
set_option linter.unusedSectionVars false
set_option linter.unusedSimpArgs false
set_option linter.unusedVariables false
namespace Go.Proofs.YtnilkkcobeaglaaGreat
open Go Sg
set_option maxRecDepth 100000
set_option linter.unusedSimpArgs false
set_option linter.unusedVariables false
set_option maxHeartbeats 4000000
theorem l3Copy_ok : ∀ (N : Nat) (e : Ex), e.sz ≤ N → e.sz ≤ 1099511627776 → PureF Tryz.prog 54 [.agg e.cs] [.agg e.cs] := by
  intro N
  induction N with
  | zero => intro e h; have := e.sz_pos; omega
  | succ N ih =>
    intro e hN hs
    have hlen := e.kids_len
    refine pureF_of Tryz.func54 rfl Tryz.ntmps54 (by simp) T_ ?_
    intro f0 B Q hQ
    refine wpM_seq ?_
    refine wpM_regionK [1, 2] rfl ?_; intro Q1 hQ1
    refine S_ ?_
    refine hQ1 _ _ ?_; clear hQ1 Q1
    refine S_ ?_
    refine wpM_seq ?_
    refine wpM_regionK [1, 2, 3] rfl ?_; intro Q1 hQ1
    refine S_ ?_
    refine hQ1 _ _ ?_; clear hQ1 Q1
    refine S_ ?_
    refine wpM_seq ?_
    refine wpM_seq ?_
    refine wpM_regionK [1, 2, 3, 4] rfl ?_; intro Q1 hQ1
    refine S_ ?_
    refine hQ1 _ _ ?_; clear hQ1 Q1
    refine S_ ?_
    refine wpM_block ?_
    refine wpM_loopS (fun s r s' => (r = e.kids.length ∧ s' = s) ∨ ∃ (i0 M0 y : Nat), 0 < i0 ∧ i0 + r = e.kids.length ∧ s.M ≤ y ∧ y < M0 ∧ s' = { s with env := setE 4 (.int .i64 (i0 : Nat)) s.env, l := (y, .cells 46 (exc (e.kids.take i0))) :: setl (B + 2) (.cells 46 [.int .i64 e.kind, .int .i64 e.n, .int .i64 e.a.kind, .int .i64 e.a.at', .sl 46 y 0 i0]) s.l, M := M0 }) (e.kids.length) ?_ ?_
    ·
      refine .of' _ _ (.inl ⟨rfl, rfl⟩) ?_ ?_ ?_ <;> (first | (simp -implicitDefEqProofs (disch := omega) only [go_sem, PV.int.injEq, Int.natCast_add, Int.natCast_one, Int.natCast_zero, true_or, le_yes]; done) | rfl | trivial | (simp -implicitDefEqProofs (disch := omega) only [go_sem, PV.int.injEq, Int.natCast_add, Int.natCast_one, Int.natCast_zero, true_or]; simp; done) | (simp; done))
    rintro r s' (⟨rfl, rfl⟩ | ⟨i0, M0, y, hi0, hir, hy, hyM, rfl⟩)
    ·
      try refine S_ ?_
      refine wpM_seq ?_
      refine wpM_seq ?_
      refine wpM_regionK [1, 2, 3, 4, 16] rfl ?_; intro Q1 hQ1
      refine S_ ?_
      refine hQ1 _ _ ?_; clear hQ1 Q1
      refine S_ ?_
      refine wpM_condK ?_
      refine S_ ?_
      refine ⟨fun hc0 => ?_, fun hc0 => ?_⟩
      ·
        have hks := Ex.kid_sz (e := e) (k := 0) (by omega)
        refine wpM_skip ?_
        refine S_ ?_
        refine wpM_seq ?_
        refine wpM_block ?_
        refine wpM_keep [1, 2, 3, 4] (wpM_dr mixed 2 2 [B + 2, B, B + 3, B + 4] [⟨[3], [], [], [], false⟩, ⟨[19], [0], [], [], false⟩, ⟨[1], [], [], [], false⟩, ⟨[21], [1], [], [], false⟩, ⟨[4], [], [], [], false⟩, ⟨[22, 23], [], [], [], false⟩, ⟨[24], [], [], [], false⟩, ⟨[25], [], [], [], true⟩, ⟨[26], [], [], [2], false⟩, ⟨[20, 27], [2], [], [3], false⟩, ⟨[3], [], [], [], false⟩, ⟨[28, 29], [0], [0], [], false⟩] [0, 1, 2, 3, 4, 5, 6, 7, 8, 9, 10, 11] [[], [0], [], [2], [], [2, 3, 4], [2, 3, 4, 5], [2, 3, 4, 5, 6], [2, 3, 4, 5, 6, 7], [0, 1, 2, 3, 4, 5, 6, 7, 8], [0, 1, 2, 3, 4, 5, 6, 7, 8, 9], [0, 1, 2, 3, 4, 5, 6, 7, 8, 9, 10]] 4 rfl (by simp) (by decide +kernel) (by simp) ?_)
        intro O A K hO hA hK; simp only [atL_cons, atL_nil, Nat.reduceAdd, Nat.zero_add] at hO hA
        simp -implicitDefEqProofs (disch := omega) only [go_sem, exc_len, hO, hA]
        refine loud_p (ih (e.kids.getD 0 default) (by omega) (by omega)) Tryz.call54 rfl rfl (by first | rfl | (simp -implicitDefEqProofs (disch := omega) only [go_sem] <;> rfl)) rfl ?_
        simp -implicitDefEqProofs (disch := omega) only [go_sem, exc_len, hO, hA]
        refine hK _ ?_; clear hK K hO hA O A
        refine S_ ?_
        refine wpM_regionK [1, 2, 3, 4] rfl ?_; intro Q1 hQ1
        refine S_ ?_
        refine hQ1 _ _ ?_; clear hQ1 Q1
        refine S_ ?_
        have e1 : [PV.int .i64 (e.kids.getD 0 default).kind, .int .i64 (e.kids.getD 0 default).n, .int .i64 (e.kids.getD 0 default).a.kind, .int .i64 (e.kids.getD 0 default).a.at', .rows 46 (Ex.csL (e.kids.getD 0 default).kids)] = exc (e.kids.take 1) := by
          have this0 : e.kids.getD 0 default = e.kids[0] := by simp [List.getD, show 0 < e.kids.length by omega]
          rw [List.take_succ_eq_append_getElem (by omega), List.take_zero, List.nil_append, ← exc_one, ← this0, Ex.cs_eq]
        rw [e1]
        refine .of' _ _ ⟨e.kids.length - 1, by omega, .inr ⟨1, _, B + 4, by omega, by omega, ?_, ?_, rfl⟩⟩ ?_ ?_ ?_
        · first | omega | (simp -implicitDefEqProofs (disch := omega) only [go_sem]; done) | (simp -implicitDefEqProofs (disch := omega) only [go_sem]; omega)
        · first | omega | (simp -implicitDefEqProofs (disch := omega) only [go_sem]; done) | (simp -implicitDefEqProofs (disch := omega) only [go_sem]; omega)
        all_goals (first | (simp -implicitDefEqProofs (disch := omega) only [go_sem, PV.int.injEq, Int.natCast_add, Int.natCast_one, Int.natCast_zero, true_or, le_yes]; done) | rfl | trivial | (simp -implicitDefEqProofs (disch := omega) only [go_sem, PV.int.injEq, Int.natCast_add, Int.natCast_one, Int.natCast_zero, true_or]; simp; done) | (simp; done))
      refine wpM_exit ?_
      refine S_ ?_
      refine wpM_seq ?_
      have hk0 : e.kids = [] := List.eq_nil_of_length_eq_zero (by omega)
      refine wpM_le [(2, .ptr (B + 1) 0), (3, .ptr (B + 2) 0)] [(B + 2, .cells 46 e.cs), (B + 1, .cells 46 [.int .i64 0, .int .i64 0, .int .i64 0, .int .i64 0, .emp])] (by simp -implicitDefEqProofs (disch := omega) only [go_sem, hk0]) (by simp -implicitDefEqProofs (disch := omega) only [go_sem, hk0]) T_ ?_
      refine wpM_regionK [2] rfl ?_; intro Q1 hQ1
      refine S_ ?_
      refine hQ1 _ _ ?_; clear hQ1 Q1
      refine S_ ?_
      refine wpM_ret ?_
      try refine S_ ?_
      refine hQ _ _ rfl rfl rfl (by simp -implicitDefEqProofs (disch := omega) only [go_sem, le_yes, true_or]) ?_ (.inl rfl)
      rw [Tryz.results54]
      try simp -implicitDefEqProofs (disch := omega) only [go_sem, List.cons.injEq, PV.bool.injEq, PV.int.injEq, PV.agg.injEq]
      all_goals
        rfl
    dsimp only at hy
    try refine S_ ?_
    refine wpM_seq ?_
    refine wpM_seq ?_
    refine wpM_regionK [1, 2, 3, 4, 16] rfl ?_; intro Q1 hQ1
    refine S_ ?_
    refine hQ1 _ _ ?_; clear hQ1 Q1
    refine S_ ?_
    refine wpM_condK ?_
    refine S_ ?_
    refine ⟨fun hc0 => ?_, fun hc0 => ?_⟩
    ·
      have hks := Ex.kid_sz (e := e) (k := i0) (by omega)
      have htl : (e.kids.take i0).length = i0 := by simp; omega
      refine wpM_skip ?_
      refine S_ ?_
      refine wpM_seq ?_
      refine wpM_block ?_
      refine wpM_keep [1, 2, 3, 4] (wpM_dr mixed 2 3 [B + 2, B, y, M0, M0 + 1] [⟨[3], [], [], [], false⟩, ⟨[19], [0], [], [], false⟩, ⟨[1], [], [], [], false⟩, ⟨[21], [1], [], [], false⟩, ⟨[4], [], [], [], false⟩, ⟨[22, 23], [], [], [], false⟩, ⟨[24], [], [], [], false⟩, ⟨[25], [], [], [], true⟩, ⟨[26], [], [], [3], false⟩, ⟨[20, 27], [2, 3], [2], [4], false⟩, ⟨[3], [], [], [], false⟩, ⟨[28, 29], [0], [0], [], false⟩] [0, 1, 2, 3, 4, 5, 6, 7, 8, 9, 10, 11] [[], [0], [], [2], [], [2, 3, 4], [2, 3, 4, 5], [2, 3, 4, 5, 6], [2, 3, 4, 5, 6, 7], [0, 1, 2, 3, 4, 5, 6, 7, 8], [0, 1, 2, 3, 4, 5, 6, 7, 8, 9], [0, 1, 2, 3, 4, 5, 6, 7, 8, 9, 10]] 5 rfl (by simp; omega) (by decide +kernel) (by simp) ?_)
      intro O A K hO hA hK; simp only [atL_cons, atL_nil, Nat.reduceAdd, Nat.zero_add] at hO hA
      simp -implicitDefEqProofs (disch := omega) only [go_sem, htl, hO, hA]
      refine loud_p (ih (e.kids.getD i0 default) (by omega) (by omega)) Tryz.call54 rfl rfl (by first | rfl | (simp -implicitDefEqProofs (disch := omega) only [go_sem] <;> rfl)) rfl ?_
      simp -implicitDefEqProofs (disch := omega) only [go_sem, htl, hO, hA]
      refine hK _ ?_; clear hK K hO hA O A
      refine S_ ?_
      refine wpM_regionK [1, 2, 3, 4] rfl ?_; intro Q1 hQ1
      refine S_ ?_
      refine hQ1 _ _ ?_; clear hQ1 Q1
      refine S_ ?_
      have e1 : exc (e.kids.take i0) ++ [.int .i64 (e.kids.getD i0 default).kind, .int .i64 (e.kids.getD i0 default).n, .int .i64 (e.kids.getD i0 default).a.kind, .int .i64 (e.kids.getD i0 default).a.at', .rows 46 (Ex.csL (e.kids.getD i0 default).kids)] = exc (e.kids.take (i0 + 1)) := by
        rw [List.take_succ_eq_append_getElem (by omega), ← exc_app, Ex.cs_eq]
        have : e.kids.getD i0 default = e.kids[i0] := by simp [List.getD, show i0 < e.kids.length by omega]
        rw [this]
      rw [e1]
      refine .of' _ _ ⟨r - 1, by omega, .inr ⟨i0 + 1, _, M0 + 1, by omega, by omega, ?_, ?_, rfl⟩⟩ ?_ ?_ ?_
      · first | omega | (simp -implicitDefEqProofs (disch := omega) only [go_sem]; done) | (simp -implicitDefEqProofs (disch := omega) only [go_sem]; omega)
      · first | omega | (simp -implicitDefEqProofs (disch := omega) only [go_sem]; done) | (simp -implicitDefEqProofs (disch := omega) only [go_sem]; omega)
      all_goals (first | (simp -implicitDefEqProofs (disch := omega) only [go_sem, PV.int.injEq, Int.natCast_add, Int.natCast_one, Int.natCast_zero, true_or, le_yes]; done) | rfl | trivial | (simp -implicitDefEqProofs (disch := omega) only [go_sem, PV.int.injEq, Int.natCast_add, Int.natCast_one, Int.natCast_zero, true_or]; simp; done) | (simp; done))
    refine wpM_exit ?_
    refine S_ ?_
    refine wpM_seq ?_
    have hie : i0 = e.kids.length := by omega
    have htl : e.kids.take i0 = e.kids := by rw [hie, List.take_of_length_le (Nat.le_refl _)]
    rw [htl]
    refine wpM_frz [y] [(46, y, 0, i0, Ex.csL e.kids)] (by intro q hq; simp at hq; subst hq; simp -implicitDefEqProofs (disch := omega) only [go_sem]) (by intro q hq; simp only [List.mem_cons, List.not_mem_nil, or_false] at hq; subst hq; rw [hie]; exact ⟨by simp, rowsOf_exc (T := 46) T_⟩) ?_
    simp -implicitDefEqProofs (disch := omega) only [go_sem]
    refine wpM_regionK [2] rfl ?_; intro Q1 hQ1
    refine S_ ?_
    refine hQ1 _ _ ?_; clear hQ1 Q1
    refine S_ ?_
    refine wpM_ret ?_
    try refine S_ ?_
    refine hQ _ _ rfl rfl rfl (by simp -implicitDefEqProofs (disch := omega) only [go_sem, le_yes, true_or]) ?_ (.inl rfl)
    rw [Tryz.results54]
    try simp -implicitDefEqProofs (disch := omega) only [go_sem, List.cons.injEq, PV.bool.injEq, PV.int.injEq, PV.agg.injEq]
    all_goals
      rfl
theorem l3Some_ok (id : Nat) (bs : List Nat) (q : Int) (hbs : Bs bs) (hq0 : 0 ≤ q) (hq : q + 153 ≤ 1000000000000) : RdF 103 [] id bs q 153 (fun v => ∃ e : Ex, e.sz ≤ 31 ∧ v = .agg e.cs) := by
  refine callF_of' Tryz.func103 rfl Tryz.ntmps103 (by simp) ?_
  intro f0 B ns Q hB hns hQ
  have hid : id < B := hB id (by simp [hasKey, lk])
  obtain rfl : ns = [] := List.eq_nil_of_length_eq_zero hns
  have b4 : eb 4 = 124 := rfl
  have b2 : eb 2 = 28 := rfl
  have s4 : es 4 = 31 := rfl
  have s2 : es 2 = 7 := rfl
  refine wpM_seq ?_
  refine wpM_regionK [0, 2] rfl ?_; intro Q1 hQ1
  refine S_ ?_
  refine hQ1 _ _ ?_; clear hQ1 Q1
  refine S_ ?_
  refine wpM_seq ?_
  refine wpM_regionK [0, 2, 3] rfl ?_; intro Q1 hQ1
  refine S_ ?_
  refine call_fn (l := [(id, rdObj bs q)]) (first := []) (cap := []) (ps := [.ptr id 0, .int .i64 4]) (pick_ok id bs q 4 hbs (by omega) (by omega) (by omega)) Tryz.call33 rfl rfl rfl T_ T_ ?_
  rintro out ⟨k1, rfl, h1, h2, h3⟩
  refine S_ ?_
  refine call_fn (l := [(id, rdObj bs (q + 1))]) (first := []) (cap := []) (ps := [.ptr id 0, .int .i64 (1 + k1)]) (l3Expr_ok id bs hbs 4 (q + 1) (1 + k1) (by omega) (by omega) (by omega) (by omega)) Tryz.call75 rfl rfl rfl T_ T_ ?_
  rintro out ⟨_, q', ⟨e, hes, rfl⟩, hqa, hqb, rfl⟩
  refine S_ ?_
  refine hQ1 _ _ ?_; clear hQ1 Q1
  refine S_ ?_
  refine wpM_seq ?_
  refine wpM_seq ?_
  refine wpM_regionK [0, 2, 3, 11] rfl ?_; intro Q1 hQ1
  refine S_ ?_
  refine call_p (exprOk_ok e (by omega)) Tryz.call19 rfl rfl rfl (by first | rfl | (simp -implicitDefEqProofs (disch := omega) only [go_sem] <;> rfl)) ?_
  refine S_ ?_
  refine hQ1 _ _ ?_; clear hQ1 Q1
  refine S_ ?_
  refine wpM_condK ?_
  refine S_ ?_
  refine ⟨fun hc0 => ?_, fun hc0 => ?_⟩
  ·
    refine wpM_seq ?_
    refine wpM_regionK [2] rfl ?_; intro Q1 hQ1
    refine S_ ?_
    refine call_fn (l := [(id, rdObj bs q')]) (first := []) (cap := []) (ps := [.ptr id 0, .int .i64 2]) (l3Expr_ok id bs hbs 2 q' 2 (by omega) (by omega) (by omega) (by omega)) Tryz.call75 rfl rfl rfl T_ T_ ?_
    rintro out ⟨_, q2, ⟨e2, hes2, rfl⟩, hqc, hqd, rfl⟩
    refine S_ ?_
    refine hQ1 _ _ ?_; clear hQ1 Q1
    refine S_ ?_
    refine wpM_ret ?_
    try refine S_ ?_
    first
    | refine hQ _ _ (ret0 [(id, some (rdObj bs q2))] rfl rfl rfl (by rw [Tryz.results103]; simp (maxSteps := 1000000) -implicitDefEqProofs (disch := omega) only [go_sem] <;> rfl) ⟨_, q2, ⟨e2, by omega, rfl⟩, by omega, by omega, rfl⟩ ?_ ?_ ?_ ?_) <;> (simp -implicitDefEqProofs (disch := omega) only [go_sem, rdObj, true_or, or_true]; done)
    | refine hQ _ _ (ret0 [(id, some (rdObj bs q'))] rfl rfl rfl (by rw [Tryz.results103]; simp (maxSteps := 1000000) -implicitDefEqProofs (disch := omega) only [go_sem] <;> rfl) ⟨_, q', ⟨e, by omega, rfl⟩, by omega, by omega, rfl⟩ ?_ ?_ ?_ ?_) <;> (simp -implicitDefEqProofs (disch := omega) only [go_sem, rdObj, true_or, or_true]; done)
  refine wpM_skip ?_
  refine S_ ?_
  refine wpM_seq ?_
  refine wpM_regionK [2] rfl ?_; intro Q1 hQ1
  refine S_ ?_
  refine hQ1 _ _ ?_; clear hQ1 Q1
  refine S_ ?_
  refine wpM_ret ?_
  try refine S_ ?_
  first
  | refine hQ _ _ (ret0 [(id, some (rdObj bs q2))] rfl rfl rfl (by rw [Tryz.results103]; simp (maxSteps := 1000000) -implicitDefEqProofs (disch := omega) only [go_sem] <;> rfl) ⟨_, q2, ⟨e2, by omega, rfl⟩, by omega, by omega, rfl⟩ ?_ ?_ ?_ ?_) <;> (simp -implicitDefEqProofs (disch := omega) only [go_sem, rdObj, true_or, or_true]; done)
  | refine hQ _ _ (ret0 [(id, some (rdObj bs q'))] rfl rfl rfl (by rw [Tryz.results103]; simp (maxSteps := 1000000) -implicitDefEqProofs (disch := omega) only [go_sem] <;> rfl) ⟨_, q', ⟨e, by omega, rfl⟩, by omega, by omega, rfl⟩ ?_ ?_ ?_ ?_) <;> (simp -implicitDefEqProofs (disch := omega) only [go_sem, rdObj, true_or, or_true]; done)
theorem l3Bent_ok (id : Nat) (bs : List Nat) (q : Int) (hbs : Bs bs) (hq0 : 0 ≤ q) (hq : q + 158 ≤ 1000000000000) : RdF 58 [] id bs q 158 (fun v => ∃ e : Ex, e.sz ≤ 1000 ∧ v = .agg e.cs) := by
  refine callF_of' Tryz.func58 rfl Tryz.ntmps58 (by simp) ?_
  intro f0 B ns Q hB hns hQ
  have hid : id < B := hB id (by simp [hasKey, lk])
  obtain rfl : ns = [] := List.eq_nil_of_length_eq_zero hns
  refine wpM_seq ?_
  refine wpM_regionK [0, 2] rfl ?_; intro Q1 hQ1
  refine S_ ?_
  refine hQ1 _ _ ?_; clear hQ1 Q1
  refine S_ ?_
  refine wpM_seq ?_
  refine wpM_regionK [0, 2, 3] rfl ?_; intro Q1 hQ1
  refine S_ ?_
  refine call_fn (l := [(id, rdObj bs q)]) (first := []) (cap := []) (ps := [.ptr id 0]) (l3Some_ok id bs q hbs (by omega) (by omega)) Tryz.call103 rfl rfl rfl T_ T_ ?_
  rintro out ⟨_, q', ⟨e, hes, rfl⟩, hqa, hqb, rfl⟩
  refine S_ ?_
  refine hQ1 _ _ ?_; clear hQ1 Q1
  refine S_ ?_
  refine wpM_seq ?_
  refine wpM_seq ?_
  refine wpM_regionK [0, 2, 3, 9] rfl ?_; intro Q1 hQ1
  refine S_ ?_
  refine call_fn (l := [(id, rdObj bs q')]) (first := []) (cap := []) (ps := [.ptr id 0, .int .i64 60]) (pick_ok id bs q' 60 hbs (by omega) (by omega) (by omega)) Tryz.call33 rfl rfl rfl T_ T_ ?_
  rintro out ⟨k1, rfl, h1, h2, h3⟩
  refine S_ ?_
  refine hQ1 _ _ ?_; clear hQ1 Q1
  refine S_ ?_
  refine wpM_block ?_
  refine wpM_seq ?_
  refine wpM_regionK [0, 2, 3, 9, 10] rfl ?_; intro Q1 hQ1
  refine S_ ?_
  refine hQ1 _ _ ?_; clear hQ1 Q1
  refine S_ ?_
  refine wpM_condK ?_
  refine S_ ?_
  refine ⟨fun hc0 => ?_, fun hc0 => ?_⟩
  ·
    refine wpM_regionK [2, 3] rfl ?_; intro Q1 hQ1
    refine S_ ?_
    refine call_fn (l := [(id, rdObj bs (q' + 1)), (B + 2, .cells 3 (ints [0, 11, 3, 10]))]) (first := []) (cap := []) (ps := [.ptr id 0, .sl 3 (B + 2) 0 4]) (num_ok id (B + 2) bs (q' + 1) [0, 11, 3, 10] 4 rfl (by omega) (by omega) (by omega) hbs (by omega) (by omega)) Tryz.call74 rfl rfl rfl T_ (by simp -implicitDefEqProofs (disch := omega) only [go_sem, ints, List.map_cons, List.map_nil]) ?_
    rintro out ⟨k2, rfl, h4⟩
    refine S_ ?_
    refine hQ1 _ _ ?_; clear hQ1 Q1
    refine S_ ?_
    refine wpM_seq ?_
    refine wpM_regionK [2] rfl ?_; intro Q1 hQ1
    refine S_ ?_
    refine hQ1 _ _ ?_; clear hQ1 Q1
    refine S_ ?_
    refine wpM_ret ?_
    try refine S_ ?_
    first
    | refine hQ _ _ (ret0 [(id, some (rdObj bs (q' + 1 + 1)))] rfl rfl rfl (by rw [Tryz.results58]; simp (maxSteps := 1000000) -implicitDefEqProofs (disch := omega) only [go_sem] <;> rfl) ⟨_, q' + 1 + 1, ⟨Ex.mk k2 e.n e.a e.kids, by rw [Ex.sz_eq] at hes; simp only [Ex.sz]; omega, by first | rfl | (rw [Ex.cs_eq]; done)⟩, by omega, by omega, rfl⟩ ?_ ?_ ?_ ?_) <;> (simp -implicitDefEqProofs (disch := omega) only [go_sem, rdObj, true_or, or_true]; done)
    | refine hQ _ _ (ret0 [(id, some (rdObj bs (q' + 1 + 1)))] rfl rfl rfl (by rw [Tryz.results58]; simp (maxSteps := 1000000) -implicitDefEqProofs (disch := omega) only [go_sem] <;> rfl) ⟨_, q' + 1 + 1, ⟨Ex.mk e.kind k3 e.a e.kids, by rw [Ex.sz_eq] at hes; simp only [Ex.sz]; omega, by first | rfl | (rw [Ex.cs_eq]; done)⟩, by omega, by omega, rfl⟩ ?_ ?_ ?_ ?_) <;> (simp -implicitDefEqProofs (disch := omega) only [go_sem, rdObj, true_or, or_true]; done)
    | refine hQ _ _ (ret0 [(id, some (rdObj bs (q2)))] rfl rfl rfl (by rw [Tryz.results58]; simp (maxSteps := 1000000) -implicitDefEqProofs (disch := omega) only [go_sem] <;> rfl) ⟨_, q2, ⟨Ex.mk e.kind e.n a e.kids, by rw [Ex.sz_eq] at hes; simp only [Ex.sz]; omega, by first | rfl | (rw [Ex.cs_eq]; done)⟩, by omega, by omega, rfl⟩ ?_ ?_ ?_ ?_) <;> (simp -implicitDefEqProofs (disch := omega) only [go_sem, rdObj, true_or, or_true]; done)
    | refine hQ _ _ (ret0 [(id, some (rdObj bs (q' + 1)))] rfl rfl rfl (by rw [Tryz.results58]; simp (maxSteps := 1000000) -implicitDefEqProofs (disch := omega) only [go_sem] <;> rfl) ⟨_, q' + 1, ⟨e0, by omega, by first | rfl | (rw [Ex.cs_eq]; done)⟩, by omega, by omega, rfl⟩ ?_ ?_ ?_ ?_) <;> (simp -implicitDefEqProofs (disch := omega) only [go_sem, rdObj, true_or, or_true]; done)
    | refine hQ _ _ (ret0 [(id, some (rdObj bs (q' + 1)))] rfl rfl rfl (by rw [Tryz.results58]; simp (maxSteps := 1000000) -implicitDefEqProofs (disch := omega) only [go_sem] <;> rfl) ⟨_, q' + 1, ⟨e0, by (have h4 : i1 = 4 := by omega); subst h4; omega, by first | rfl | (rw [Ex.cs_eq]; done)⟩, by omega, by omega, rfl⟩ ?_ ?_ ?_ ?_) <;> (simp -implicitDefEqProofs (disch := omega) only [go_sem, rdObj, true_or, or_true]; done)
    | refine hQ _ _ (ret0 [(id, some (rdObj bs (q' + 1)))] rfl rfl rfl (by rw [Tryz.results58]; simp (maxSteps := 1000000) -implicitDefEqProofs (disch := omega) only [go_sem] <;> rfl) ⟨_, q' + 1, ⟨e, by omega, by first | rfl | (rw [Ex.cs_eq]; done)⟩, by omega, by omega, rfl⟩ ?_ ?_ ?_ ?_) <;> (simp -implicitDefEqProofs (disch := omega) only [go_sem, rdObj, true_or, or_true]; done)
  refine wpM_seq ?_
  refine wpM_regionK [0, 2, 3, 9, 16] rfl ?_; intro Q1 hQ1
  refine S_ ?_
  refine hQ1 _ _ ?_; clear hQ1 Q1
  refine S_ ?_
  refine wpM_condK ?_
  refine S_ ?_
  refine ⟨fun hc1 => ?_, fun hc1 => ?_⟩
  ·
    refine wpM_regionK [2, 3] rfl ?_; intro Q1 hQ1
    refine S_ ?_
    refine call_fn (l := [(id, rdObj bs (q' + 1)), (B + 2, .cells 3 (ints [1, 1000001]))]) (first := []) (cap := []) (ps := [.ptr id 0, .sl 3 (B + 2) 0 2]) (num_ok id (B + 2) bs (q' + 1) [1, 1000001] 2 rfl (by omega) (by omega) (by omega) hbs (by omega) (by omega)) Tryz.call74 rfl rfl rfl T_ (by simp -implicitDefEqProofs (disch := omega) only [go_sem, ints, List.map_cons, List.map_nil]) ?_
    rintro out ⟨k3, rfl, h4⟩
    refine S_ ?_
    refine hQ1 _ _ ?_; clear hQ1 Q1
    refine S_ ?_
    refine wpM_seq ?_
    refine wpM_regionK [2] rfl ?_; intro Q1 hQ1
    refine S_ ?_
    refine hQ1 _ _ ?_; clear hQ1 Q1
    refine S_ ?_
    refine wpM_ret ?_
    try refine S_ ?_
    first
    | refine hQ _ _ (ret0 [(id, some (rdObj bs (q' + 1 + 1)))] rfl rfl rfl (by rw [Tryz.results58]; simp (maxSteps := 1000000) -implicitDefEqProofs (disch := omega) only [go_sem] <;> rfl) ⟨_, q' + 1 + 1, ⟨Ex.mk k2 e.n e.a e.kids, by rw [Ex.sz_eq] at hes; simp only [Ex.sz]; omega, by first | rfl | (rw [Ex.cs_eq]; done)⟩, by omega, by omega, rfl⟩ ?_ ?_ ?_ ?_) <;> (simp -implicitDefEqProofs (disch := omega) only [go_sem, rdObj, true_or, or_true]; done)
    | refine hQ _ _ (ret0 [(id, some (rdObj bs (q' + 1 + 1)))] rfl rfl rfl (by rw [Tryz.results58]; simp (maxSteps := 1000000) -implicitDefEqProofs (disch := omega) only [go_sem] <;> rfl) ⟨_, q' + 1 + 1, ⟨Ex.mk e.kind k3 e.a e.kids, by rw [Ex.sz_eq] at hes; simp only [Ex.sz]; omega, by first | rfl | (rw [Ex.cs_eq]; done)⟩, by omega, by omega, rfl⟩ ?_ ?_ ?_ ?_) <;> (simp -implicitDefEqProofs (disch := omega) only [go_sem, rdObj, true_or, or_true]; done)
    | refine hQ _ _ (ret0 [(id, some (rdObj bs (q2)))] rfl rfl rfl (by rw [Tryz.results58]; simp (maxSteps := 1000000) -implicitDefEqProofs (disch := omega) only [go_sem] <;> rfl) ⟨_, q2, ⟨Ex.mk e.kind e.n a e.kids, by rw [Ex.sz_eq] at hes; simp only [Ex.sz]; omega, by first | rfl | (rw [Ex.cs_eq]; done)⟩, by omega, by omega, rfl⟩ ?_ ?_ ?_ ?_) <;> (simp -implicitDefEqProofs (disch := omega) only [go_sem, rdObj, true_or, or_true]; done)
    | refine hQ _ _ (ret0 [(id, some (rdObj bs (q' + 1)))] rfl rfl rfl (by rw [Tryz.results58]; simp (maxSteps := 1000000) -implicitDefEqProofs (disch := omega) only [go_sem] <;> rfl) ⟨_, q' + 1, ⟨e0, by omega, by first | rfl | (rw [Ex.cs_eq]; done)⟩, by omega, by omega, rfl⟩ ?_ ?_ ?_ ?_) <;> (simp -implicitDefEqProofs (disch := omega) only [go_sem, rdObj, true_or, or_true]; done)
    | refine hQ _ _ (ret0 [(id, some (rdObj bs (q' + 1)))] rfl rfl rfl (by rw [Tryz.results58]; simp (maxSteps := 1000000) -implicitDefEqProofs (disch := omega) only [go_sem] <;> rfl) ⟨_, q' + 1, ⟨e0, by (have h4 : i1 = 4 := by omega); subst h4; omega, by first | rfl | (rw [Ex.cs_eq]; done)⟩, by omega, by omega, rfl⟩ ?_ ?_ ?_ ?_) <;> (simp -implicitDefEqProofs (disch := omega) only [go_sem, rdObj, true_or, or_true]; done)
    | refine hQ _ _ (ret0 [(id, some (rdObj bs (q' + 1)))] rfl rfl rfl (by rw [Tryz.results58]; simp (maxSteps := 1000000) -implicitDefEqProofs (disch := omega) only [go_sem] <;> rfl) ⟨_, q' + 1, ⟨e, by omega, by first | rfl | (rw [Ex.cs_eq]; done)⟩, by omega, by omega, rfl⟩ ?_ ?_ ?_ ?_) <;> (simp -implicitDefEqProofs (disch := omega) only [go_sem, rdObj, true_or, or_true]; done)
  refine wpM_seq ?_
  refine wpM_regionK [0, 2, 3, 9, 22] rfl ?_; intro Q1 hQ1
  refine S_ ?_
  refine hQ1 _ _ ?_; clear hQ1 Q1
  refine S_ ?_
  refine wpM_condK ?_
  refine S_ ?_
  refine ⟨fun hc2 => ?_, fun hc2 => ?_⟩
  ·
    refine wpM_regionK [2, 3] rfl ?_; intro Q1 hQ1
    refine S_ ?_
    refine call_fn (l := [(id, rdObj bs (q' + 1))]) (first := []) (cap := []) (ps := [.ptr id 0]) (l2AddrBent_ok id bs (q' + 1) hbs (by omega) (by omega)) Tryz.call76 rfl rfl rfl T_ T_ ?_
    rintro out ⟨_, q2, ⟨a, rfl⟩, hqc, hqd, rfl⟩
    refine S_ ?_
    refine hQ1 _ _ ?_; clear hQ1 Q1
    refine S_ ?_
    refine wpM_seq ?_
    refine wpM_regionK [2] rfl ?_; intro Q1 hQ1
    refine S_ ?_
    refine hQ1 _ _ ?_; clear hQ1 Q1
    refine S_ ?_
    refine wpM_ret ?_
    try refine S_ ?_
    first
    | refine hQ _ _ (ret0 [(id, some (rdObj bs (q' + 1 + 1)))] rfl rfl rfl (by rw [Tryz.results58]; simp (maxSteps := 1000000) -implicitDefEqProofs (disch := omega) only [go_sem] <;> rfl) ⟨_, q' + 1 + 1, ⟨Ex.mk k2 e.n e.a e.kids, by rw [Ex.sz_eq] at hes; simp only [Ex.sz]; omega, by first | rfl | (rw [Ex.cs_eq]; done)⟩, by omega, by omega, rfl⟩ ?_ ?_ ?_ ?_) <;> (simp -implicitDefEqProofs (disch := omega) only [go_sem, rdObj, true_or, or_true]; done)
    | refine hQ _ _ (ret0 [(id, some (rdObj bs (q' + 1 + 1)))] rfl rfl rfl (by rw [Tryz.results58]; simp (maxSteps := 1000000) -implicitDefEqProofs (disch := omega) only [go_sem] <;> rfl) ⟨_, q' + 1 + 1, ⟨Ex.mk e.kind k3 e.a e.kids, by rw [Ex.sz_eq] at hes; simp only [Ex.sz]; omega, by first | rfl | (rw [Ex.cs_eq]; done)⟩, by omega, by omega, rfl⟩ ?_ ?_ ?_ ?_) <;> (simp -implicitDefEqProofs (disch := omega) only [go_sem, rdObj, true_or, or_true]; done)
    | refine hQ _ _ (ret0 [(id, some (rdObj bs (q2)))] rfl rfl rfl (by rw [Tryz.results58]; simp (maxSteps := 1000000) -implicitDefEqProofs (disch := omega) only [go_sem] <;> rfl) ⟨_, q2, ⟨Ex.mk e.kind e.n a e.kids, by rw [Ex.sz_eq] at hes; simp only [Ex.sz]; omega, by first | rfl | (rw [Ex.cs_eq]; done)⟩, by omega, by omega, rfl⟩ ?_ ?_ ?_ ?_) <;> (simp -implicitDefEqProofs (disch := omega) only [go_sem, rdObj, true_or, or_true]; done)
    | refine hQ _ _ (ret0 [(id, some (rdObj bs (q' + 1)))] rfl rfl rfl (by rw [Tryz.results58]; simp (maxSteps := 1000000) -implicitDefEqProofs (disch := omega) only [go_sem] <;> rfl) ⟨_, q' + 1, ⟨e0, by omega, by first | rfl | (rw [Ex.cs_eq]; done)⟩, by omega, by omega, rfl⟩ ?_ ?_ ?_ ?_) <;> (simp -implicitDefEqProofs (disch := omega) only [go_sem, rdObj, true_or, or_true]; done)
    | refine hQ _ _ (ret0 [(id, some (rdObj bs (q' + 1)))] rfl rfl rfl (by rw [Tryz.results58]; simp (maxSteps := 1000000) -implicitDefEqProofs (disch := omega) only [go_sem] <;> rfl) ⟨_, q' + 1, ⟨e0, by (have h4 : i1 = 4 := by omega); subst h4; omega, by first | rfl | (rw [Ex.cs_eq]; done)⟩, by omega, by omega, rfl⟩ ?_ ?_ ?_ ?_) <;> (simp -implicitDefEqProofs (disch := omega) only [go_sem, rdObj, true_or, or_true]; done)
    | refine hQ _ _ (ret0 [(id, some (rdObj bs (q' + 1)))] rfl rfl rfl (by rw [Tryz.results58]; simp (maxSteps := 1000000) -implicitDefEqProofs (disch := omega) only [go_sem] <;> rfl) ⟨_, q' + 1, ⟨e, by omega, by first | rfl | (rw [Ex.cs_eq]; done)⟩, by omega, by omega, rfl⟩ ?_ ?_ ?_ ?_) <;> (simp -implicitDefEqProofs (disch := omega) only [go_sem, rdObj, true_or, or_true]; done)
  refine wpM_seq ?_
  refine wpM_regionK [2, 3, 9, 27] rfl ?_; intro Q1 hQ1
  refine S_ ?_
  refine hQ1 _ _ ?_; clear hQ1 Q1
  refine S_ ?_
  refine wpM_condK ?_
  refine S_ ?_
  refine ⟨fun hc3 => ?_, fun hc3 => ?_⟩
  ·
    refine wpM_seq ?_
    refine wpM_regionK [2, 3, 4] rfl ?_; intro Q1 hQ1
    refine S_ ?_
    refine hQ1 _ _ ?_; clear hQ1 Q1
    refine S_ ?_
    refine wpM_block ?_
    refine wpM_loopS (fun s n s' => ∃ (i0 M0 : Nat) (e0 : Ex), i0 + n = 6 ∧ s.M ≤ M0 ∧ (e0.sz ≤ 31 + i0) ∧ s' = { s with env := setE 4 (.int .i64 (i0 : Nat)) s.env, l := setl (B + 1) (.cells 46 e0.cs) s.l, M := M0 }) (6) ?_ ?_
    ·
      refine .of' _ _ ⟨0, _, e, by omega, Nat.le_refl _, by omega, rfl⟩ ?_ ?_ ?_ <;> (first | (simp -implicitDefEqProofs (disch := omega) only [go_sem, PV.int.injEq, Int.natCast_add, Int.natCast_one, Int.natCast_zero, true_or, le_yes]; done) | rfl | trivial | (simp -implicitDefEqProofs (disch := omega) only [go_sem, PV.int.injEq, Int.natCast_add, Int.natCast_one, Int.natCast_zero, true_or]; simp; done) | (simp; done))
    rintro n0 s' ⟨i0, M0, e0, hi0, hM0, hv0, rfl⟩
    try dsimp only at hM0
    try refine S_ ?_
    refine wpM_seq ?_
    refine wpM_seq ?_
    refine wpM_regionK [2, 3, 4, 30] rfl ?_; intro Q1 hQ1
    refine S_ ?_
    refine hQ1 _ _ ?_; clear hQ1 Q1
    refine S_ ?_
    refine wpM_condK ?_
    refine S_ ?_
    refine ⟨fun hc4 => ?_, fun hc4 => ?_⟩
    ·
      have hl0 : i0 < 6 := by omega
      refine wpM_skip ?_
      refine S_ ?_
      refine wpM_seq ?_
      refine wpM_block ?_
      refine wpM_regionK [2, 3, 4] rfl ?_; intro Q1 hQ1
      refine S_ ?_
      refine hQ1 _ _ ?_; clear hQ1 Q1
      refine S_ ?_
      refine wpM_frz [M0] [(46, M0, 0, 1, Ex.csL [e0])] (by intro q hq; simp at hq; subst hq; simp -implicitDefEqProofs (disch := omega) only [go_sem]) (by intro q hq; simp only [List.mem_cons, List.not_mem_nil, or_false] at hq; subst hq; exact ⟨by simp, rowsOf_exc (T := 46) (l := [e0]) (by rw [← exc_one, Ex.cs_eq]; simp -implicitDefEqProofs (disch := omega) only [go_sem])⟩) ?_
      simp -implicitDefEqProofs (disch := omega) only [go_sem, rdObj]
      refine wpM_regionK [2, 3, 4] rfl ?_; intro Q1 hQ1
      refine S_ ?_
      refine hQ1 _ _ ?_; clear hQ1 Q1
      refine S_ ?_
      refine .of' _ _ ⟨n0 - 1, by omega, i0 + 1, _, Ex.mk 10 0 ⟨0, 0⟩ [e0], by omega, ?_, ?_, rfl⟩ ?_ ?_ ?_
      · first | omega | (simp -implicitDefEqProofs (disch := omega) only [go_sem]; done) | (simp -implicitDefEqProofs (disch := omega) only [go_sem]; omega)
      · simp only [Ex.sz, Ex.szL]; omega
      all_goals (first | (simp -implicitDefEqProofs (disch := omega) only [go_sem, PV.int.injEq, Int.natCast_add, Int.natCast_one, Int.natCast_zero, true_or, le_yes]; done) | rfl | trivial | (simp -implicitDefEqProofs (disch := omega) only [go_sem, PV.int.injEq, Int.natCast_add, Int.natCast_one, Int.natCast_zero, true_or]; simp; done) | (simp; done))
    refine wpM_exit ?_
    refine S_ ?_
    refine wpM_seq ?_
    refine wpM_regionK [2] rfl ?_; intro Q1 hQ1
    refine S_ ?_
    refine hQ1 _ _ ?_; clear hQ1 Q1
    refine S_ ?_
    refine wpM_ret ?_
    try refine S_ ?_
    first
    | refine hQ _ _ (ret0 [(id, some (rdObj bs (q' + 1 + 1)))] rfl rfl rfl (by rw [Tryz.results58]; simp (maxSteps := 1000000) -implicitDefEqProofs (disch := omega) only [go_sem] <;> rfl) ⟨_, q' + 1 + 1, ⟨Ex.mk k2 e.n e.a e.kids, by rw [Ex.sz_eq] at hes; simp only [Ex.sz]; omega, by first | rfl | (rw [Ex.cs_eq]; done)⟩, by omega, by omega, rfl⟩ ?_ ?_ ?_ ?_) <;> (simp -implicitDefEqProofs (disch := omega) only [go_sem, rdObj, true_or, or_true]; done)
    | refine hQ _ _ (ret0 [(id, some (rdObj bs (q' + 1 + 1)))] rfl rfl rfl (by rw [Tryz.results58]; simp (maxSteps := 1000000) -implicitDefEqProofs (disch := omega) only [go_sem] <;> rfl) ⟨_, q' + 1 + 1, ⟨Ex.mk e.kind k3 e.a e.kids, by rw [Ex.sz_eq] at hes; simp only [Ex.sz]; omega, by first | rfl | (rw [Ex.cs_eq]; done)⟩, by omega, by omega, rfl⟩ ?_ ?_ ?_ ?_) <;> (simp -implicitDefEqProofs (disch := omega) only [go_sem, rdObj, true_or, or_true]; done)
    | refine hQ _ _ (ret0 [(id, some (rdObj bs (q2)))] rfl rfl rfl (by rw [Tryz.results58]; simp (maxSteps := 1000000) -implicitDefEqProofs (disch := omega) only [go_sem] <;> rfl) ⟨_, q2, ⟨Ex.mk e.kind e.n a e.kids, by rw [Ex.sz_eq] at hes; simp only [Ex.sz]; omega, by first | rfl | (rw [Ex.cs_eq]; done)⟩, by omega, by omega, rfl⟩ ?_ ?_ ?_ ?_) <;> (simp -implicitDefEqProofs (disch := omega) only [go_sem, rdObj, true_or, or_true]; done)
    | refine hQ _ _ (ret0 [(id, some (rdObj bs (q' + 1)))] rfl rfl rfl (by rw [Tryz.results58]; simp (maxSteps := 1000000) -implicitDefEqProofs (disch := omega) only [go_sem] <;> rfl) ⟨_, q' + 1, ⟨e0, by omega, by first | rfl | (rw [Ex.cs_eq]; done)⟩, by omega, by omega, rfl⟩ ?_ ?_ ?_ ?_) <;> (simp -implicitDefEqProofs (disch := omega) only [go_sem, rdObj, true_or, or_true]; done)
    | refine hQ _ _ (ret0 [(id, some (rdObj bs (q' + 1)))] rfl rfl rfl (by rw [Tryz.results58]; simp (maxSteps := 1000000) -implicitDefEqProofs (disch := omega) only [go_sem] <;> rfl) ⟨_, q' + 1, ⟨e0, by (have h4 : i1 = 4 := by omega); subst h4; omega, by first | rfl | (rw [Ex.cs_eq]; done)⟩, by omega, by omega, rfl⟩ ?_ ?_ ?_ ?_) <;> (simp -implicitDefEqProofs (disch := omega) only [go_sem, rdObj, true_or, or_true]; done)
    | refine hQ _ _ (ret0 [(id, some (rdObj bs (q' + 1)))] rfl rfl rfl (by rw [Tryz.results58]; simp (maxSteps := 1000000) -implicitDefEqProofs (disch := omega) only [go_sem] <;> rfl) ⟨_, q' + 1, ⟨e, by omega, by first | rfl | (rw [Ex.cs_eq]; done)⟩, by omega, by omega, rfl⟩ ?_ ?_ ?_ ?_) <;> (simp -implicitDefEqProofs (disch := omega) only [go_sem, rdObj, true_or, or_true]; done)
  refine wpM_seq ?_
  refine wpM_regionK [2, 3, 36] rfl ?_; intro Q1 hQ1
  refine S_ ?_
  refine hQ1 _ _ ?_; clear hQ1 Q1
  refine S_ ?_
  refine wpM_condK ?_
  refine S_ ?_
  refine ⟨fun hc5 => ?_, fun hc5 => ?_⟩
  ·
    refine wpM_seq ?_
    refine wpM_regionK [2, 3, 5] rfl ?_; intro Q1 hQ1
    refine S_ ?_
    refine hQ1 _ _ ?_; clear hQ1 Q1
    refine S_ ?_
    refine wpM_block ?_
    refine wpM_loopS (fun s n s' => ∃ (i1 M1 : Nat) (e0 : Ex), i1 + n = 4 ∧ s.M ≤ M1 ∧ (e0.sz + 1 ≤ 32 * 2 ^ i1) ∧ s' = { s with env := setE 5 (.int .i64 (i1 : Nat)) s.env, l := setl (B + 1) (.cells 46 e0.cs) s.l, M := M1 }) (4) ?_ ?_
    ·
      refine .of' _ _ ⟨0, _, e, by omega, Nat.le_refl _, by simp; omega, rfl⟩ ?_ ?_ ?_ <;> (first | (simp -implicitDefEqProofs (disch := omega) only [go_sem, PV.int.injEq, Int.natCast_add, Int.natCast_one, Int.natCast_zero, true_or, le_yes]; done) | rfl | trivial | (simp -implicitDefEqProofs (disch := omega) only [go_sem, PV.int.injEq, Int.natCast_add, Int.natCast_one, Int.natCast_zero, true_or]; simp; done) | (simp; done))
    rintro n1 s' ⟨i1, M1, e0, hi1, hM1, hv1, rfl⟩
    try dsimp only at hM1
    try refine S_ ?_
    refine wpM_seq ?_
    refine wpM_seq ?_
    refine wpM_regionK [2, 3, 5, 39] rfl ?_; intro Q1 hQ1
    refine S_ ?_
    refine hQ1 _ _ ?_; clear hQ1 Q1
    refine S_ ?_
    refine wpM_condK ?_
    refine S_ ?_
    refine ⟨fun hc6 => ?_, fun hc6 => ?_⟩
    ·
      have hl1 : i1 < 4 := by omega
      have hp2 : 2 ^ i1 ≤ 8 := by
        have : i1 = 0 ∨ i1 = 1 ∨ i1 = 2 ∨ i1 = 3 := by omega
        rcases this with rfl | rfl | rfl | rfl <;> simp
      have hsz : e0.sz ≤ 1000 := by omega
      refine wpM_skip ?_
      refine S_ ?_
      refine wpM_seq ?_
      refine wpM_block ?_
      refine wpM_keep [2, 3, 5] (wpM_dr mixed 1 1 [B + 1, M1] [⟨[3], [0], [], [], false⟩, ⟨[3], [0], [], [], false⟩, ⟨[43], [], [], [], true⟩, ⟨[42, 44], [], [], [1], false⟩, ⟨[45], [], [], [], false⟩, ⟨[3, 46], [0], [0], [], false⟩] [0, 1, 2, 3, 4, 5] [[], [], [1], [0, 1, 2], [0, 1, 2, 3], [0, 1, 2, 3, 4]] 2 rfl (by simp; omega) (by decide +kernel) (by simp) ?_)
      intro O A K hO hA hK; simp only [atL_cons, atL_nil, Nat.reduceAdd, Nat.zero_add] at hO hA
      refine SO_ ?_
      refine loud_p (l3Copy_ok e0.sz e0 (Nat.le_refl _) (by omega)) Tryz.call54 rfl rfl (by first | rfl | (simp -implicitDefEqProofs (disch := omega) only [go_sem] <;> rfl)) rfl ?_
      refine SO_ ?_
      refine hK _ ?_; clear hK K hO hA O A
      refine S_ ?_
      refine wpM_frz [M1] [(46, M1, 0, 2, Ex.csL [e0, e0])] (by intro q hq; simp at hq; subst hq; simp -implicitDefEqProofs (disch := omega) only [go_sem]) (by intro q hq; simp only [List.mem_cons, List.not_mem_nil, or_false] at hq; subst hq; exact ⟨by simp, rowsOf_exc (T := 46) (l := [e0, e0]) (by rw [show [e0, e0] = [e0] ++ [e0] from rfl, ← exc_app, ← exc_one, Ex.cs_eq]; simp -implicitDefEqProofs (disch := omega) only [go_sem])⟩) ?_
      simp -implicitDefEqProofs (disch := omega) only [go_sem, rdObj]
      refine wpM_regionK [2, 3, 5] rfl ?_; intro Q1 hQ1
      refine S_ ?_
      refine hQ1 _ _ ?_; clear hQ1 Q1
      refine S_ ?_
      refine .of' _ _ ⟨n1 - 1, by omega, i1 + 1, _, Ex.mk 3 0 ⟨0, 0⟩ [e0, e0], by omega, ?_, ?_, rfl⟩ ?_ ?_ ?_
      · first | omega | (simp -implicitDefEqProofs (disch := omega) only [go_sem]; done) | (simp -implicitDefEqProofs (disch := omega) only [go_sem]; omega)
      · simp only [Ex.sz, Ex.szL, Nat.pow_succ]; omega
      all_goals (first | (simp -implicitDefEqProofs (disch := omega) only [go_sem, PV.int.injEq, Int.natCast_add, Int.natCast_one, Int.natCast_zero, true_or, le_yes]; done) | rfl | trivial | (simp -implicitDefEqProofs (disch := omega) only [go_sem, PV.int.injEq, Int.natCast_add, Int.natCast_one, Int.natCast_zero, true_or]; simp; done) | (simp; done))
    refine wpM_exit ?_
    refine S_ ?_
    refine wpM_seq ?_
    refine wpM_regionK [2] rfl ?_; intro Q1 hQ1
    refine S_ ?_
    refine hQ1 _ _ ?_; clear hQ1 Q1
    refine S_ ?_
    refine wpM_ret ?_
    try refine S_ ?_
    first
    | refine hQ _ _ (ret0 [(id, some (rdObj bs (q' + 1 + 1)))] rfl rfl rfl (by rw [Tryz.results58]; simp (maxSteps := 1000000) -implicitDefEqProofs (disch := omega) only [go_sem] <;> rfl) ⟨_, q' + 1 + 1, ⟨Ex.mk k2 e.n e.a e.kids, by rw [Ex.sz_eq] at hes; simp only [Ex.sz]; omega, by first | rfl | (rw [Ex.cs_eq]; done)⟩, by omega, by omega, rfl⟩ ?_ ?_ ?_ ?_) <;> (simp -implicitDefEqProofs (disch := omega) only [go_sem, rdObj, true_or, or_true]; done)
    | refine hQ _ _ (ret0 [(id, some (rdObj bs (q' + 1 + 1)))] rfl rfl rfl (by rw [Tryz.results58]; simp (maxSteps := 1000000) -implicitDefEqProofs (disch := omega) only [go_sem] <;> rfl) ⟨_, q' + 1 + 1, ⟨Ex.mk e.kind k3 e.a e.kids, by rw [Ex.sz_eq] at hes; simp only [Ex.sz]; omega, by first | rfl | (rw [Ex.cs_eq]; done)⟩, by omega, by omega, rfl⟩ ?_ ?_ ?_ ?_) <;> (simp -implicitDefEqProofs (disch := omega) only [go_sem, rdObj, true_or, or_true]; done)
    | refine hQ _ _ (ret0 [(id, some (rdObj bs (q2)))] rfl rfl rfl (by rw [Tryz.results58]; simp (maxSteps := 1000000) -implicitDefEqProofs (disch := omega) only [go_sem] <;> rfl) ⟨_, q2, ⟨Ex.mk e.kind e.n a e.kids, by rw [Ex.sz_eq] at hes; simp only [Ex.sz]; omega, by first | rfl | (rw [Ex.cs_eq]; done)⟩, by omega, by omega, rfl⟩ ?_ ?_ ?_ ?_) <;> (simp -implicitDefEqProofs (disch := omega) only [go_sem, rdObj, true_or, or_true]; done)
    | refine hQ _ _ (ret0 [(id, some (rdObj bs (q' + 1)))] rfl rfl rfl (by rw [Tryz.results58]; simp (maxSteps := 1000000) -implicitDefEqProofs (disch := omega) only [go_sem] <;> rfl) ⟨_, q' + 1, ⟨e0, by omega, by first | rfl | (rw [Ex.cs_eq]; done)⟩, by omega, by omega, rfl⟩ ?_ ?_ ?_ ?_) <;> (simp -implicitDefEqProofs (disch := omega) only [go_sem, rdObj, true_or, or_true]; done)
    | refine hQ _ _ (ret0 [(id, some (rdObj bs (q' + 1)))] rfl rfl rfl (by rw [Tryz.results58]; simp (maxSteps := 1000000) -implicitDefEqProofs (disch := omega) only [go_sem] <;> rfl) ⟨_, q' + 1, ⟨e0, by (have h4 : i1 = 4 := by omega); subst h4; omega, by first | rfl | (rw [Ex.cs_eq]; done)⟩, by omega, by omega, rfl⟩ ?_ ?_ ?_ ?_) <;> (simp -implicitDefEqProofs (disch := omega) only [go_sem, rdObj, true_or, or_true]; done)
    | refine hQ _ _ (ret0 [(id, some (rdObj bs (q' + 1)))] rfl rfl rfl (by rw [Tryz.results58]; simp (maxSteps := 1000000) -implicitDefEqProofs (disch := omega) only [go_sem] <;> rfl) ⟨_, q' + 1, ⟨e, by omega, by first | rfl | (rw [Ex.cs_eq]; done)⟩, by omega, by omega, rfl⟩ ?_ ?_ ?_ ?_) <;> (simp -implicitDefEqProofs (disch := omega) only [go_sem, rdObj, true_or, or_true]; done)
  refine wpM_skip ?_
  refine S_ ?_
  refine wpM_seq ?_
  refine wpM_regionK [2] rfl ?_; intro Q1 hQ1
  refine S_ ?_
  refine hQ1 _ _ ?_; clear hQ1 Q1
  refine S_ ?_
  refine wpM_ret ?_
  try refine S_ ?_
  first
  | refine hQ _ _ (ret0 [(id, some (rdObj bs (q' + 1 + 1)))] rfl rfl rfl (by rw [Tryz.results58]; simp (maxSteps := 1000000) -implicitDefEqProofs (disch := omega) only [go_sem] <;> rfl) ⟨_, q' + 1 + 1, ⟨Ex.mk k2 e.n e.a e.kids, by rw [Ex.sz_eq] at hes; simp only [Ex.sz]; omega, by first | rfl | (rw [Ex.cs_eq]; done)⟩, by omega, by omega, rfl⟩ ?_ ?_ ?_ ?_) <;> (simp -implicitDefEqProofs (disch := omega) only [go_sem, rdObj, true_or, or_true]; done)
  | refine hQ _ _ (ret0 [(id, some (rdObj bs (q' + 1 + 1)))] rfl rfl rfl (by rw [Tryz.results58]; simp (maxSteps := 1000000) -implicitDefEqProofs (disch := omega) only [go_sem] <;> rfl) ⟨_, q' + 1 + 1, ⟨Ex.mk e.kind k3 e.a e.kids, by rw [Ex.sz_eq] at hes; simp only [Ex.sz]; omega, by first | rfl | (rw [Ex.cs_eq]; done)⟩, by omega, by omega, rfl⟩ ?_ ?_ ?_ ?_) <;> (simp -implicitDefEqProofs (disch := omega) only [go_sem, rdObj, true_or, or_true]; done)
  | refine hQ _ _ (ret0 [(id, some (rdObj bs (q2)))] rfl rfl rfl (by rw [Tryz.results58]; simp (maxSteps := 1000000) -implicitDefEqProofs (disch := omega) only [go_sem] <;> rfl) ⟨_, q2, ⟨Ex.mk e.kind e.n a e.kids, by rw [Ex.sz_eq] at hes; simp only [Ex.sz]; omega, by first | rfl | (rw [Ex.cs_eq]; done)⟩, by omega, by omega, rfl⟩ ?_ ?_ ?_ ?_) <;> (simp -implicitDefEqProofs (disch := omega) only [go_sem, rdObj, true_or, or_true]; done)
  | refine hQ _ _ (ret0 [(id, some (rdObj bs (q' + 1)))] rfl rfl rfl (by rw [Tryz.results58]; simp (maxSteps := 1000000) -implicitDefEqProofs (disch := omega) only [go_sem] <;> rfl) ⟨_, q' + 1, ⟨e0, by omega, by first | rfl | (rw [Ex.cs_eq]; done)⟩, by omega, by omega, rfl⟩ ?_ ?_ ?_ ?_) <;> (simp -implicitDefEqProofs (disch := omega) only [go_sem, rdObj, true_or, or_true]; done)
  | refine hQ _ _ (ret0 [(id, some (rdObj bs (q' + 1)))] rfl rfl rfl (by rw [Tryz.results58]; simp (maxSteps := 1000000) -implicitDefEqProofs (disch := omega) only [go_sem] <;> rfl) ⟨_, q' + 1, ⟨e0, by (have h4 : i1 = 4 := by omega); subst h4; omega, by first | rfl | (rw [Ex.cs_eq]; done)⟩, by omega, by omega, rfl⟩ ?_ ?_ ?_ ?_) <;> (simp -implicitDefEqProofs (disch := omega) only [go_sem, rdObj, true_or, or_true]; done)
  | refine hQ _ _ (ret0 [(id, some (rdObj bs (q' + 1)))] rfl rfl rfl (by rw [Tryz.results58]; simp (maxSteps := 1000000) -implicitDefEqProofs (disch := omega) only [go_sem] <;> rfl) ⟨_, q' + 1, ⟨e, by omega, by first | rfl | (rw [Ex.cs_eq]; done)⟩, by omega, by omega, rfl⟩ ?_ ?_ ?_ ?_) <;> (simp -implicitDefEqProofs (disch := omega) only [go_sem, rdObj, true_or, or_true]; done)
end Go.Proofs.YtnilkkcobeaglaaGreat
namespace Go.Proofs.YtnilkkcobeaglaaGreat
open Go Sg
set_option maxRecDepth 100000
set_option linter.unusedSimpArgs false
set_option linter.unusedVariables false
set_option maxHeartbeats 4000000
theorem l8Some_ok (id : Nat) (bs : List Nat) (q : Int) (n : Nat) (hbs : Bs bs) (hq0 : 0 ≤ q) (hn : n ≤ 100) (hq : q + 101 ≤ 1000000000000) : RdF 124 [.int .i64 (n : Int)] id bs q 101 (fun v => ∃ l : List Int, l.length ≤ 101 ∧ v = .rows 3 (rowsI l)) := by
  refine callF_of' Tryz.func124 rfl Tryz.ntmps124 (by simp) ?_
  intro f0 B ns Q hB hns hQ
  have hid : id < B := hB id (by simp [hasKey, lk])
  obtain rfl : ns = [] := List.eq_nil_of_length_eq_zero hns
  refine wpM_seq ?_
  refine wpM_regionK [0, 1] rfl ?_; intro Q1 hQ1
  refine S_ ?_
  refine hQ1 _ _ ?_; clear hQ1 Q1
  refine S_ ?_
  refine wpM_seq ?_
  refine wpM_regionK [0, 1, 5] rfl ?_; intro Q1 hQ1
  refine S_ ?_
  refine hQ1 _ _ ?_; clear hQ1 Q1
  refine S_ ?_
  refine wpM_seq ?_
  refine wpM_seq ?_
  refine wpM_regionK [0, 1, 5, 6] rfl ?_; intro Q1 hQ1
  refine S_ ?_
  refine hQ1 _ _ ?_; clear hQ1 Q1
  refine S_ ?_
  refine wpM_block ?_
  refine wpM_loopS (fun s r s' => ∃ (i0 M0 y : Nat) (l : List Int) (q' : Int), i0 + r = n ∧ B ≤ y ∧ y < M0 ∧ l.length ≤ i0 ∧ q ≤ q' ∧ q' ≤ q + i0 ∧ s' = { s with env := setE 6 (.int .i64 (i0 : Nat)) (setE 5 (.sl 3 y 0 l.length) s.env), l := [(y, .cells 3 (ints l)), (id, rdObj bs q')], M := M0 }) (n) ?_ ?_
  ·
    refine .of' _ _ ⟨0, _, B, [], q, by omega, by omega, ?_, by simp, by omega, by omega, rfl⟩ ?_ ?_ ?_
    · first | omega | (simp -implicitDefEqProofs (disch := omega) only [go_sem]; done) | (simp -implicitDefEqProofs (disch := omega) only [go_sem]; omega)
    all_goals (first | (simp -implicitDefEqProofs (disch := omega) only [go_sem, PV.int.injEq, Int.natCast_add, Int.natCast_one, Int.natCast_zero, true_or, le_yes]; done) | rfl | trivial | (simp -implicitDefEqProofs (disch := omega) only [go_sem, PV.int.injEq, Int.natCast_add, Int.natCast_one, Int.natCast_zero, true_or]; simp; done) | (simp; done))
  rintro r s' ⟨i0, M0, y, l, q', hi0, hy, hyM, hll, hqa, hqb, rfl⟩
  try refine S_ ?_
  refine wpM_seq ?_
  refine wpM_seq ?_
  refine wpM_regionK [0, 1, 5, 6, 10] rfl ?_; intro Q1 hQ1
  refine S_ ?_
  refine hQ1 _ _ ?_; clear hQ1 Q1
  refine S_ ?_
  refine wpM_condK ?_
  refine S_ ?_
  refine ⟨fun hc0 => ?_, fun hc0 => ?_⟩
  ·
    refine wpM_skip ?_
    refine S_ ?_
    refine wpM_seq ?_
    refine wpM_block ?_
    refine wpM_seq ?_
    refine wpM_regionK [0, 1, 5, 6, 15] rfl ?_; intro Q1 hQ1
    refine S_ ?_
    refine call_fn (l := [(id, rdObj bs q')]) (first := []) (cap := []) (ps := [.ptr id 0, .int .i64 3]) (pick_ok id bs q' 3 hbs (by omega) (by omega) (by omega)) Tryz.call33 rfl rfl rfl T_ T_ ?_
    rintro out ⟨k1, rfl, h1, h2, h3⟩
    refine S_ ?_
    refine hQ1 _ _ ?_; clear hQ1 Q1
    refine S_ ?_
    refine wpM_condK ?_
    refine S_ ?_
    refine ⟨fun hc1 => ?_, fun hc1 => ?_⟩
    ·
      refine wpM_regionK [0, 1, 5, 6] rfl ?_; intro Q1 hQ1
      refine S_ ?_
      refine hQ1 _ _ ?_; clear hQ1 Q1
      refine S_ ?_
      refine wpM_regionK [0, 1, 5, 6] rfl ?_; intro Q1 hQ1
      refine S_ ?_
      refine hQ1 _ _ ?_; clear hQ1 Q1
      refine S_ ?_
      first
      | (refine .of' _ _ ⟨r - 1, by omega, i0 + 1, _, M0 + 1, l ++ [(i0 : Int)], q' + 1, by omega, by omega, ?_, by simp; omega, by omega, by omega, rfl⟩ ?_ ?_ ?_
         · first | omega | (simp -implicitDefEqProofs (disch := omega) only [go_sem]; done) | (simp -implicitDefEqProofs (disch := omega) only [go_sem]; omega)
         all_goals (first | (simp -implicitDefEqProofs (disch := omega) only [go_sem, PV.int.injEq, Int.natCast_add, Int.natCast_one, Int.natCast_zero, true_or, le_yes]; done) | rfl | trivial | (simp -implicitDefEqProofs (disch := omega) only [go_sem, PV.int.injEq, Int.natCast_add, Int.natCast_one, Int.natCast_zero, true_or]; simp; done) | (simp; done)))
      | (refine .of' _ _ ⟨r - 1, by omega, i0 + 1, _, y, l, q' + 1, by omega, by omega, ?_, by omega, by omega, by omega, rfl⟩ ?_ ?_ ?_
         · first | omega | (simp -implicitDefEqProofs (disch := omega) only [go_sem]; done) | (simp -implicitDefEqProofs (disch := omega) only [go_sem]; omega)
         all_goals (first | (simp -implicitDefEqProofs (disch := omega) only [go_sem, PV.int.injEq, Int.natCast_add, Int.natCast_one, Int.natCast_zero, true_or, le_yes]; done) | rfl | trivial | (simp -implicitDefEqProofs (disch := omega) only [go_sem, PV.int.injEq, Int.natCast_add, Int.natCast_one, Int.natCast_zero, true_or]; simp; done) | (simp; done)))
    refine wpM_skip ?_
    refine S_ ?_
    refine wpM_regionK [0, 1, 5, 6] rfl ?_; intro Q1 hQ1
    refine S_ ?_
    refine hQ1 _ _ ?_; clear hQ1 Q1
    refine S_ ?_
    first
    | (refine .of' _ _ ⟨r - 1, by omega, i0 + 1, _, M0 + 1, l ++ [(i0 : Int)], q' + 1, by omega, by omega, ?_, by simp; omega, by omega, by omega, rfl⟩ ?_ ?_ ?_
       · first | omega | (simp -implicitDefEqProofs (disch := omega) only [go_sem]; done) | (simp -implicitDefEqProofs (disch := omega) only [go_sem]; omega)
       all_goals (first | (simp -implicitDefEqProofs (disch := omega) only [go_sem, PV.int.injEq, Int.natCast_add, Int.natCast_one, Int.natCast_zero, true_or, le_yes]; done) | rfl | trivial | (simp -implicitDefEqProofs (disch := omega) only [go_sem, PV.int.injEq, Int.natCast_add, Int.natCast_one, Int.natCast_zero, true_or]; simp; done) | (simp; done)))
    | (refine .of' _ _ ⟨r - 1, by omega, i0 + 1, _, y, l, q' + 1, by omega, by omega, ?_, by omega, by omega, by omega, rfl⟩ ?_ ?_ ?_
       · first | omega | (simp -implicitDefEqProofs (disch := omega) only [go_sem]; done) | (simp -implicitDefEqProofs (disch := omega) only [go_sem]; omega)
       all_goals (first | (simp -implicitDefEqProofs (disch := omega) only [go_sem, PV.int.injEq, Int.natCast_add, Int.natCast_one, Int.natCast_zero, true_or, le_yes]; done) | rfl | trivial | (simp -implicitDefEqProofs (disch := omega) only [go_sem, PV.int.injEq, Int.natCast_add, Int.natCast_one, Int.natCast_zero, true_or]; simp; done) | (simp; done)))
  refine wpM_exit ?_
  refine S_ ?_
  refine wpM_seq ?_
  refine wpM_seq ?_
  refine wpM_regionK [0, 1, 5, 22] rfl ?_; intro Q1 hQ1
  refine S_ ?_
  refine hQ1 _ _ ?_; clear hQ1 Q1
  refine S_ ?_
  refine wpM_condK ?_
  refine S_ ?_
  refine ⟨fun hc2 => ?_, fun hc2 => ?_⟩
  ·
    refine wpM_seq ?_
    refine wpM_regionK [4] rfl ?_; intro Q1 hQ1
    refine S_ ?_
    refine call_fn (l := [(id, rdObj bs q')]) (first := []) (cap := []) (ps := [.ptr id 0, .int .i64 n]) (pick_ok id bs q' n hbs (by omega) (by omega) (by omega)) Tryz.call33 rfl rfl rfl T_ T_ ?_
    rintro out ⟨k1, rfl, h1, h2, h3⟩
    refine S_ ?_
    refine hQ1 _ _ ?_; clear hQ1 Q1
    refine S_ ?_
    refine wpM_frz [M0] [(3, M0, 0, 1, rowsI [k1])] (by intro q hq; simp at hq; subst hq; simp -implicitDefEqProofs (disch := omega) only [go_sem]) (by intro q hq; simp only [List.mem_cons, List.not_mem_nil, or_false] at hq; subst hq; exact ⟨by simp, rowsOf_ints' (T := 3) (l := [k1]) (by simp -implicitDefEqProofs (disch := omega) only [go_sem, ints, List.map_cons, List.map_nil]) rfl⟩) ?_
    simp -implicitDefEqProofs (disch := omega) only [go_sem, rdObj]
    refine wpM_ret ?_
    try refine S_ ?_
    first
    | refine hQ _ _ (ret0 [(id, some (rdObj bs (q' + 1)))] rfl rfl rfl (by rw [Tryz.results124]; simp (maxSteps := 1000000) -implicitDefEqProofs (disch := omega) only [go_sem] <;> rfl) ⟨_, q' + 1, ⟨[k1], by simp, rfl⟩, by omega, by omega, rfl⟩ ?_ ?_ ?_ ?_) <;> (simp -implicitDefEqProofs (disch := omega) only [go_sem, rdObj, true_or, or_true]; done)
    | refine hQ _ _ (ret0 [(id, some (rdObj bs q'))] rfl rfl rfl (by rw [Tryz.results124]; simp (maxSteps := 1000000) -implicitDefEqProofs (disch := omega) only [go_sem] <;> rfl) ⟨_, q', ⟨l, by omega, rfl⟩, by omega, by omega, rfl⟩ ?_ ?_ ?_ ?_) <;> (simp -implicitDefEqProofs (disch := omega) only [go_sem, rdObj, true_or, or_true]; done)
  refine wpM_skip ?_
  refine S_ ?_
  refine wpM_seq ?_
  refine wpM_regionK [4] rfl ?_; intro Q1 hQ1
  refine S_ ?_
  refine hQ1 _ _ ?_; clear hQ1 Q1
  refine S_ ?_
  refine wpM_frz [y] [(3, y, 0, l.length, rowsI l)] (by intro q hq; simp at hq; subst hq; simp -implicitDefEqProofs (disch := omega) only [go_sem]) (by intro q hq; simp only [List.mem_cons, List.not_mem_nil, or_false] at hq; subst hq; exact ⟨by simp, rowsOf_ints (T := 3) T_⟩) ?_
  simp -implicitDefEqProofs (disch := omega) only [go_sem, rdObj]
  refine wpM_ret ?_
  try refine S_ ?_
  first
  | refine hQ _ _ (ret0 [(id, some (rdObj bs (q' + 1)))] rfl rfl rfl (by rw [Tryz.results124]; simp (maxSteps := 1000000) -implicitDefEqProofs (disch := omega) only [go_sem] <;> rfl) ⟨_, q' + 1, ⟨[k1], by simp, rfl⟩, by omega, by omega, rfl⟩ ?_ ?_ ?_ ?_) <;> (simp -implicitDefEqProofs (disch := omega) only [go_sem, rdObj, true_or, or_true]; done)
  | refine hQ _ _ (ret0 [(id, some (rdObj bs q'))] rfl rfl rfl (by rw [Tryz.results124]; simp (maxSteps := 1000000) -implicitDefEqProofs (disch := omega) only [go_sem] <;> rfl) ⟨_, q', ⟨l, by omega, rfl⟩, by omega, by omega, rfl⟩ ?_ ?_ ?_ ?_) <;> (simp -implicitDefEqProofs (disch := omega) only [go_sem, rdObj, true_or, or_true]; done)
end Go.Proofs.YtnilkkcobeaglaaGreat
namespace Go.Proofs.YtnilkkcobeaglaaGreat
open Go Sg
set_option maxRecDepth 100000
set_option linter.unusedSimpArgs false
set_option linter.unusedVariables false
set_option maxHeartbeats 4000000
@[go_sem high] theorem rdObj_sub (θ : TypeId → Nat → Nat → Nat → Option PV) (bs : List Nat) (q : Int) : subObj θ (rdObj bs q) = rdObj bs q := by simp [rdObj, subObj, PV.subL, PV.sub]
def trc (l : List Trn) : List PV := (rowsT l).flatten
def acc (l : List GAct) : List PV := (rowsA l).flatten
@[go_sem] theorem trc_len (l : List Trn) : (trc l).length = l.length * 7 := by
  induction l with
  | nil => rfl
  | cons e l ih => simp only [trc, rowsT, List.map_cons, List.flatten_cons, List.length_append, Trn.cs, List.length_cons, List.length_nil] at ih ⊢; omega
@[go_sem] theorem acc_len (l : List GAct) : (acc l).length = l.length * 4 := by
  induction l with
  | nil => rfl
  | cons e l ih => simp only [acc, rowsA, List.map_cons, List.flatten_cons, List.length_append, GAct.cs, List.length_cons, List.length_nil] at ih ⊢; omega
@[go_sem] theorem trc_nil : trc [] = [] := rfl
@[go_sem] theorem acc_nil : acc [] = [] := rfl
theorem trc_app (l : List Trn) (e : Trn) : trc l ++ e.cs = trc (l ++ [e]) := by simp [trc, rowsT]
theorem acc_app (l : List GAct) (e : GAct) : acc l ++ e.cs = acc (l ++ [e]) := by simp [acc, rowsA]
theorem trc_one (e : Trn) : e.cs = trc [e] := by simp [trc, rowsT]
theorem acc_one (e : GAct) : e.cs = acc [e] := by simp [acc, rowsA]
@[go_sem] theorem trc_ids (p : Nat → Prop) (l : List Trn) : PV.idsL p (trc l) = True := by
  induction l with
  | nil => simp [trc, rowsT, PV.idsL]
  | cons e l ih => simp only [trc, rowsT, List.map_cons, List.flatten_cons] at ih ⊢; rw [idsL_app, ih]; simp [Trn.cs, PV.idsL, PV.ids]
@[go_sem] theorem acc_ids (p : Nat → Prop) (l : List GAct) : PV.idsL p (acc l) = True := by
  induction l with
  | nil => simp [acc, rowsA, PV.idsL]
  | cons e l ih => simp only [acc, rowsA, List.map_cons, List.flatten_cons] at ih ⊢; rw [idsL_app, ih]; simp [GAct.cs, PV.idsL, PV.ids]
@[go_sem] theorem trc_ren (p : Nat → Nat) (l : List Trn) : PV.renL p (trc l) = trc l := by
  induction l with
  | nil => simp [trc, rowsT, PV.renL]
  | cons e l ih => simp only [trc, rowsT, List.map_cons, List.flatten_cons] at ih ⊢; rw [renL_app, ih]; simp [Trn.cs, PV.renL, PV.ren]
@[go_sem] theorem acc_ren (p : Nat → Nat) (l : List GAct) : PV.renL p (acc l) = acc l := by
  induction l with
  | nil => simp [acc, rowsA, PV.renL]
  | cons e l ih => simp only [acc, rowsA, List.map_cons, List.flatten_cons] at ih ⊢; rw [renL_app, ih]; simp [GAct.cs, PV.renL, PV.ren]
@[go_sem] theorem trc_sub (θ : TypeId → Nat → Nat → Nat → Option PV) (l : List Trn) : PV.subL θ (trc l) = trc l := by
  induction l with
  | nil => simp [trc, rowsT, PV.subL]
  | cons e l ih => simp only [trc, rowsT, List.map_cons, List.flatten_cons] at ih ⊢; rw [subL_app, ih]; simp [Trn.cs, PV.subL, PV.sub]
@[go_sem] theorem acc_sub (θ : TypeId → Nat → Nat → Nat → Option PV) (l : List GAct) : PV.subL θ (acc l) = acc l := by
  induction l with
  | nil => simp [acc, rowsA, PV.subL]
  | cons e l ih => simp only [acc, rowsA, List.map_cons, List.flatten_cons] at ih ⊢; rw [subL_app, ih]; simp [GAct.cs, PV.subL, PV.sub]
theorem rowsOf_trc {f : Nat → Option AObj} {id : Nat} {T : TypeId} {l : List Trn} (h : f id = some (.cells T (trc l))) : RowsOf Tryz.prog f 48 id 0 l.length (rowsT l) := by
  refine ⟨by rw [cellsOf48]; omega, by rw [rowsT_len], ?_, T, _, h, ?_, ?_⟩
  · intro c hc
    rw [rowsT, List.mem_map] at hc
    obtain ⟨x, _, rfl⟩ := hc
    rw [cellsOf48]; exact ⟨rfl, rfl⟩
  · rw [cellsOf48, trc_len]; omega
  · rw [cellsOf48, List.drop_zero, List.take_of_length_le (by rw [trc_len]; omega)]; rfl
theorem rowsOf_acc {f : Nat → Option AObj} {id : Nat} {T : TypeId} {l : List GAct} (h : f id = some (.cells T (acc l))) : RowsOf Tryz.prog f 41 id 0 l.length (rowsA l) := by
  refine ⟨by rw [cellsOf41]; omega, by rw [rowsA_len], ?_, T, _, h, ?_, ?_⟩
  · intro c hc
    rw [rowsA, List.mem_map] at hc
    obtain ⟨x, _, rfl⟩ := hc
    rw [cellsOf41]; exact ⟨rfl, rfl⟩
  · rw [cellsOf41, acc_len]; omega
  · rw [cellsOf41, List.drop_zero, List.take_of_length_le (by rw [acc_len]; omega)]; rfl
def TSm (l : List Trn) : Prop := l.length ≤ 10 ∧ ∀ t ∈ l, t.Sm
theorem TSm.app {l : List Trn} {t : Trn} (h : TSm l) (hl : l.length < 10) (ht : t.Sm) : TSm (l ++ [t]) := ⟨by simp; omega, fun x hx => by
  rcases List.mem_append.1 hx with h1 | h1
  · exact h.2 x h1
  · rw [List.mem_singleton.1 h1]; exact ht⟩
theorem TSm.nil : TSm [] := ⟨by simp, fun x hx => by simp at hx⟩
theorem l8Chart_ok (id : Nat) (bs : List Nat) (q : Int) (hbs : Bs bs) (hq0 : 0 ≤ q) (hq : q + 2000 ≤ 1000000000000) : CallF Tryz.prog 73 [.ptr id 0] [(id, rdObj bs q)] 2 (fun ns o => ∃ x y st ts acs q', ns = [x, y] ∧ TSm ts ∧ ts.length ≤ 4 ∧ acs.length ≤ 4 ∧ q ≤ q' ∧ q' ≤ q + 2000 ∧ o = { rs := [.agg [.int .i64 st, .sl 48 x 0 ts.length, .sl 41 y 0 acs.length]], u := [(id, some (rdObj bs q'))], nw := [(x, .cells 48 (trc ts)), (y, .cells 41 (acc acs))] }) := by
  refine callF_of' Tryz.func73 rfl Tryz.ntmps73 (by simp) ?_
  intro f0 B ns Q hB hns hQ
  have hid : id < B := hB id (by simp [hasKey, lk])
  obtain ⟨x, y, rfl⟩ : ∃ x y, ns = [x, y] := by
    match ns, hns with
    | [x, y], _ => exact ⟨x, y, rfl⟩
  have b2 : eb 2 = 28 := rfl
  have s2 : es 2 = 7 := rfl
  refine wpM_seq ?_
  refine wpM_regionK [0, 2] rfl ?_; intro Q1 hQ1
  refine S_ ?_
  refine hQ1 _ _ ?_; clear hQ1 Q1
  refine S_ ?_
  refine wpM_seq ?_
  refine wpM_regionK [0, 2, 3] rfl ?_; intro Q1 hQ1
  refine S_ ?_
  refine call_fn (l := [(id, rdObj bs q)]) (first := []) (cap := []) (ps := [.ptr id 0, .int .i64 4]) (pick_ok id bs q 4 hbs (by omega) (by omega) (by omega)) Tryz.call33 rfl rfl rfl T_ T_ ?_
  rintro out ⟨k0, rfl, h01, h02, h03⟩
  refine S_ ?_
  refine hQ1 _ _ ?_; clear hQ1 Q1
  refine S_ ?_
  refine wpM_seq ?_
  refine wpM_seq ?_
  refine wpM_regionK [0, 2, 3, 4] rfl ?_; intro Q1 hQ1
  refine S_ ?_
  refine call_fn (l := [(id, rdObj bs (q + 1))]) (first := []) (cap := []) (ps := [.ptr id 0, .int .i64 5]) (pick_ok id bs (q + 1) 5 hbs (by omega) (by omega) (by omega)) Tryz.call33 rfl rfl rfl T_ T_ ?_
  rintro out ⟨n0, rfl, h11, h12, h13⟩
  refine S_ ?_
  refine hQ1 _ _ ?_; clear hQ1 Q1
  refine S_ ?_
  obtain ⟨n, rfl⟩ := Int.eq_ofNat_of_zero_le h11
  obtain ⟨sn, hsn⟩ : ∃ sn : Nat, 1 + k0 = (sn : Int) := ⟨(1 + k0).toNat, by omega⟩
  rw [hsn]
  refine wpM_nil 48 [(0, .ptr id 0), (2, .ptr B 0), (3, .ptr (B + 1) 0), (4, .int .i64 (n : Int))] [(B + 1, .cells 26 [.int .i64 (sn : Int), .sl 48 (B + 2) 0 0, .emp]), (B, .cells 26 [.int .i64 0, .emp, .emp]), (id, rdObj bs (q + 1 + 1))] T_ T_ T_ ?_
  simp -implicitDefEqProofs (disch := omega) only [go_sem]
  refine wpM_nil 41 [(0, .ptr id 0), (2, .ptr B 0), (3, .ptr (B + 1) 0), (4, .int .i64 (n : Int))] [(B + 2, .cells 48 []), (B + 1, .cells 26 [.int .i64 (sn : Int), .sl 48 (B + 2) 0 0, .sl 41 (B + 3) 0 0]), (B, .cells 26 [.int .i64 0, .emp, .emp]), (id, rdObj bs (q + 1 + 1))] T_ T_ T_ ?_
  simp -implicitDefEqProofs (disch := omega) only [go_sem]
  refine wpM_block ?_
  refine wpM_loopS (fun s r s' => ∃ (M0 y : Nat) (l : List Trn) (q' : Int), l.length + r = n ∧ (y = B + 2 ∨ B + 4 ≤ y) ∧ y < M0 ∧ B + 4 ≤ M0 ∧ TSm l ∧ q + 2 ≤ q' ∧ q' ≤ q + 2 + 240 * (l.length : Int) ∧ s' = { s with env := setE 4 (.int .i64 (r : Nat)) s.env, l := [(y, .cells 48 (trc l)), (B + 3, .cells 41 []), (B + 1, .cells 26 [.int .i64 (sn : Int), .sl 48 y 0 l.length, .sl 41 (B + 3) 0 0]), (B, .cells 26 [.int .i64 0, .emp, .emp]), (id, rdObj bs q')], M := M0 }) (n) ?_ ?_
  ·
    refine .of' _ _ ⟨B + 4, B + 2, [], q + 1 + 1, by simp, by omega, by omega, by omega, TSm.nil, by omega, by simp; omega, rfl⟩ ?_ ?_ ?_ <;> (first | (simp -implicitDefEqProofs (disch := omega) only [go_sem, PV.int.injEq, Int.natCast_add, Int.natCast_one, Int.natCast_zero, true_or, le_yes]; done) | rfl | trivial | (simp -implicitDefEqProofs (disch := omega) only [go_sem, PV.int.injEq, Int.natCast_add, Int.natCast_one, Int.natCast_zero, true_or]; simp; done) | (simp; done))
  rintro r s' ⟨M0, y', l, q', hlr, hy, hyM, hM0, hsm, hqa, hqb, rfl⟩
  try refine S_ ?_
  refine wpM_seq ?_
  refine wpM_seq ?_
  refine wpM_regionK [0, 2, 3, 4, 14] rfl ?_; intro Q1 hQ1
  refine S_ ?_
  refine hQ1 _ _ ?_; clear hQ1 Q1
  refine S_ ?_
  refine wpM_condK ?_
  refine S_ ?_
  refine ⟨fun hc0 => ?_, fun hc0 => ?_⟩
  ·
    refine wpM_skip ?_
    refine S_ ?_
    refine wpM_seq ?_
    refine wpM_block ?_
    refine wpM_seq ?_
    refine wpM_keep [0, 2, 3, 4, 5] (wpM_dr mixed 3 2 [B + 1, id, M0, M0 + 1, M0 + 2] [⟨[0], [], [], [], false⟩, ⟨[3], [], [], [], false⟩, ⟨[18], [0], [], [], false⟩, ⟨[17, 19], [1], [1], [], true⟩, ⟨[20], [], [], [2], false⟩, ⟨[0], [], [], [], false⟩, ⟨[3], [], [], [], false⟩, ⟨[23], [0], [], [], false⟩, ⟨[22, 24], [1], [1], [], true⟩, ⟨[25], [], [], [3], false⟩, ⟨[0], [], [], [], false⟩, ⟨[0], [], [], [], false⟩, ⟨[28], [1], [1], [], true⟩, ⟨[29], [], [], [], false⟩, ⟨[27, 30], [1], [1], [], true⟩, ⟨[21, 26, 31], [], [], [], false⟩, ⟨[], [], [], [4], false⟩, ⟨[5, 32], [4], [4], [], false⟩] [0, 1, 2, 5, 6, 7, 10, 11, 16, 3, 4, 8, 9, 12, 13, 14, 15, 17] [[], [], [1], [0, 1, 2], [0, 1, 2, 3], [], [], [6], [0, 1, 2, 3, 5, 6, 7], [0, 1, 2, 3, 5, 6, 7, 8], [], [], [0, 1, 2, 3, 5, 6, 7, 8, 11], [0, 1, 2, 3, 5, 6, 7, 8, 11, 12], [0, 1, 2, 3, 5, 6, 7, 8, 10, 11, 12, 13], [0, 1, 2, 3, 4, 5, 6, 7, 8, 9, 10, 11, 12, 13, 14], [], [0, 1, 2, 3, 4, 5, 6, 7, 8, 9, 10, 11, 12, 13, 14, 15, 16]] 5 rfl (by simp; omega) (by decide +kernel) (by simp) ?_)
    intro O A K hO hA hK; simp only [atL_cons, atL_nil, Nat.reduceAdd, Nat.zero_add] at hO hA
    refine SO_ ?_
    refine loud_fn (first := []) (cap := []) (ps := [.ptr id 0, .int .i64 sn]) (l := [(id, rdObj bs (q'))]) (pick_ok id bs (q') sn hbs (by omega) (by omega) (by omega)) Tryz.call33 rfl rfl F_ (subG_spec T_) rfl ?_
    rintro out ⟨k1, rfl, h21, h22, h23⟩
    refine ⟨rfl, ?_⟩
    refine SO_ ?_
    refine loud_fn (first := []) (cap := []) (ps := [.ptr id 0, .int .i64 sn]) (l := [(id, rdObj bs (q' + 1))]) (pick_ok id bs (q' + 1) sn hbs (by omega) (by omega) (by omega)) Tryz.call33 rfl rfl F_ (subG_spec T_) rfl ?_
    rintro out ⟨k2, rfl, h31, h32, h33⟩
    refine ⟨rfl, ?_⟩
    refine SO_ ?_
    refine loud_fn (first := []) (cap := []) (ps := [.ptr id 0, .int .i64 2]) (l := [(id, rdObj bs (q' + 1 + 1))]) (pick_ok id bs (q' + 1 + 1) 2 hbs (by omega) (by omega) (by omega)) Tryz.call33 rfl rfl F_ (subG_spec T_) rfl ?_
    rintro out ⟨k3, rfl, h41, h42, h43⟩
    refine ⟨rfl, ?_⟩
    refine SO_ ?_
    refine loud_fn (first := []) (cap := []) (ps := [.ptr id 0, .int .i64 (1 + k3)]) (l := [(id, rdObj bs (q' + 1 + 1 + 1))]) (l3Expr_ok id bs hbs 2 (q' + 1 + 1 + 1) (1 + k3) (by omega) (by omega) (by omega) (by omega)) Tryz.call75 rfl rfl F_ (subG_spec T_) rfl ?_
    rintro out ⟨_, q1, ⟨e, hes, rfl⟩, hqc, hqd, rfl⟩
    refine ⟨rfl, ?_⟩
    refine SO_ ?_
    refine hK _ ?_; clear hK K hO hA O A
    refine S_ ?_
    refine wpM_frz [M0, M0 + 1] [(3, M0, 0, 1, rowsI [k1]), (3, M0 + 1, 0, 1, rowsI [k2])] (by intro q hq; simp at hq; rcases hq with rfl | rfl <;> simp -implicitDefEqProofs (disch := omega) only [go_sem]) (by
      intro q hq
      simp only [List.mem_cons, List.not_mem_nil, or_false] at hq
      rcases hq with rfl | rfl
      · exact ⟨by simp, rowsOf_ints' (T := 3) (l := [k1]) (by simp -implicitDefEqProofs (disch := omega) only [go_sem, ints, List.map_cons, List.map_nil]) rfl⟩
      · exact ⟨by simp, rowsOf_ints' (T := 3) (l := [k2]) (by simp -implicitDefEqProofs (disch := omega) only [go_sem, ints, List.map_cons, List.map_nil]) rfl⟩) ?_
    simp -implicitDefEqProofs (disch := omega) only [go_sem]
    refine wpM_seq ?_
    refine wpM_seq ?_
    refine wpM_regionK [0, 2, 3, 4, 5, 35] rfl ?_; intro Q1 hQ1
    refine S_ ?_
    refine call_fn (l := [(id, rdObj bs q1)]) (first := []) (cap := []) (ps := [.ptr id 0, .int .i64 3]) (pick_ok id bs q1 3 hbs (by omega) (by omega) (by omega)) Tryz.call33 rfl rfl rfl T_ T_ ?_
    rintro out ⟨k4, rfl, h51, h52, h53⟩
    refine S_ ?_
    refine hQ1 _ _ ?_; clear hQ1 Q1
    refine S_ ?_
    refine wpM_condK ?_
    refine S_ ?_
    refine ⟨fun hc1 => ?_, fun hc1 => ?_⟩
    ·
      refine wpM_seq ?_
      refine wpM_regionK [0, 2, 3, 4, 5] rfl ?_; intro Q1 hQ1
      refine S_ ?_
      refine call_fn (l := [(id, rdObj bs (q1 + 1))]) (first := []) (cap := []) (ps := [.ptr id 0, .int .i64 (sn : Int)]) (l8Some_ok id bs (q1 + 1) sn hbs (by omega) (by omega) (by omega)) Tryz.call124 rfl rfl rfl T_ T_ ?_
      rintro out ⟨_, q3, ⟨l1, hl1, rfl⟩, hqe, hqf, rfl⟩
      refine S_ ?_
      refine hQ1 _ _ ?_; clear hQ1 Q1
      refine S_ ?_
      refine wpM_regionK [0, 2, 3, 4, 5] rfl ?_; intro Q1 hQ1
      refine S_ ?_
      refine call_fn (l := [(id, rdObj bs q3)]) (first := []) (cap := []) (ps := [.ptr id 0, .int .i64 (sn : Int)]) (l8Some_ok id bs q3 sn hbs (by omega) (by omega) (by omega)) Tryz.call124 rfl rfl rfl T_ T_ ?_
      rintro out ⟨_, q4, ⟨l2, hl2, rfl⟩, hqg, hqh, rfl⟩
      refine S_ ?_
      refine hQ1 _ _ ?_; clear hQ1 Q1
      refine S_ ?_
      refine wpM_regionK [0, 2, 3, 4] rfl ?_; intro Q1 hQ1
      refine S_ ?_
      refine hQ1 _ _ ?_; clear hQ1 Q1
      refine S_ ?_
      refine wpM_regionK [0, 2, 3, 4] rfl ?_; intro Q1 hQ1
      refine S_ ?_
      refine hQ1 _ _ ?_; clear hQ1 Q1
      refine S_ ?_
      first
      | (have e1 : trc l ++ [PV.rows 3 (rowsI l1), .rows 3 (rowsI l2), .int .i64 e.kind, .int .i64 e.n, .int .i64 e.a.kind, .int .i64 e.a.at', .rows 46 (Ex.csL e.kids)] = trc (l ++ [⟨l1, l2, e⟩]) := by rw [← trc_app]; rfl
         rw [e1, show ((r : Int) - 1) = ((r - 1 : Nat) : Int) by omega]
         refine .of' _ _ ⟨r - 1, by omega, M0 + 5, M0 + 4, l ++ [⟨l1, l2, e⟩], q4, by simp; omega, by omega, by omega, by omega, TSm.app hsm (by omega) ⟨by show l1.length ≤ _; omega, by show l2.length ≤ _; omega, by show e.sz ≤ _; omega⟩, by omega, by simp; omega, rfl⟩ ?_ ?_ ?_
         all_goals (first | (simp -implicitDefEqProofs (disch := omega) only [go_sem, PV.int.injEq, Int.natCast_add, Int.natCast_one, Int.natCast_zero, true_or, le_yes]; done) | rfl | trivial | (simp -implicitDefEqProofs (disch := omega) only [go_sem, PV.int.injEq, Int.natCast_add, Int.natCast_one, Int.natCast_zero, true_or]; simp; done) | (simp; done)))
      | (have e1 : trc l ++ [PV.rows 3 (rowsI [k1]), .rows 3 (rowsI [k2]), .int .i64 e.kind, .int .i64 e.n, .int .i64 e.a.kind, .int .i64 e.a.at', .rows 46 (Ex.csL e.kids)] = trc (l ++ [⟨[k1], [k2], e⟩]) := by rw [← trc_app]; rfl
         rw [e1, show ((r : Int) - 1) = ((r - 1 : Nat) : Int) by omega]
         refine .of' _ _ ⟨r - 1, by omega, M0 + 5, M0 + 4, l ++ [⟨[k1], [k2], e⟩], q1 + 1, by simp; omega, by omega, by omega, by omega, TSm.app hsm (by omega) ⟨by simp, by simp, by show e.sz ≤ _; omega⟩, by omega, by simp; omega, rfl⟩ ?_ ?_ ?_
         all_goals (first | (simp -implicitDefEqProofs (disch := omega) only [go_sem, PV.int.injEq, Int.natCast_add, Int.natCast_one, Int.natCast_zero, true_or, le_yes]; done) | rfl | trivial | (simp -implicitDefEqProofs (disch := omega) only [go_sem, PV.int.injEq, Int.natCast_add, Int.natCast_one, Int.natCast_zero, true_or]; simp; done) | (simp; done)))
    refine wpM_skip ?_
    refine S_ ?_
    refine wpM_regionK [0, 2, 3, 4] rfl ?_; intro Q1 hQ1
    refine S_ ?_
    refine hQ1 _ _ ?_; clear hQ1 Q1
    refine S_ ?_
    refine wpM_regionK [0, 2, 3, 4] rfl ?_; intro Q1 hQ1
    refine S_ ?_
    refine hQ1 _ _ ?_; clear hQ1 Q1
    refine S_ ?_
    first
    | (have e1 : trc l ++ [PV.rows 3 (rowsI l1), .rows 3 (rowsI l2), .int .i64 e.kind, .int .i64 e.n, .int .i64 e.a.kind, .int .i64 e.a.at', .rows 46 (Ex.csL e.kids)] = trc (l ++ [⟨l1, l2, e⟩]) := by rw [← trc_app]; rfl
       rw [e1, show ((r : Int) - 1) = ((r - 1 : Nat) : Int) by omega]
       refine .of' _ _ ⟨r - 1, by omega, M0 + 5, M0 + 4, l ++ [⟨l1, l2, e⟩], q4, by simp; omega, by omega, by omega, by omega, TSm.app hsm (by omega) ⟨by show l1.length ≤ _; omega, by show l2.length ≤ _; omega, by show e.sz ≤ _; omega⟩, by omega, by simp; omega, rfl⟩ ?_ ?_ ?_
       all_goals (first | (simp -implicitDefEqProofs (disch := omega) only [go_sem, PV.int.injEq, Int.natCast_add, Int.natCast_one, Int.natCast_zero, true_or, le_yes]; done) | rfl | trivial | (simp -implicitDefEqProofs (disch := omega) only [go_sem, PV.int.injEq, Int.natCast_add, Int.natCast_one, Int.natCast_zero, true_or]; simp; done) | (simp; done)))
    | (have e1 : trc l ++ [PV.rows 3 (rowsI [k1]), .rows 3 (rowsI [k2]), .int .i64 e.kind, .int .i64 e.n, .int .i64 e.a.kind, .int .i64 e.a.at', .rows 46 (Ex.csL e.kids)] = trc (l ++ [⟨[k1], [k2], e⟩]) := by rw [← trc_app]; rfl
       rw [e1, show ((r : Int) - 1) = ((r - 1 : Nat) : Int) by omega]
       refine .of' _ _ ⟨r - 1, by omega, M0 + 5, M0 + 4, l ++ [⟨[k1], [k2], e⟩], q1 + 1, by simp; omega, by omega, by omega, by omega, TSm.app hsm (by omega) ⟨by simp, by simp, by show e.sz ≤ _; omega⟩, by omega, by simp; omega, rfl⟩ ?_ ?_ ?_
       all_goals (first | (simp -implicitDefEqProofs (disch := omega) only [go_sem, PV.int.injEq, Int.natCast_add, Int.natCast_one, Int.natCast_zero, true_or, le_yes]; done) | rfl | trivial | (simp -implicitDefEqProofs (disch := omega) only [go_sem, PV.int.injEq, Int.natCast_add, Int.natCast_one, Int.natCast_zero, true_or]; simp; done) | (simp; done)))
  refine wpM_exit ?_
  refine S_ ?_
  refine wpM_seq ?_
  refine wpM_seq ?_
  have hr0 : r = 0 := by omega
  have hll : l.length ≤ 4 := by omega
  refine wpM_regionK [0, 2, 3, 6] rfl ?_; intro Q1 hQ1
  refine S_ ?_
  refine call_fn (l := [(id, rdObj bs q')]) (first := []) (cap := []) (ps := [.ptr id 0, .int .i64 5]) (pick_ok id bs q' 5 hbs (by omega) (by omega) (by omega)) Tryz.call33 rfl rfl rfl T_ T_ ?_
  rintro out ⟨n1, rfl, h61, h62, h63⟩
  refine S_ ?_
  refine hQ1 _ _ ?_; clear hQ1 Q1
  refine S_ ?_
  obtain ⟨n2, rfl⟩ := Int.eq_ofNat_of_zero_le h61
  obtain ⟨q2, hq2⟩ : ∃ q2, q2 = q' + 1 := ⟨_, rfl⟩
  rw [← hq2]
  refine wpM_block ?_
  refine wpM_loopS (fun s r s' => ∃ (M1 y2 : Nat) (la : List GAct) (q'' : Int), la.length + r = n2 ∧ (y2 = B + 3 ∨ M0 ≤ y2) ∧ y2 < M1 ∧ M0 ≤ M1 ∧ q2 ≤ q'' ∧ q'' ≤ q2 + 3 * (la.length : Int) ∧ s' = { s with env := setE 6 (.int .i64 (r : Nat)) s.env, l := [(y2, .cells 41 (acc la)), (y', .cells 48 (trc l)), (B + 1, .cells 26 [.int .i64 (sn : Int), .sl 48 y' 0 l.length, .sl 41 y2 0 la.length]), (B, .cells 26 [.int .i64 0, .emp, .emp]), (id, rdObj bs q'')], M := M1 }) (n2) ?_ ?_
  ·
    refine .of' _ _ ⟨M0, B + 3, [], q2, by simp, by omega, by omega, by omega, by omega, by simp, rfl⟩ ?_ ?_ ?_ <;> (first | (simp -implicitDefEqProofs (disch := omega) only [go_sem, PV.int.injEq, Int.natCast_add, Int.natCast_one, Int.natCast_zero, true_or, le_yes]; done) | rfl | trivial | (simp -implicitDefEqProofs (disch := omega) only [go_sem, PV.int.injEq, Int.natCast_add, Int.natCast_one, Int.natCast_zero, true_or]; simp; done) | (simp; done))
  rintro r1 s' ⟨M1, y2, la, q'', hlar, hy2, hy2M, hM1, hq0'', hqb'', rfl⟩
  try refine S_ ?_
  refine wpM_seq ?_
  refine wpM_seq ?_
  refine wpM_regionK [0, 2, 3, 6, 55] rfl ?_; intro Q1 hQ1
  refine S_ ?_
  refine hQ1 _ _ ?_; clear hQ1 Q1
  refine S_ ?_
  refine wpM_condK ?_
  refine S_ ?_
  refine ⟨fun hc2 => ?_, fun hc2 => ?_⟩
  ·
    refine wpM_skip ?_
    refine S_ ?_
    refine wpM_seq ?_
    refine wpM_block ?_
    refine wpM_keep [0, 2, 3, 6] (wpM_dr mixed 2 3 [B + 1, id, y2, M1, M1 + 1] [⟨[3], [], [], [], false⟩, ⟨[58], [0], [], [], false⟩, ⟨[0], [], [], [], false⟩, ⟨[60], [1], [1], [], true⟩, ⟨[61], [], [], [], false⟩, ⟨[0], [], [], [], false⟩, ⟨[3], [], [], [], false⟩, ⟨[64], [0], [], [], false⟩, ⟨[63, 65], [1], [1], [], true⟩, ⟨[0], [], [], [], false⟩, ⟨[67], [1], [1], [], true⟩, ⟨[68], [], [], [], false⟩, ⟨[62, 66, 69], [], [], [], false⟩, ⟨[70], [], [], [3], false⟩, ⟨[59, 71], [2, 3], [2], [4], false⟩, ⟨[3], [], [], [], false⟩, ⟨[72, 73], [0], [0], [], false⟩] [0, 1, 2, 5, 6, 7, 9, 3, 4, 8, 10, 11, 12, 13, 14, 15, 16] [[], [0], [], [2], [2, 3], [], [], [6], [2, 3, 5, 6, 7], [], [2, 3, 5, 6, 7, 8, 9], [2, 3, 5, 6, 7, 8, 9, 10], [2, 3, 4, 5, 6, 7, 8, 9, 10, 11], [2, 3, 4, 5, 6, 7, 8, 9, 10, 11, 12], [0, 1, 2, 3, 4, 5, 6, 7, 8, 9, 10, 11, 12, 13], [0, 1, 2, 3, 4, 5, 6, 7, 8, 9, 10, 11, 12, 13, 14], [0, 1, 2, 3, 4, 5, 6, 7, 8, 9, 10, 11, 12, 13, 14, 15]] 5 rfl (by simp; omega) (by decide +kernel) (by simp) ?_)
    intro O A K hO hA hK; simp only [atL_cons, atL_nil, Nat.reduceAdd, Nat.zero_add] at hO hA
    refine SO_ ?_
    refine loud_fn (first := []) (cap := []) (ps := [.ptr id 0, .int .i64 4]) (l := [(id, rdObj bs (q''))]) (pick_ok id bs (q'') 4 hbs (by omega) (by omega) (by omega)) Tryz.call33 rfl rfl F_ (subG_spec T_) rfl ?_
    rintro out ⟨g1, rfl, h21, h22, h23⟩
    refine ⟨rfl, ?_⟩
    refine SO_ ?_
    refine loud_fn (first := []) (cap := []) (ps := [.ptr id 0, .int .i64 sn]) (l := [(id, rdObj bs (q'' + 1))]) (pick_ok id bs (q'' + 1) sn hbs (by omega) (by omega) (by omega)) Tryz.call33 rfl rfl F_ (subG_spec T_) rfl ?_
    rintro out ⟨g2, rfl, h31, h32, h33⟩
    refine ⟨rfl, ?_⟩
    refine SO_ ?_
    refine loud_fn (first := []) (cap := []) (ps := [.ptr id 0, .int .i64 3]) (l := [(id, rdObj bs (q'' + 1 + 1))]) (pick_ok id bs (q'' + 1 + 1) 3 hbs (by omega) (by omega) (by omega)) Tryz.call33 rfl rfl F_ (subG_spec T_) rfl ?_
    rintro out ⟨g3, rfl, h41, h42, h43⟩
    refine ⟨rfl, ?_⟩
    refine SO_ ?_
    refine hK _ ?_; clear hK K hO hA O A
    refine S_ ?_
    refine wpM_regionK [0, 2, 3, 6] rfl ?_; intro Q1 hQ1
    refine S_ ?_
    refine hQ1 _ _ ?_; clear hQ1 Q1
    refine S_ ?_
    have e1 : acc la ++ [PV.int .i64 (1 + g1), .int .i64 g2, .int .i64 2, .int .i64 g3] = acc (la ++ [⟨1 + g1, g2, ⟨2, g3⟩⟩]) := by rw [← acc_app]; rfl
    rw [e1, show ((r1 : Int) - 1) = ((r1 - 1 : Nat) : Int) by omega]
    refine .of' _ _ ⟨r1 - 1, by omega, _, M1 + 1, la ++ [⟨1 + g1, g2, ⟨2, g3⟩⟩], q'' + 1 + 1 + 1, by simp; omega, by omega, ?_, ?_, by omega, by simp; omega, rfl⟩ ?_ ?_ ?_
    · first | omega | (simp -implicitDefEqProofs (disch := omega) only [go_sem]; done) | (simp -implicitDefEqProofs (disch := omega) only [go_sem]; omega)
    · first | omega | (simp -implicitDefEqProofs (disch := omega) only [go_sem]; done) | (simp -implicitDefEqProofs (disch := omega) only [go_sem]; omega)
    all_goals (first | (simp -implicitDefEqProofs (disch := omega) only [go_sem, PV.int.injEq, Int.natCast_add, Int.natCast_one, Int.natCast_zero, true_or, le_yes]; done) | rfl | trivial | (simp -implicitDefEqProofs (disch := omega) only [go_sem, PV.int.injEq, Int.natCast_add, Int.natCast_one, Int.natCast_zero, true_or]; simp; done) | (simp; done))
  refine wpM_exit ?_
  refine S_ ?_
  refine wpM_seq ?_
  have hr0' : r1 = 0 := by omega
  refine wpM_regionK [2] rfl ?_; intro Q1 hQ1
  refine S_ ?_
  refine hQ1 _ _ ?_; clear hQ1 Q1
  refine S_ ?_
  refine wpM_ret ?_
  try refine S_ ?_
  refine hQ _ _ (retK [y', y2] [(id, some (rdObj bs q''))] [(x, .cells 48 (trc l)), (y, .cells 41 (acc la))] rfl rfl rfl (by rw [Tryz.results73]; simp (maxSteps := 1000000) -implicitDefEqProofs (disch := omega) only [go_sem] <;> rfl) ?_ ⟨x, y, sn, l, la, q'', rfl, hsm, by omega, by omega, by omega, by omega, rfl⟩ ?_ ?_ ?_ ?_ ?_ ?_)
  all_goals (simp -implicitDefEqProofs (disch := omega) only [go_sem, rdObj, List.nodup_cons, List.nodup_nil, true_or, or_true, List.mem_cons, List.not_mem_nil] <;> omega)
end Go.Proofs.YtnilkkcobeaglaaGreat
namespace Go.Proofs.YtnilkkcobeaglaaGreat
open Go Sg
set_option maxRecDepth 100000
set_option linter.unusedSimpArgs false
set_option linter.unusedVariables false
set_option maxHeartbeats 4000000
theorem leL_app (c a b : List PV) : PV.leL (c ++ a) (c ++ b) = PV.leL a b := by
  induction c with
  | nil => rfl
  | cons x c ih => simp only [List.cons_append, PV.leL, ih, le_same, true_and]
theorem TSm.cht (st : Int) {ts : List Trn} {acs : List GAct} (h : TSm ts) (ha : acs.length ≤ 10) : (⟨st, ts, acs⟩ : Cht).Sm :=
  ⟨by have := h.1; show ts.length ≤ _; omega, by show acs.length ≤ _; omega, fun i hi => h.2 _ (by rw [List.getD_eq_getElem?_getD, List.getElem?_eq_getElem hi]; exact List.getElem_mem hi)⟩
theorem frzTA {r : Option Nat} {N : Nat} {c : Code} {s : MS} {Q : ExitA → MS → Prop} (x y : Nat) (ts : List Trn) (acs : List GAct) (hx : s.B ≤ x) (hy : s.B ≤ y) (h1 : s.f x = some (.cells 48 (trc ts))) (h2 : s.f y = some (.cells 41 (acc acs)))
    (h : wpM Tryz.prog r N c (s.frz [x, y] [(48, x, 0, ts.length, rowsT ts), (41, y, 0, acs.length, rowsA acs)]) Q) : wpM Tryz.prog r N c s Q := by
  refine wpM_frz [x, y] _ (by intro q hq; simp at hq; rcases hq with rfl | rfl <;> assumption) (by
      intro q hq
      simp only [List.mem_cons, List.not_mem_nil, or_false] at hq
      rcases hq with rfl | rfl
      · exact ⟨by simp, rowsOf_trc (T := 48) (l := ts) h1⟩
      · exact ⟨by simp, rowsOf_acc (T := 41) (l := acs) h2⟩) h
theorem frzI {r : Option Nat} {N : Nat} {c : Code} {s : MS} {Q : ExitA → MS → Prop} (x n : Nat) (l : List Int) (hn : l.length = n) (hx : s.B ≤ x) (h1 : s.f x = some (.cells 3 (ints l)))
    (h : wpM Tryz.prog r N c (s.frz [x] [(3, x, 0, n, rowsI l)]) Q) : wpM Tryz.prog r N c s Q := by
  refine wpM_frz [x] _ (by intro q hq; simp at hq; subst hq; assumption) (by
      intro q hq
      simp only [List.mem_cons, List.not_mem_nil, or_false] at hq
      subst hq
      exact ⟨by simp, rowsOf_ints' (T := 3) (l := l) h1 hn⟩) h
theorem l8Bent_ok (id : Nat) (bs : List Nat) (q : Int) (hbs : Bs bs) (hq0 : 0 ≤ q) (hq : q + 3000 ≤ 1000000000000) : RdF 31 [] id bs q 3000 (fun v => ∃ c : Cht, c.Sm ∧ v = .agg c.cs) := by
  refine callF_of' Tryz.func31 rfl Tryz.ntmps31 (by simp) ?_
  intro f0 B ns Q hB hns hQ
  have hid : id < B := hB id (by simp [hasKey, lk])
  obtain rfl : ns = [] := List.eq_nil_of_length_eq_zero hns
  have b0 : eb 0 = 4 := rfl
  have s0 : es 0 = 1 := rfl
  refine wpM_seq ?_
  refine wpM_regionK [0, 2] rfl ?_; intro Q1 hQ1
  refine S_ ?_
  refine hQ1 _ _ ?_; clear hQ1 Q1
  refine S_ ?_
  refine wpM_seq ?_
  refine wpM_regionK [0, 2, 3] rfl ?_; intro Q1 hQ1
  refine S_ ?_
  refine call_fn (l := [(id, rdObj bs q)]) (first := []) (cap := []) (ps := [.ptr id 0]) (l8Chart_ok id bs q hbs hq0 (by omega)) Tryz.call73 rfl rfl rfl T_ T_ ?_
  rintro out ⟨x', y', st, ts, acs, q', ⟨⟩, hsm, htl, hal, hqa, hqb, rfl⟩
  refine S_ ?_
  refine hQ1 _ _ ?_; clear hQ1 Q1
  refine S_ ?_
  refine wpM_seq ?_
  refine wpM_seq ?_
  refine wpM_regionK [0, 2, 3, 7] rfl ?_; intro Q1 hQ1
  refine S_ ?_
  refine call_fn (l := [(id, rdObj bs q')]) (first := []) (cap := []) (ps := [.ptr id 0, .int .i64 50]) (pick_ok id bs q' 50 hbs (by omega) (by omega) (by omega)) Tryz.call33 rfl rfl rfl T_ T_ ?_
  rintro out ⟨k1, rfl, h1, h2, h3⟩
  refine S_ ?_
  have hS : TSm ts := hsm
  have hA : acs.length ≤ 10 := by omega
  refine hQ1 _ _ ?_; clear hQ1 Q1
  refine S_ ?_
  refine wpM_block ?_
  refine wpM_seq ?_
  refine wpM_regionK [0, 2, 3, 7, 8] rfl ?_; intro Q1 hQ1
  refine S_ ?_
  refine hQ1 _ _ ?_; clear hQ1 Q1
  refine S_ ?_
  refine wpM_condK ?_
  refine S_ ?_
  refine ⟨fun hc0 => ?_, fun hc0 => ?_⟩
  ·
    refine wpM_regionK [2, 3] rfl ?_; intro Q1 hQ1
    refine S_ ?_
    refine call_fn (l := [(id, rdObj bs (q' + 1)), (B + 4, .cells 3 (ints [0, 6, 7]))]) (first := []) (cap := []) (ps := [.ptr id 0, .sl 3 (B + 4) 0 3]) (num_ok id (B + 4) bs (q' + 1) [0, 6, 7] 3 rfl (by omega) (by omega) (by omega) hbs (by omega) (by omega)) Tryz.call74 rfl rfl rfl T_ (by simp -implicitDefEqProofs (disch := omega) only [go_sem, ints, List.map_cons, List.map_nil]) ?_
    rintro out ⟨k2, rfl, h4⟩
    refine S_ ?_
    refine hQ1 _ _ ?_; clear hQ1 Q1
    refine S_ ?_
    refine frzTA (B + 1) (B + 2) ts acs T_ T_ T_ T_ ?_
    simp -implicitDefEqProofs (disch := omega) only [go_sem]
    refine wpM_seq ?_
    refine wpM_regionK [2] rfl ?_; intro Q1 hQ1
    refine S_ ?_
    refine hQ1 _ _ ?_; clear hQ1 Q1
    refine S_ ?_
    refine wpM_ret ?_
    try refine S_ ?_
    first
    | refine hQ _ _ (ret0 [(id, some (rdObj bs (q2)))] rfl rfl rfl (by rw [Tryz.results31]; simp (maxSteps := 1000000) -implicitDefEqProofs (disch := omega) only [go_sem] <;> rfl) ⟨_, q2, ⟨_, TSm.cht _ hS hA, rfl⟩, by omega, by omega, rfl⟩ ?_ ?_ ?_ ?_) <;> (simp -implicitDefEqProofs (disch := omega) only [go_sem, rdObj, true_or, or_true]; done)
    | refine hQ _ _ (ret0 [(id, some (rdObj bs (q' + 1 + 1)))] rfl rfl rfl (by rw [Tryz.results31]; simp (maxSteps := 1000000) -implicitDefEqProofs (disch := omega) only [go_sem] <;> rfl) ⟨_, q' + 1 + 1, ⟨_, TSm.cht _ hS hA, rfl⟩, by omega, by omega, rfl⟩ ?_ ?_ ?_ ?_) <;> (simp -implicitDefEqProofs (disch := omega) only [go_sem, rdObj, true_or, or_true]; done)
    | refine hQ _ _ (ret0 [(id, some (rdObj bs (q' + 1)))] rfl rfl rfl (by rw [Tryz.results31]; simp (maxSteps := 1000000) -implicitDefEqProofs (disch := omega) only [go_sem] <;> rfl) ⟨_, q' + 1, ⟨_, TSm.cht _ hS hA, rfl⟩, by omega, by omega, rfl⟩ ?_ ?_ ?_ ?_) <;> (simp -implicitDefEqProofs (disch := omega) only [go_sem, rdObj, true_or, or_true]; done)
  refine wpM_seq ?_
  refine wpM_regionK [0, 2, 3, 7, 14] rfl ?_; intro Q1 hQ1
  refine S_ ?_
  refine hQ1 _ _ ?_; clear hQ1 Q1
  refine S_ ?_
  refine wpM_condK ?_
  refine S_ ?_
  refine ⟨fun hc1 => ?_, fun hc1 => ?_⟩
  ·
    refine wpM_keep [2, 3] (wpM_dr mixed 4 3 [B + 3, id, B + 1, B + 4, B + 5, B + 6, B + 7] [⟨[3], [], [], [], false⟩, ⟨[16], [0], [], [], false⟩, ⟨[], [], [], [3], false⟩, ⟨[3], [], [], [], false⟩, ⟨[19], [0], [], [], false⟩, ⟨[20], [], [], [4], false⟩, ⟨[0], [], [], [], false⟩, ⟨[22], [1], [1], [], true⟩, ⟨[18, 21, 23], [], [], [], false⟩, ⟨[24], [], [], [5], false⟩, ⟨[17, 25], [2, 5], [2], [6], false⟩, ⟨[3], [], [], [], false⟩, ⟨[26, 27], [0], [0], [], false⟩] [0, 1, 2, 3, 4, 5, 6, 7, 8, 9, 10, 11, 12] [[], [0], [], [], [3], [3, 4], [], [6], [2, 3, 4, 5, 6, 7], [2, 3, 4, 5, 6, 7, 8], [0, 1, 2, 3, 4, 5, 6, 7, 8, 9], [0, 1, 2, 3, 4, 5, 6, 7, 8, 9, 10], [0, 1, 2, 3, 4, 5, 6, 7, 8, 9, 10, 11]] 7 rfl (by simp; omega) (by decide +kernel) (by simp) ?_)
    intro O A K hO hA hK; simp only [atL_cons, atL_nil, Nat.reduceAdd, Nat.zero_add] at hO hA
    refine SO_ ?_
    refine loud_fn (first := []) (cap := []) (ps := [.ptr id 0, .int .i64 1]) (l := [(id, rdObj bs (q' + 1))]) (l3Expr_ok id bs hbs 0 (q' + 1) 1 (by omega) (by omega) (by omega) (by omega)) Tryz.call75 rfl rfl F_ (subG_spec T_) rfl ?_
    rintro out ⟨_, q2, ⟨e, hes, rfl⟩, hqc, hqd, rfl⟩
    refine ⟨rfl, ?_⟩
    refine SO_ ?_
    refine hK _ ?_; clear hK K hO hA O A
    refine S_ ?_
    refine frzI (B + 4) 1 [0] rfl T_ (by simp -implicitDefEqProofs (disch := omega) only [go_sem, ints, List.map_cons, List.map_nil]) ?_
    simp -implicitDefEqProofs (disch := omega) only [go_sem, subL_app]
    refine frzI (B + 5) 1 [st] rfl T_ (by simp -implicitDefEqProofs (disch := omega) only [go_sem, ints, List.map_cons, List.map_nil]) ?_
    simp -implicitDefEqProofs (disch := omega) only [go_sem, subL_app]
    rw [show trc ts ++ [PV.rows 3 (rowsI [0]), .rows 3 (rowsI [st]), .int .i64 e.kind, .int .i64 e.n, .int .i64 e.a.kind, .int .i64 e.a.at', .rows 46 (Ex.csL e.kids)] = trc (ts ++ [⟨[0], [st], e⟩]) from by rw [← trc_app]; rfl]
    have hS : TSm (ts ++ [⟨[0], [st], e⟩]) := TSm.app hsm (by omega) ⟨by simp, by simp, by show e.sz ≤ _; omega⟩
    rw [show ts.length + 1 = (ts ++ [(⟨[0], [st], e⟩ : Trn)]).length by simp]
    refine frzTA (B + 7) (B + 2) (ts ++ [(⟨[0], [st], e⟩ : Trn)]) acs T_ T_ T_ T_ ?_
    simp -implicitDefEqProofs (disch := omega) only [go_sem]
    refine wpM_seq ?_
    refine wpM_regionK [2] rfl ?_; intro Q1 hQ1
    refine S_ ?_
    refine hQ1 _ _ ?_; clear hQ1 Q1
    refine S_ ?_
    refine wpM_ret ?_
    try refine S_ ?_
    first
    | refine hQ _ _ (ret0 [(id, some (rdObj bs (q2)))] rfl rfl rfl (by rw [Tryz.results31]; simp (maxSteps := 1000000) -implicitDefEqProofs (disch := omega) only [go_sem] <;> rfl) ⟨_, q2, ⟨_, TSm.cht _ hS hA, rfl⟩, by omega, by omega, rfl⟩ ?_ ?_ ?_ ?_) <;> (simp -implicitDefEqProofs (disch := omega) only [go_sem, rdObj, true_or, or_true]; done)
    | refine hQ _ _ (ret0 [(id, some (rdObj bs (q' + 1 + 1)))] rfl rfl rfl (by rw [Tryz.results31]; simp (maxSteps := 1000000) -implicitDefEqProofs (disch := omega) only [go_sem] <;> rfl) ⟨_, q' + 1 + 1, ⟨_, TSm.cht _ hS hA, rfl⟩, by omega, by omega, rfl⟩ ?_ ?_ ?_ ?_) <;> (simp -implicitDefEqProofs (disch := omega) only [go_sem, rdObj, true_or, or_true]; done)
    | refine hQ _ _ (ret0 [(id, some (rdObj bs (q' + 1)))] rfl rfl rfl (by rw [Tryz.results31]; simp (maxSteps := 1000000) -implicitDefEqProofs (disch := omega) only [go_sem] <;> rfl) ⟨_, q' + 1, ⟨_, TSm.cht _ hS hA, rfl⟩, by omega, by omega, rfl⟩ ?_ ?_ ?_ ?_) <;> (simp -implicitDefEqProofs (disch := omega) only [go_sem, rdObj, true_or, or_true]; done)
  refine wpM_seq ?_
  refine wpM_regionK [0, 2, 3, 7, 28] rfl ?_; intro Q1 hQ1
  refine S_ ?_
  refine hQ1 _ _ ?_; clear hQ1 Q1
  refine S_ ?_
  refine wpM_condK ?_
  refine S_ ?_
  refine ⟨fun hc2 => ?_, fun hc2 => ?_⟩
  ·
    refine wpM_keep [2, 3] (wpM_dr mixed 3 3 [B + 3, id, B + 1, B + 4, B + 5, B + 6] [⟨[3], [], [], [], false⟩, ⟨[30], [0], [], [], false⟩, ⟨[], [], [], [3], false⟩, ⟨[0], [], [], [], false⟩, ⟨[33], [1], [1], [], true⟩, ⟨[32, 34], [], [], [], false⟩, ⟨[35], [], [], [4], false⟩, ⟨[31, 36], [2, 4], [2], [5], false⟩, ⟨[3], [], [], [], false⟩, ⟨[37, 38], [0], [0], [], false⟩] [0, 1, 2, 3, 4, 5, 6, 7, 8, 9] [[], [0], [], [], [3], [2, 3, 4], [2, 3, 4, 5], [0, 1, 2, 3, 4, 5, 6], [0, 1, 2, 3, 4, 5, 6, 7], [0, 1, 2, 3, 4, 5, 6, 7, 8]] 6 rfl (by simp; omega) (by decide +kernel) (by simp) ?_)
    intro O A K hO hA hK; simp only [atL_cons, atL_nil, Nat.reduceAdd, Nat.zero_add] at hO hA
    refine SO_ ?_
    refine loud_fn (first := []) (cap := []) (ps := [.ptr id 0, .int .i64 1]) (l := [(id, rdObj bs (q' + 1))]) (l3Expr_ok id bs hbs 0 (q' + 1) 1 (by omega) (by omega) (by omega) (by omega)) Tryz.call75 rfl rfl F_ (subG_spec T_) rfl ?_
    rintro out ⟨_, q2, ⟨e, hes, rfl⟩, hqc, hqd, rfl⟩
    refine ⟨rfl, ?_⟩
    refine SO_ ?_
    refine hK _ ?_; clear hK K hO hA O A
    refine S_ ?_
    refine frzI (B + 4) 1 [0] rfl T_ (by simp -implicitDefEqProofs (disch := omega) only [go_sem, ints, List.map_cons, List.map_nil]) ?_
    simp -implicitDefEqProofs (disch := omega) only [go_sem, subL_app]
    refine wpM_le [(2, .ptr B 0), (3, .ptr (B + 3) 0)] [(B + 6, .cells 48 (trc ts ++ (⟨[], [0], e⟩ : Trn).cs)), (B + 3, .cells 26 [.int .i64 st, .sl 48 (B + 6) 0 (ts.length + 1), .sl 41 (B + 2) 0 acs.length]), (B + 2, .cells 41 (acc acs)), (B, .cells 26 [.int .i64 0, .emp, .emp]), (id, rdObj bs q2)] T_ (by simp -implicitDefEqProofs (disch := omega) only [go_sem, leL_app, Trn.cs, rowsI, List.map_nil]) T_ ?_
    rw [trc_app, show ts.length + 1 = (ts ++ [(⟨[], [0], e⟩ : Trn)]).length by simp]
    have hS : TSm (ts ++ [(⟨[], [0], e⟩ : Trn)]) := TSm.app hsm (by omega) ⟨by simp, by simp, by show e.sz ≤ _; omega⟩
    refine frzTA (B + 6) (B + 2) (ts ++ [(⟨[], [0], e⟩ : Trn)]) acs T_ T_ T_ T_ ?_
    simp -implicitDefEqProofs (disch := omega) only [go_sem]
    refine wpM_seq ?_
    refine wpM_regionK [2] rfl ?_; intro Q1 hQ1
    refine S_ ?_
    refine hQ1 _ _ ?_; clear hQ1 Q1
    refine S_ ?_
    refine wpM_ret ?_
    try refine S_ ?_
    first
    | refine hQ _ _ (ret0 [(id, some (rdObj bs (q2)))] rfl rfl rfl (by rw [Tryz.results31]; simp (maxSteps := 1000000) -implicitDefEqProofs (disch := omega) only [go_sem] <;> rfl) ⟨_, q2, ⟨_, TSm.cht _ hS hA, rfl⟩, by omega, by omega, rfl⟩ ?_ ?_ ?_ ?_) <;> (simp -implicitDefEqProofs (disch := omega) only [go_sem, rdObj, true_or, or_true]; done)
    | refine hQ _ _ (ret0 [(id, some (rdObj bs (q' + 1 + 1)))] rfl rfl rfl (by rw [Tryz.results31]; simp (maxSteps := 1000000) -implicitDefEqProofs (disch := omega) only [go_sem] <;> rfl) ⟨_, q' + 1 + 1, ⟨_, TSm.cht _ hS hA, rfl⟩, by omega, by omega, rfl⟩ ?_ ?_ ?_ ?_) <;> (simp -implicitDefEqProofs (disch := omega) only [go_sem, rdObj, true_or, or_true]; done)
    | refine hQ _ _ (ret0 [(id, some (rdObj bs (q' + 1)))] rfl rfl rfl (by rw [Tryz.results31]; simp (maxSteps := 1000000) -implicitDefEqProofs (disch := omega) only [go_sem] <;> rfl) ⟨_, q' + 1, ⟨_, TSm.cht _ hS hA, rfl⟩, by omega, by omega, rfl⟩ ?_ ?_ ?_ ?_) <;> (simp -implicitDefEqProofs (disch := omega) only [go_sem, rdObj, true_or, or_true]; done)
  refine wpM_seq ?_
  refine wpM_regionK [0, 2, 3, 7, 39] rfl ?_; intro Q1 hQ1
  refine S_ ?_
  refine hQ1 _ _ ?_; clear hQ1 Q1
  refine S_ ?_
  refine wpM_condK ?_
  refine S_ ?_
  refine ⟨fun hc3 => ?_, fun hc3 => ?_⟩
  ·
    refine wpM_keep [2, 3] (wpM_dr mixed 2 3 [B + 3, id, B + 2, B + 4, B + 5] [⟨[3], [], [], [], false⟩, ⟨[41], [0], [], [], false⟩, ⟨[0], [], [], [], false⟩, ⟨[43], [1], [1], [], true⟩, ⟨[0], [], [], [], false⟩, ⟨[45], [1], [1], [], true⟩, ⟨[0], [], [], [], false⟩, ⟨[47], [1], [1], [], true⟩, ⟨[44, 46, 48], [], [], [], false⟩, ⟨[49], [], [], [3], false⟩, ⟨[42, 50], [2, 3], [2], [4], false⟩, ⟨[3], [], [], [], false⟩, ⟨[51, 52], [0], [0], [], false⟩] [0, 1, 2, 4, 6, 3, 5, 7, 8, 9, 10, 11, 12] [[], [0], [], [2], [], [2, 3, 4], [], [2, 3, 4, 5, 6], [2, 3, 4, 5, 6, 7], [2, 3, 4, 5, 6, 7, 8], [0, 1, 2, 3, 4, 5, 6, 7, 8, 9], [0, 1, 2, 3, 4, 5, 6, 7, 8, 9, 10], [0, 1, 2, 3, 4, 5, 6, 7, 8, 9, 10, 11]] 5 rfl (by simp; omega) (by decide +kernel) (by simp) ?_)
    intro O A K hO hA hK; simp only [atL_cons, atL_nil, Nat.reduceAdd, Nat.zero_add] at hO hA
    refine SO_ ?_
    refine loud_fn (first := []) (cap := []) (ps := [.ptr id 0, .int .i64 6]) (l := [(id, rdObj bs (q' + 1))]) (pick_ok id bs (q' + 1) 6 hbs (by omega) (by omega) (by omega)) Tryz.call33 rfl rfl F_ (subG_spec T_) rfl ?_
    rintro out ⟨g1, rfl, h21, h22, h23⟩
    refine ⟨rfl, ?_⟩
    refine SO_ ?_
    refine loud_fn (first := []) (cap := []) (ps := [.ptr id 0, .int .i64 7]) (l := [(id, rdObj bs (q' + 1 + 1))]) (pick_ok id bs (q' + 1 + 1) 7 hbs (by omega) (by omega) (by omega)) Tryz.call33 rfl rfl F_ (subG_spec T_) rfl ?_
    rintro out ⟨g2, rfl, h31, h32, h33⟩
    refine ⟨rfl, ?_⟩
    refine SO_ ?_
    refine loud_fn (first := []) (cap := []) (ps := [.ptr id 0]) (l := [(id, rdObj bs (q' + 1 + 1 + 1))]) (l2AddrBent_ok id bs (q' + 1 + 1 + 1) hbs (by omega) (by omega)) Tryz.call76 rfl rfl F_ (subG_spec T_) rfl ?_
    rintro out ⟨_, q2, ⟨a, rfl⟩, hqc, hqd, rfl⟩
    refine ⟨rfl, ?_⟩
    refine SO_ ?_
    refine hK _ ?_; clear hK K hO hA O A
    refine S_ ?_
    rw [show acc acs ++ [PV.int .i64 g1, .int .i64 g2, .int .i64 a.kind, .int .i64 a.at'] = acc (acs ++ [(⟨g1, g2, a⟩ : GAct)]) from by rw [← acc_app]; rfl, show acs.length + 1 = (acs ++ [(⟨g1, g2, a⟩ : GAct)]).length by simp]
    have hA : (acs ++ [(⟨g1, g2, a⟩ : GAct)]).length ≤ 10 := by simp; omega
    refine frzTA (B + 1) (B + 5) ts (acs ++ [(⟨g1, g2, a⟩ : GAct)]) T_ T_ T_ T_ ?_
    simp -implicitDefEqProofs (disch := omega) only [go_sem]
    refine wpM_seq ?_
    refine wpM_regionK [2] rfl ?_; intro Q1 hQ1
    refine S_ ?_
    refine hQ1 _ _ ?_; clear hQ1 Q1
    refine S_ ?_
    refine wpM_ret ?_
    try refine S_ ?_
    first
    | refine hQ _ _ (ret0 [(id, some (rdObj bs (q2)))] rfl rfl rfl (by rw [Tryz.results31]; simp (maxSteps := 1000000) -implicitDefEqProofs (disch := omega) only [go_sem] <;> rfl) ⟨_, q2, ⟨_, TSm.cht _ hS hA, rfl⟩, by omega, by omega, rfl⟩ ?_ ?_ ?_ ?_) <;> (simp -implicitDefEqProofs (disch := omega) only [go_sem, rdObj, true_or, or_true]; done)
    | refine hQ _ _ (ret0 [(id, some (rdObj bs (q' + 1 + 1)))] rfl rfl rfl (by rw [Tryz.results31]; simp (maxSteps := 1000000) -implicitDefEqProofs (disch := omega) only [go_sem] <;> rfl) ⟨_, q' + 1 + 1, ⟨_, TSm.cht _ hS hA, rfl⟩, by omega, by omega, rfl⟩ ?_ ?_ ?_ ?_) <;> (simp -implicitDefEqProofs (disch := omega) only [go_sem, rdObj, true_or, or_true]; done)
    | refine hQ _ _ (ret0 [(id, some (rdObj bs (q' + 1)))] rfl rfl rfl (by rw [Tryz.results31]; simp (maxSteps := 1000000) -implicitDefEqProofs (disch := omega) only [go_sem] <;> rfl) ⟨_, q' + 1, ⟨_, TSm.cht _ hS hA, rfl⟩, by omega, by omega, rfl⟩ ?_ ?_ ?_ ?_) <;> (simp -implicitDefEqProofs (disch := omega) only [go_sem, rdObj, true_or, or_true]; done)
  refine wpM_seq ?_
  refine wpM_regionK [0, 2, 3, 53] rfl ?_; intro Q1 hQ1
  refine S_ ?_
  refine hQ1 _ _ ?_; clear hQ1 Q1
  refine S_ ?_
  refine wpM_condK ?_
  refine S_ ?_
  refine ⟨fun hc4 => ?_, fun hc4 => ?_⟩
  ·
    refine wpM_keep [2, 3] (wpM_dr mixed 4 3 [B + 3, id, B + 1, B + 4, B + 5, B + 6, B + 7] [⟨[3], [], [], [], false⟩, ⟨[55], [0], [], [], false⟩, ⟨[], [], [], [3], false⟩, ⟨[], [], [], [4], false⟩, ⟨[0], [], [], [], false⟩, ⟨[59], [1], [1], [], true⟩, ⟨[57, 58, 60], [], [], [], false⟩, ⟨[61], [], [], [5], false⟩, ⟨[56, 62], [2, 5], [2], [6], false⟩, ⟨[3], [], [], [], false⟩, ⟨[63, 64], [0], [0], [], false⟩] [0, 1, 2, 3, 4, 5, 6, 7, 8, 9, 10] [[], [0], [], [], [], [4], [2, 3, 4, 5], [2, 3, 4, 5, 6], [0, 1, 2, 3, 4, 5, 6, 7], [0, 1, 2, 3, 4, 5, 6, 7, 8], [0, 1, 2, 3, 4, 5, 6, 7, 8, 9]] 7 rfl (by simp; omega) (by decide +kernel) (by simp) ?_)
    intro O A K hO hA hK; simp only [atL_cons, atL_nil, Nat.reduceAdd, Nat.zero_add] at hO hA
    refine SO_ ?_
    refine loud_fn (first := []) (cap := []) (ps := [.ptr id 0]) (l := [(id, rdObj bs (q' + 1))]) (l3Bent_ok id bs (q' + 1) hbs (by omega) (by omega)) Tryz.call58 rfl rfl F_ (subG_spec T_) rfl ?_
    rintro out ⟨_, q2, ⟨e, hes, rfl⟩, hqc, hqd, rfl⟩
    refine ⟨rfl, ?_⟩
    refine SO_ ?_
    refine hK _ ?_; clear hK K hO hA O A
    refine S_ ?_
    refine frzI (B + 4) 1 [0] rfl T_ (by simp -implicitDefEqProofs (disch := omega) only [go_sem, ints, List.map_cons, List.map_nil]) ?_
    simp -implicitDefEqProofs (disch := omega) only [go_sem, subL_app]
    refine frzI (B + 5) 1 [0] rfl T_ (by simp -implicitDefEqProofs (disch := omega) only [go_sem, ints, List.map_cons, List.map_nil]) ?_
    simp -implicitDefEqProofs (disch := omega) only [go_sem, subL_app]
    rw [show trc ts ++ [PV.rows 3 (rowsI [0]), .rows 3 (rowsI [0]), .int .i64 e.kind, .int .i64 e.n, .int .i64 e.a.kind, .int .i64 e.a.at', .rows 46 (Ex.csL e.kids)] = trc (ts ++ [⟨[0], [0], e⟩]) from by rw [← trc_app]; rfl]
    have hS : TSm (ts ++ [⟨[0], [0], e⟩]) := TSm.app hsm (by omega) ⟨by simp, by simp, by show e.sz ≤ _; omega⟩
    rw [show ts.length + 1 = (ts ++ [(⟨[0], [0], e⟩ : Trn)]).length by simp]
    refine frzTA (B + 7) (B + 2) (ts ++ [(⟨[0], [0], e⟩ : Trn)]) acs T_ T_ T_ T_ ?_
    simp -implicitDefEqProofs (disch := omega) only [go_sem]
    refine wpM_seq ?_
    refine wpM_regionK [2] rfl ?_; intro Q1 hQ1
    refine S_ ?_
    refine hQ1 _ _ ?_; clear hQ1 Q1
    refine S_ ?_
    refine wpM_ret ?_
    try refine S_ ?_
    first
    | refine hQ _ _ (ret0 [(id, some (rdObj bs (q2)))] rfl rfl rfl (by rw [Tryz.results31]; simp (maxSteps := 1000000) -implicitDefEqProofs (disch := omega) only [go_sem] <;> rfl) ⟨_, q2, ⟨_, TSm.cht _ hS hA, rfl⟩, by omega, by omega, rfl⟩ ?_ ?_ ?_ ?_) <;> (simp -implicitDefEqProofs (disch := omega) only [go_sem, rdObj, true_or, or_true]; done)
    | refine hQ _ _ (ret0 [(id, some (rdObj bs (q' + 1 + 1)))] rfl rfl rfl (by rw [Tryz.results31]; simp (maxSteps := 1000000) -implicitDefEqProofs (disch := omega) only [go_sem] <;> rfl) ⟨_, q' + 1 + 1, ⟨_, TSm.cht _ hS hA, rfl⟩, by omega, by omega, rfl⟩ ?_ ?_ ?_ ?_) <;> (simp -implicitDefEqProofs (disch := omega) only [go_sem, rdObj, true_or, or_true]; done)
    | refine hQ _ _ (ret0 [(id, some (rdObj bs (q' + 1)))] rfl rfl rfl (by rw [Tryz.results31]; simp (maxSteps := 1000000) -implicitDefEqProofs (disch := omega) only [go_sem] <;> rfl) ⟨_, q' + 1, ⟨_, TSm.cht _ hS hA, rfl⟩, by omega, by omega, rfl⟩ ?_ ?_ ?_ ?_) <;> (simp -implicitDefEqProofs (disch := omega) only [go_sem, rdObj, true_or, or_true]; done)
  refine frzTA (B + 1) (B + 2) ts acs T_ T_ T_ T_ ?_
  simp -implicitDefEqProofs (disch := omega) only [go_sem]
  refine wpM_skip ?_
  refine S_ ?_
  refine wpM_seq ?_
  refine wpM_regionK [2] rfl ?_; intro Q1 hQ1
  refine S_ ?_
  refine hQ1 _ _ ?_; clear hQ1 Q1
  refine S_ ?_
  refine wpM_ret ?_
  try refine S_ ?_
  first
  | refine hQ _ _ (ret0 [(id, some (rdObj bs (q2)))] rfl rfl rfl (by rw [Tryz.results31]; simp (maxSteps := 1000000) -implicitDefEqProofs (disch := omega) only [go_sem] <;> rfl) ⟨_, q2, ⟨_, TSm.cht _ hS hA, rfl⟩, by omega, by omega, rfl⟩ ?_ ?_ ?_ ?_) <;> (simp -implicitDefEqProofs (disch := omega) only [go_sem, rdObj, true_or, or_true]; done)
  | refine hQ _ _ (ret0 [(id, some (rdObj bs (q' + 1 + 1)))] rfl rfl rfl (by rw [Tryz.results31]; simp (maxSteps := 1000000) -implicitDefEqProofs (disch := omega) only [go_sem] <;> rfl) ⟨_, q' + 1 + 1, ⟨_, TSm.cht _ hS hA, rfl⟩, by omega, by omega, rfl⟩ ?_ ?_ ?_ ?_) <;> (simp -implicitDefEqProofs (disch := omega) only [go_sem, rdObj, true_or, or_true]; done)
  | refine hQ _ _ (ret0 [(id, some (rdObj bs (q' + 1)))] rfl rfl rfl (by rw [Tryz.results31]; simp (maxSteps := 1000000) -implicitDefEqProofs (disch := omega) only [go_sem] <;> rfl) ⟨_, q' + 1, ⟨_, TSm.cht _ hS hA, rfl⟩, by omega, by omega, rfl⟩ ?_ ?_ ?_ ?_) <;> (simp -implicitDefEqProofs (disch := omega) only [go_sem, rdObj, true_or, or_true]; done)
end Go.Proofs.YtnilkkcobeaglaaGreat
namespace Go.Proofs.YtnilkkcobeaglaaGreat
open Go Sg
set_option maxRecDepth 100000
set_option linter.unusedSimpArgs false
set_option linter.unusedVariables false
set_option maxHeartbeats 4000000
@[go_sem] theorem flat_bls (l : List Bool) : PV.flatL (bls l) = true := by
  induction l with
  | nil => rfl
  | cons x l ih => simp only [bls, List.map_cons, PV.flatL, PV.flat, Bool.true_and] at ih ⊢; exact ih
@[go_sem] theorem flat_ints (l : List Int) : PV.flatL (ints l) = true := by
  induction l with
  | nil => rfl
  | cons x l ih => simp only [ints, List.map_cons, PV.flatL, PV.flat, Bool.true_and] at ih ⊢; exact ih
@[go_sem high] theorem sub_bls (θ : TypeId → Nat → Nat → Nat → Option PV) (l : List Bool) : PV.subL θ (bls l) = bls l := by
  induction l with
  | nil => rfl
  | cons x l ih => simp only [bls, List.map_cons, PV.subL, PV.sub] at ih ⊢; rw [ih]
@[go_sem high] theorem sub_ints (θ : TypeId → Nat → Nat → Nat → Option PV) (l : List Int) : PV.subL θ (ints l) = ints l := by
  induction l with
  | nil => rfl
  | cons x l ih => simp only [ints, List.map_cons, PV.subL, PV.sub] at ih ⊢; rw [ih]
theorem go_okO (c : Cht) (on : List Bool) (fs : List Int) (hc : c.Sm) (hon : on.length ≤ 1099511627776) (hfl : fs.length ≤ 1099511627776) (hfs : Fs c fs) (hg : ∀ i, i < c.ts.length → (c.ts.getD i default).Go on.length) :
    CallF Tryz.prog 82 [.agg c.cs, .rows 4 (rowsB on), .rows 3 (rowsI fs)] [] 1 (fun ns o => ∃ x, ns = [x] ∧ o = { rs := [.sl 4 x 0 on.length], nw := [(x, .cells 4 (bls (goes c on fs)))] }) := by
  have hts := hc.ts
  refine callF_of' Tryz.func82 rfl Tryz.ntmps82 (by simp) ?_
  intro f0 B ns Q hB hns hQ
  obtain ⟨x, rfl⟩ : ∃ x, ns = [x] := by
    match ns, hns with
    | [x], _ => exact ⟨x, rfl⟩
  refine wpM_seq ?_
  refine wpM_regionK [1, 2, 3] rfl ?_; intro Q1 hQ1
  refine S_ ?_
  refine hQ1 _ _ ?_; clear hQ1 Q1
  refine S_ ?_
  refine wpM_seq ?_
  refine wpM_regionK [2, 3, 7] rfl ?_; intro Q1 hQ1
  refine S_ ?_
  refine hQ1 _ _ ?_; clear hQ1 Q1
  refine S_ ?_
  refine wpM_seq ?_
  refine wpM_seq ?_
  refine wpM_regionK [2, 3, 7, 8] rfl ?_; intro Q1 hQ1
  refine S_ ?_
  refine hQ1 _ _ ?_; clear hQ1 Q1
  refine S_ ?_
  refine wpM_block ?_
  refine wpM_loopS (fun s n s' => ∃ (i0 M0 : Nat) , i0 + n = fs.length ∧ s.M ≤ M0 ∧ (Tr i0) ∧ s' = { s with env := setE 8 (.int .i64 (i0 : Nat)) s.env, l := setl (B + 2) (.cells 4 (bls (spread false Trn.fr c on (fs.take i0)))) s.l, M := M0 }) (fs.length) ?_ ?_
  ·
    refine .of' _ _ ⟨0, _, by omega, Nat.le_refl _, trivial, rfl⟩ ?_ ?_ ?_ <;> (first | (simp -implicitDefEqProofs (disch := omega) only [go_sem, PV.int.injEq, Int.natCast_add, Int.natCast_one, Int.natCast_zero, true_or, le_yes]; done) | rfl | trivial | (simp -implicitDefEqProofs (disch := omega) only [go_sem, PV.int.injEq, Int.natCast_add, Int.natCast_one, Int.natCast_zero, true_or]; simp; done) | (simp; done))
  rintro n0 s' ⟨i0, M0, hi0, hM0, hv0, rfl⟩
  try dsimp only at hM0
  try refine S_ ?_
  refine wpM_seq ?_
  refine wpM_seq ?_
  refine wpM_regionK [2, 3, 7, 8, 20] rfl ?_; intro Q1 hQ1
  refine S_ ?_
  refine hQ1 _ _ ?_; clear hQ1 Q1
  refine S_ ?_
  refine wpM_condK ?_
  refine S_ ?_
  refine ⟨fun hc0 => ?_, fun hc0 => ?_⟩
  ·
    have hl0 : i0 < fs.length := by omega
    have hf := hfs i0 hl0
    have hgo := hg _ (show (fs.getD i0 0).toNat < c.ts.length by omega)
    have hsm := (hc.t _ (show (fs.getD i0 0).toNat < c.ts.length by omega)).fr
    have hsl : (spread false Trn.fr c on (fs.take i0)).length = on.length := by rw [spread_len]
    generalize hF : spread false Trn.fr c on (fs.take i0) = F at *
    refine wpM_skip ?_
    refine S_ ?_
    refine wpM_seq ?_
    refine wpM_block ?_
    refine wpM_seq ?_
    refine wpM_keep [2, 3, 7, 8, 9] (wpM_dr mixed 1 1 [B, M0] [⟨[3], [], [], [], false⟩, ⟨[23], [0], [], [], false⟩, ⟨[2], [], [], [], false⟩, ⟨[8], [], [], [], false⟩, ⟨[25, 26], [], [], [], false⟩, ⟨[27], [], [], [], false⟩, ⟨[24, 28], [], [], [], false⟩, ⟨[29], [], [], [], false⟩, ⟨[], [], [], [1], false⟩, ⟨[9, 30], [1], [1], [], false⟩] [0, 1, 2, 3, 4, 5, 6, 7, 8, 9] [[], [0], [], [], [2, 3], [2, 3, 4], [0, 1, 2, 3, 4, 5], [0, 1, 2, 3, 4, 5, 6], [], [0, 1, 2, 3, 4, 5, 6, 7, 8]] 2 rfl (by simp; omega) (by decide +kernel) (by simp) ?_)
    intro O A K hO hA hK; simp only [atL_cons, atL_nil, Nat.reduceAdd, Nat.zero_add] at hO hA
    refine SO_ ?_
    refine hK _ ?_; clear hK K hO hA O A
    refine S_ ?_
    refine wpM_seq ?_
    refine wpM_regionK [2, 3, 7, 8, 9, 10] rfl ?_; intro Q1 hQ1
    refine S_ ?_
    refine hQ1 _ _ ?_; clear hQ1 Q1
    refine S_ ?_
    refine wpM_block ?_
    refine wpM_loopS (fun s n s' => ∃ (i1 M1 : Nat) , i1 + n = (c.ts.getD (fs.getD i0 0).toNat default).fr.length ∧ s.M ≤ M1 ∧ (Tr i1) ∧ s' = { s with env := setE 10 (.int .i64 (i1 : Nat)) s.env, l := setl (B + 2) (.cells 4 (bls (clr false F ((c.ts.getD (fs.getD i0 0).toNat default).fr.take i1)))) s.l, M := M1 }) ((c.ts.getD (fs.getD i0 0).toNat default).fr.length) ?_ ?_
    ·
      refine .of' _ _ ⟨0, _, by omega, Nat.le_refl _, trivial, rfl⟩ ?_ ?_ ?_ <;> (first | (simp -implicitDefEqProofs (disch := omega) only [go_sem, PV.int.injEq, Int.natCast_add, Int.natCast_one, Int.natCast_zero, true_or, le_yes]; done) | rfl | trivial | (simp -implicitDefEqProofs (disch := omega) only [go_sem, PV.int.injEq, Int.natCast_add, Int.natCast_one, Int.natCast_zero, true_or]; simp; done) | (simp; done))
    rintro n1 s' ⟨i1, M1, hi1, hM1, hv1, rfl⟩
    try dsimp only at hM1
    try refine S_ ?_
    refine wpM_seq ?_
    refine wpM_seq ?_
    refine wpM_regionK [2, 3, 7, 8, 9, 10, 35] rfl ?_; intro Q1 hQ1
    refine S_ ?_
    refine hQ1 _ _ ?_; clear hQ1 Q1
    refine S_ ?_
    refine wpM_condK ?_
    refine S_ ?_
    refine ⟨fun hc1 => ?_, fun hc1 => ?_⟩
    ·
      have hl1 : i1 < (c.ts.getD (fs.getD i0 0).toNat default).fr.length := by omega
      have hb1 := hgo.fr i1 hl1
      have hcl : (clr false F ((c.ts.getD (fs.getD i0 0).toNat default).fr.take i1)).length = on.length := by rw [clr_len]; exact hsl
      refine wpM_skip ?_
      refine S_ ?_
      refine wpM_seq ?_
      refine wpM_block ?_
      refine wpM_regionK [2, 3, 7, 8, 9, 10] rfl ?_; intro Q1 hQ1
      refine S_ ?_
      refine hQ1 _ _ ?_; clear hQ1 Q1
      refine S_ ?_
      refine wpM_regionK [2, 3, 7, 8, 9, 10] rfl ?_; intro Q1 hQ1
      refine S_ ?_
      refine hQ1 _ _ ?_; clear hQ1 Q1
      refine S_ ?_
      rw [← clr_take _ _ _ _ hl1]
      refine .of' _ _ ⟨n1 - 1, by omega, i1 + 1, _, by omega, ?_, ?_, rfl⟩ ?_ ?_ ?_
      · first | omega | (simp -implicitDefEqProofs (disch := omega) only [go_sem]; done) | (simp -implicitDefEqProofs (disch := omega) only [go_sem]; omega)
      · first | trivial | omega
      all_goals (first | (simp -implicitDefEqProofs (disch := omega) only [go_sem, PV.int.injEq, Int.natCast_add, Int.natCast_one, Int.natCast_zero, true_or, le_yes]; done) | rfl | trivial | (simp -implicitDefEqProofs (disch := omega) only [go_sem, PV.int.injEq, Int.natCast_add, Int.natCast_one, Int.natCast_zero, true_or]; simp; done) | (simp; done))
    refine wpM_exit ?_
    refine S_ ?_
    refine wpM_regionK [2, 3, 7, 8] rfl ?_; intro Q1 hQ1
    refine S_ ?_
    refine hQ1 _ _ ?_; clear hQ1 Q1
    refine S_ ?_
    have hie : i1 = (c.ts.getD (fs.getD i0 0).toNat default).fr.length := by omega
    rw [hie, List.take_of_length_le (Nat.le_refl _), ← hF, ← spread_take _ _ _ _ _ _ hl0]
    refine .of' _ _ ⟨n0 - 1, by omega, i0 + 1, _, by omega, ?_, ?_, rfl⟩ ?_ ?_ ?_
    · first | omega | (simp -implicitDefEqProofs (disch := omega) only [go_sem]; done) | (simp -implicitDefEqProofs (disch := omega) only [go_sem]; omega)
    · first | trivial | omega
    all_goals (first | (simp -implicitDefEqProofs (disch := omega) only [go_sem, PV.int.injEq, Int.natCast_add, Int.natCast_one, Int.natCast_zero, true_or, le_yes]; done) | rfl | trivial | (simp -implicitDefEqProofs (disch := omega) only [go_sem, PV.int.injEq, Int.natCast_add, Int.natCast_one, Int.natCast_zero, true_or]; simp; done) | (simp; done))
  refine wpM_exit ?_
  refine S_ ?_
  refine wpM_seq ?_
  refine wpM_seq ?_
  have hie0 : i0 = fs.length := by omega
  rw [hie0, List.take_of_length_le (Nat.le_refl _)]
  refine wpM_regionK [2, 3, 7, 11] rfl ?_; intro Q1 hQ1
  refine S_ ?_
  refine hQ1 _ _ ?_; clear hQ1 Q1
  refine S_ ?_
  refine wpM_block ?_
  refine wpM_loopS (fun s n s' => ∃ (i2 M2 : Nat) , i2 + n = fs.length ∧ s.M ≤ M2 ∧ (Tr i2) ∧ s' = { s with env := setE 11 (.int .i64 (i2 : Nat)) s.env, l := setl (B + 2) (.cells 4 (bls (spread true Trn.to' c (spread false Trn.fr c on fs) (fs.take i2)))) s.l, M := M2 }) (fs.length) ?_ ?_
  ·
    refine .of' _ _ ⟨0, _, by omega, Nat.le_refl _, trivial, rfl⟩ ?_ ?_ ?_ <;> (first | (simp -implicitDefEqProofs (disch := omega) only [go_sem, PV.int.injEq, Int.natCast_add, Int.natCast_one, Int.natCast_zero, true_or, le_yes]; done) | rfl | trivial | (simp -implicitDefEqProofs (disch := omega) only [go_sem, PV.int.injEq, Int.natCast_add, Int.natCast_one, Int.natCast_zero, true_or]; simp; done) | (simp; done))
  rintro n2 s' ⟨i2, M2, hi2, hM2, hv2, rfl⟩
  try dsimp only at hM2
  try refine S_ ?_
  refine wpM_seq ?_
  refine wpM_seq ?_
  refine wpM_regionK [2, 3, 7, 11, 48] rfl ?_; intro Q1 hQ1
  refine S_ ?_
  refine hQ1 _ _ ?_; clear hQ1 Q1
  refine S_ ?_
  refine wpM_condK ?_
  refine S_ ?_
  refine ⟨fun hc2 => ?_, fun hc2 => ?_⟩
  ·
    have hl2 : i2 < fs.length := by omega
    have hf := hfs i2 hl2
    have hgo := hg _ (show (fs.getD i2 0).toNat < c.ts.length by omega)
    have hsm := (hc.t _ (show (fs.getD i2 0).toNat < c.ts.length by omega)).to'
    have hsl : (spread true Trn.to' c (spread false Trn.fr c on fs) (fs.take i2)).length = on.length := by rw [spread_len, spread_len]
    generalize hF : spread true Trn.to' c (spread false Trn.fr c on fs) (fs.take i2) = F at *
    refine wpM_skip ?_
    refine S_ ?_
    refine wpM_seq ?_
    refine wpM_block ?_
    refine wpM_seq ?_
    refine wpM_keep [2, 3, 7, 11, 12] (wpM_dr mixed 1 1 [B, M2] [⟨[3], [], [], [], false⟩, ⟨[51], [0], [], [], false⟩, ⟨[2], [], [], [], false⟩, ⟨[11], [], [], [], false⟩, ⟨[53, 54], [], [], [], false⟩, ⟨[55], [], [], [], false⟩, ⟨[52, 56], [], [], [], false⟩, ⟨[57], [], [], [], false⟩, ⟨[], [], [], [1], false⟩, ⟨[12, 58], [1], [1], [], false⟩] [0, 1, 2, 3, 4, 5, 6, 7, 8, 9] [[], [0], [], [], [2, 3], [2, 3, 4], [0, 1, 2, 3, 4, 5], [0, 1, 2, 3, 4, 5, 6], [], [0, 1, 2, 3, 4, 5, 6, 7, 8]] 2 rfl (by simp; omega) (by decide +kernel) (by simp) ?_)
    intro O A K hO hA hK; simp only [atL_cons, atL_nil, Nat.reduceAdd, Nat.zero_add] at hO hA
    refine SO_ ?_
    refine hK _ ?_; clear hK K hO hA O A
    refine S_ ?_
    refine wpM_seq ?_
    refine wpM_regionK [2, 3, 7, 11, 12, 13] rfl ?_; intro Q1 hQ1
    refine S_ ?_
    refine hQ1 _ _ ?_; clear hQ1 Q1
    refine S_ ?_
    refine wpM_block ?_
    refine wpM_loopS (fun s n s' => ∃ (i3 M3 : Nat) , i3 + n = (c.ts.getD (fs.getD i2 0).toNat default).to'.length ∧ s.M ≤ M3 ∧ (Tr i3) ∧ s' = { s with env := setE 13 (.int .i64 (i3 : Nat)) s.env, l := setl (B + 2) (.cells 4 (bls (clr true F ((c.ts.getD (fs.getD i2 0).toNat default).to'.take i3)))) s.l, M := M3 }) ((c.ts.getD (fs.getD i2 0).toNat default).to'.length) ?_ ?_
    ·
      refine .of' _ _ ⟨0, _, by omega, Nat.le_refl _, trivial, rfl⟩ ?_ ?_ ?_ <;> (first | (simp -implicitDefEqProofs (disch := omega) only [go_sem, PV.int.injEq, Int.natCast_add, Int.natCast_one, Int.natCast_zero, true_or, le_yes]; done) | rfl | trivial | (simp -implicitDefEqProofs (disch := omega) only [go_sem, PV.int.injEq, Int.natCast_add, Int.natCast_one, Int.natCast_zero, true_or]; simp; done) | (simp; done))
    rintro n3 s' ⟨i3, M3, hi3, hM3, hv3, rfl⟩
    try dsimp only at hM3
    try refine S_ ?_
    refine wpM_seq ?_
    refine wpM_seq ?_
    refine wpM_regionK [2, 3, 7, 11, 12, 13, 63] rfl ?_; intro Q1 hQ1
    refine S_ ?_
    refine hQ1 _ _ ?_; clear hQ1 Q1
    refine S_ ?_
    refine wpM_condK ?_
    refine S_ ?_
    refine ⟨fun hc3 => ?_, fun hc3 => ?_⟩
    ·
      have hl3 : i3 < (c.ts.getD (fs.getD i2 0).toNat default).to'.length := by omega
      have hb1 := hgo.to' i3 hl3
      have hcl : (clr true F ((c.ts.getD (fs.getD i2 0).toNat default).to'.take i3)).length = on.length := by rw [clr_len]; exact hsl
      refine wpM_skip ?_
      refine S_ ?_
      refine wpM_seq ?_
      refine wpM_block ?_
      refine wpM_regionK [2, 3, 7, 11, 12, 13] rfl ?_; intro Q1 hQ1
      refine S_ ?_
      refine hQ1 _ _ ?_; clear hQ1 Q1
      refine S_ ?_
      refine wpM_regionK [2, 3, 7, 11, 12, 13] rfl ?_; intro Q1 hQ1
      refine S_ ?_
      refine hQ1 _ _ ?_; clear hQ1 Q1
      refine S_ ?_
      rw [← clr_take _ _ _ _ hl3]
      refine .of' _ _ ⟨n3 - 1, by omega, i3 + 1, _, by omega, ?_, ?_, rfl⟩ ?_ ?_ ?_
      · first | omega | (simp -implicitDefEqProofs (disch := omega) only [go_sem]; done) | (simp -implicitDefEqProofs (disch := omega) only [go_sem]; omega)
      · first | trivial | omega
      all_goals (first | (simp -implicitDefEqProofs (disch := omega) only [go_sem, PV.int.injEq, Int.natCast_add, Int.natCast_one, Int.natCast_zero, true_or, le_yes]; done) | rfl | trivial | (simp -implicitDefEqProofs (disch := omega) only [go_sem, PV.int.injEq, Int.natCast_add, Int.natCast_one, Int.natCast_zero, true_or]; simp; done) | (simp; done))
    refine wpM_exit ?_
    refine S_ ?_
    refine wpM_regionK [2, 3, 7, 11] rfl ?_; intro Q1 hQ1
    refine S_ ?_
    refine hQ1 _ _ ?_; clear hQ1 Q1
    refine S_ ?_
    have hie : i3 = (c.ts.getD (fs.getD i2 0).toNat default).to'.length := by omega
    rw [hie, List.take_of_length_le (Nat.le_refl _), ← hF, ← spread_take _ _ _ _ _ _ hl2]
    refine .of' _ _ ⟨n2 - 1, by omega, i2 + 1, _, by omega, ?_, ?_, rfl⟩ ?_ ?_ ?_
    · first | omega | (simp -implicitDefEqProofs (disch := omega) only [go_sem]; done) | (simp -implicitDefEqProofs (disch := omega) only [go_sem]; omega)
    · first | trivial | omega
    all_goals (first | (simp -implicitDefEqProofs (disch := omega) only [go_sem, PV.int.injEq, Int.natCast_add, Int.natCast_one, Int.natCast_zero, true_or, le_yes]; done) | rfl | trivial | (simp -implicitDefEqProofs (disch := omega) only [go_sem, PV.int.injEq, Int.natCast_add, Int.natCast_one, Int.natCast_zero, true_or]; simp; done) | (simp; done))
  refine wpM_exit ?_
  refine S_ ?_
  refine wpM_seq ?_
  have hie : i2 = fs.length := by omega
  rw [hie, List.take_of_length_le (Nat.le_refl _)]
  refine wpM_regionK [6] rfl ?_; intro Q1 hQ1
  refine S_ ?_
  refine hQ1 _ _ ?_; clear hQ1 Q1
  refine S_ ?_
  refine wpM_ret ?_
  try refine S_ ?_
  refine hQ _ _ (retK [B + 2] [] [(x, .cells 4 (bls (goes c on fs)))] rfl rfl rfl (by rw [Tryz.results82]; simp (maxSteps := 1000000) -implicitDefEqProofs (disch := omega) only [go_sem] <;> rfl) ?_ ⟨x, rfl, rfl⟩ ?_ ?_ ?_ ?_ ?_ ?_)
  all_goals (first | (simp -implicitDefEqProofs (disch := omega) only [go_sem, goes, List.nodup_cons, List.nodup_nil, true_or, or_true, List.mem_cons, List.not_mem_nil]; done) | (simp -implicitDefEqProofs (disch := omega) only [go_sem, goes, List.nodup_cons, List.nodup_nil, true_or, or_true, List.mem_cons, List.not_mem_nil]; omega))
theorem kept_okO (c : Cht) (kp on : List Bool) (hc : c.Sm) (hkp : kp.length = 6) (hon : on.length ≤ 1099511627776) (ha : ∀ i, i < c.as'.length → (c.as'.getD i default).In on.length) :
    CallF Tryz.prog 83 [.agg c.cs, .rows 4 (rowsB kp), .rows 4 (rowsB on)] [] 1 (fun ns o => ∃ x, ns = [x] ∧ o = { rs := [.sl 4 x 0 6], nw := [(x, .cells 4 (bls (keptM c kp on)))] }) := by
  have has := hc.as'
  refine callF_of' Tryz.func83 rfl Tryz.ntmps83 (by simp) ?_
  intro f0 B ns Q hB hns hQ
  obtain ⟨x, rfl⟩ : ∃ x, ns = [x] := by
    match ns, hns with
    | [x], _ => exact ⟨x, rfl⟩
  refine wpM_seq ?_
  refine wpM_regionK [1, 2, 3] rfl ?_; intro Q1 hQ1
  refine S_ ?_
  refine hQ1 _ _ ?_; clear hQ1 Q1
  refine S_ ?_
  refine wpM_seq ?_
  refine wpM_regionK [2, 3, 7] rfl ?_; intro Q1 hQ1
  refine S_ ?_
  refine hQ1 _ _ ?_; clear hQ1 Q1
  refine S_ ?_
  refine wpM_seq ?_
  refine wpM_seq ?_
  refine wpM_regionK [2, 3, 7, 8] rfl ?_; intro Q1 hQ1
  refine S_ ?_
  refine hQ1 _ _ ?_; clear hQ1 Q1
  refine S_ ?_
  refine wpM_block ?_
  refine wpM_loopS (fun s n s' => ∃ (i0 M0 : Nat) , i0 + n = c.as'.length ∧ s.M ≤ M0 ∧ (Tr i0) ∧ s' = { s with env := setE 8 (.int .i64 (i0 : Nat)) s.env, l := setl (B + 2) (.cells 4 (bls (kset true 2 on kp (c.as'.take i0)))) s.l, M := M0 }) (c.as'.length) ?_ ?_
  ·
    refine .of' _ _ ⟨0, _, by omega, Nat.le_refl _, trivial, rfl⟩ ?_ ?_ ?_ <;> (first | (simp -implicitDefEqProofs (disch := omega) only [go_sem, PV.int.injEq, Int.natCast_add, Int.natCast_one, Int.natCast_zero, true_or, le_yes]; done) | rfl | trivial | (simp -implicitDefEqProofs (disch := omega) only [go_sem, PV.int.injEq, Int.natCast_add, Int.natCast_one, Int.natCast_zero, true_or]; simp; done) | (simp; done))
  rintro n0 s' ⟨i0, M0, hi0, hM0, hv0, rfl⟩
  try dsimp only at hM0
  try refine S_ ?_
  refine wpM_seq ?_
  refine wpM_seq ?_
  refine wpM_regionK [2, 3, 7, 8, 17] rfl ?_; intro Q1 hQ1
  refine S_ ?_
  refine hQ1 _ _ ?_; clear hQ1 Q1
  refine S_ ?_
  refine wpM_condK ?_
  refine S_ ?_
  refine ⟨fun hc0 => ?_, fun hc0 => ?_⟩
  ·
    have hl0 : i0 < c.as'.length := by omega
    have hin : (c.as'.getD i0 default).In on.length := ha i0 hl0
    unfold GAct.In at hin
    have hkl : (kset true 2 on kp (c.as'.take i0)).length = 6 := by rw [kset_len, hkp]
    have hkt := kset_take true 2 on kp c.as' i0 hl0
    refine wpM_skip ?_
    refine S_ ?_
    refine wpM_seq ?_
    refine wpM_block ?_
    refine wpM_seq ?_
    refine wpM_regionK [2, 3, 7, 8, 37] rfl ?_; intro Q1 hQ1
    refine SD_ ?_
    refine hQ1 _ _ ?_; clear hQ1 Q1
    refine S_ ?_
    refine wpM_condK ?_
    refine S_ ?_
    refine ⟨fun hc1 => ?_, fun hc1 => ?_⟩
    ·
      refine wpM_regionK [2, 3, 7, 8] rfl ?_; intro Q1 hQ1
      refine S_ ?_
      refine hQ1 _ _ ?_; clear hQ1 Q1
      refine S_ ?_
      refine wpM_regionK [2, 3, 7, 8] rfl ?_; intro Q1 hQ1
      refine S_ ?_
      refine hQ1 _ _ ?_; clear hQ1 Q1
      refine S_ ?_
      first | rw [if_pos hc1] at hkt | rw [if_neg (by rw [hc1]; simp)] at hkt
      rw [← hkt]
      refine .of' _ _ ⟨n0 - 1, by omega, i0 + 1, _, by omega, ?_, ?_, rfl⟩ ?_ ?_ ?_
      · first | omega | (simp -implicitDefEqProofs (disch := omega) only [go_sem]; done) | (simp -implicitDefEqProofs (disch := omega) only [go_sem]; omega)
      · first | trivial | omega
      all_goals (first | (simp -implicitDefEqProofs (disch := omega) only [go_sem, PV.int.injEq, Int.natCast_add, Int.natCast_one, Int.natCast_zero, true_or, le_yes]; done) | rfl | trivial | (simp -implicitDefEqProofs (disch := omega) only [go_sem, PV.int.injEq, Int.natCast_add, Int.natCast_one, Int.natCast_zero, true_or]; simp; done) | (simp; done))
    refine wpM_skip ?_
    refine S_ ?_
    refine wpM_regionK [2, 3, 7, 8] rfl ?_; intro Q1 hQ1
    refine S_ ?_
    refine hQ1 _ _ ?_; clear hQ1 Q1
    refine S_ ?_
    first | rw [if_pos hc1] at hkt | rw [if_neg (by rw [hc1]; simp)] at hkt
    rw [← hkt]
    refine .of' _ _ ⟨n0 - 1, by omega, i0 + 1, _, by omega, ?_, ?_, rfl⟩ ?_ ?_ ?_
    · first | omega | (simp -implicitDefEqProofs (disch := omega) only [go_sem]; done) | (simp -implicitDefEqProofs (disch := omega) only [go_sem]; omega)
    · first | trivial | omega
    all_goals (first | (simp -implicitDefEqProofs (disch := omega) only [go_sem, PV.int.injEq, Int.natCast_add, Int.natCast_one, Int.natCast_zero, true_or, le_yes]; done) | rfl | trivial | (simp -implicitDefEqProofs (disch := omega) only [go_sem, PV.int.injEq, Int.natCast_add, Int.natCast_one, Int.natCast_zero, true_or]; simp; done) | (simp; done))
  refine wpM_exit ?_
  refine S_ ?_
  refine wpM_seq ?_
  refine wpM_seq ?_
  have hie0 : i0 = c.as'.length := by omega
  rw [hie0, List.take_of_length_le (Nat.le_refl _)]
  refine wpM_regionK [2, 3, 7, 9] rfl ?_; intro Q1 hQ1
  refine S_ ?_
  refine hQ1 _ _ ?_; clear hQ1 Q1
  refine S_ ?_
  refine wpM_block ?_
  refine wpM_loopS (fun s n s' => ∃ (i1 M1 : Nat) , i1 + n = c.as'.length ∧ s.M ≤ M1 ∧ (Tr i1) ∧ s' = { s with env := setE 9 (.int .i64 (i1 : Nat)) s.env, l := setl (B + 2) (.cells 4 (bls (kset false 3 on (kset true 2 on kp c.as') (c.as'.take i1)))) s.l, M := M1 }) (c.as'.length) ?_ ?_
  ·
    refine .of' _ _ ⟨0, _, by omega, Nat.le_refl _, trivial, rfl⟩ ?_ ?_ ?_ <;> (first | (simp -implicitDefEqProofs (disch := omega) only [go_sem, PV.int.injEq, Int.natCast_add, Int.natCast_one, Int.natCast_zero, true_or, le_yes]; done) | rfl | trivial | (simp -implicitDefEqProofs (disch := omega) only [go_sem, PV.int.injEq, Int.natCast_add, Int.natCast_one, Int.natCast_zero, true_or]; simp; done) | (simp; done))
  rintro n1 s' ⟨i1, M1, hi1, hM1, hv1, rfl⟩
  try dsimp only at hM1
  try refine S_ ?_
  refine wpM_seq ?_
  refine wpM_seq ?_
  refine wpM_regionK [2, 3, 7, 9, 51] rfl ?_; intro Q1 hQ1
  refine S_ ?_
  refine hQ1 _ _ ?_; clear hQ1 Q1
  refine S_ ?_
  refine wpM_condK ?_
  refine S_ ?_
  refine ⟨fun hc2 => ?_, fun hc2 => ?_⟩
  ·
    have hl1 : i1 < c.as'.length := by omega
    have hin : (c.as'.getD i1 default).In on.length := ha i1 hl1
    unfold GAct.In at hin
    have hkl : (kset false 3 on (kset true 2 on kp c.as') (c.as'.take i1)).length = 6 := by rw [kset_len, kset_len, hkp]
    have hkt := kset_take false 3 on (kset true 2 on kp c.as') c.as' i1 hl1
    refine wpM_skip ?_
    refine S_ ?_
    refine wpM_seq ?_
    refine wpM_block ?_
    refine wpM_seq ?_
    refine wpM_regionK [2, 3, 7, 9, 71] rfl ?_; intro Q1 hQ1
    refine SD_ ?_
    refine hQ1 _ _ ?_; clear hQ1 Q1
    refine S_ ?_
    refine wpM_condK ?_
    refine S_ ?_
    refine ⟨fun hc3 => ?_, fun hc3 => ?_⟩
    ·
      refine wpM_regionK [2, 3, 7, 9] rfl ?_; intro Q1 hQ1
      refine S_ ?_
      refine hQ1 _ _ ?_; clear hQ1 Q1
      refine S_ ?_
      refine wpM_regionK [2, 3, 7, 9] rfl ?_; intro Q1 hQ1
      refine S_ ?_
      refine hQ1 _ _ ?_; clear hQ1 Q1
      refine S_ ?_
      first | rw [if_pos hc3] at hkt | rw [if_neg (by rw [hc3]; simp)] at hkt
      rw [← hkt]
      refine .of' _ _ ⟨n1 - 1, by omega, i1 + 1, _, by omega, ?_, ?_, rfl⟩ ?_ ?_ ?_
      · first | omega | (simp -implicitDefEqProofs (disch := omega) only [go_sem]; done) | (simp -implicitDefEqProofs (disch := omega) only [go_sem]; omega)
      · first | trivial | omega
      all_goals (first | (simp -implicitDefEqProofs (disch := omega) only [go_sem, PV.int.injEq, Int.natCast_add, Int.natCast_one, Int.natCast_zero, true_or, le_yes]; done) | rfl | trivial | (simp -implicitDefEqProofs (disch := omega) only [go_sem, PV.int.injEq, Int.natCast_add, Int.natCast_one, Int.natCast_zero, true_or]; simp; done) | (simp; done))
    refine wpM_skip ?_
    refine S_ ?_
    refine wpM_regionK [2, 3, 7, 9] rfl ?_; intro Q1 hQ1
    refine S_ ?_
    refine hQ1 _ _ ?_; clear hQ1 Q1
    refine S_ ?_
    first | rw [if_pos hc3] at hkt | rw [if_neg (by rw [hc3]; simp)] at hkt
    rw [← hkt]
    refine .of' _ _ ⟨n1 - 1, by omega, i1 + 1, _, by omega, ?_, ?_, rfl⟩ ?_ ?_ ?_
    · first | omega | (simp -implicitDefEqProofs (disch := omega) only [go_sem]; done) | (simp -implicitDefEqProofs (disch := omega) only [go_sem]; omega)
    · first | trivial | omega
    all_goals (first | (simp -implicitDefEqProofs (disch := omega) only [go_sem, PV.int.injEq, Int.natCast_add, Int.natCast_one, Int.natCast_zero, true_or, le_yes]; done) | rfl | trivial | (simp -implicitDefEqProofs (disch := omega) only [go_sem, PV.int.injEq, Int.natCast_add, Int.natCast_one, Int.natCast_zero, true_or]; simp; done) | (simp; done))
  refine wpM_exit ?_
  refine S_ ?_
  refine wpM_seq ?_
  have hie : i1 = c.as'.length := by omega
  rw [hie, List.take_of_length_le (Nat.le_refl _)]
  refine wpM_regionK [6] rfl ?_; intro Q1 hQ1
  refine S_ ?_
  refine hQ1 _ _ ?_; clear hQ1 Q1
  refine S_ ?_
  refine wpM_ret ?_
  try refine S_ ?_
  refine hQ _ _ (retK [B + 2] [] [(x, .cells 4 (bls (keptM c kp on)))] rfl rfl rfl (by rw [Tryz.results83]; simp (maxSteps := 1000000) -implicitDefEqProofs (disch := omega) only [go_sem] <;> rfl) ?_ ⟨x, rfl, rfl⟩ ?_ ?_ ?_ ?_ ?_ ?_)
  all_goals (first | (simp -implicitDefEqProofs (disch := omega) only [go_sem, keptM, hkp, List.nodup_cons, List.nodup_nil, true_or, or_true, List.mem_cons, List.not_mem_nil]; done) | (simp -implicitDefEqProofs (disch := omega) only [go_sem, keptM, hkp, List.nodup_cons, List.nodup_nil, true_or, or_true, List.mem_cons, List.not_mem_nil]; omega))
theorem kept_okB (c : Cht) (kp on : List Bool) (id : Nat) (hc : c.Sm) (hkp : kp.length = 6) (hon : on.length ≤ 1099511627776) (ha : ∀ i, i < c.as'.length → (c.as'.getD i default).In on.length) :
    CallF Tryz.prog 83 [.agg c.cs, .rows 4 (rowsB kp), .sl 4 id 0 on.length] [(id, .cells 4 (bls on))] 1 (fun ns o => ∃ x, ns = [x] ∧ o = { rs := [.sl 4 x 0 6], nw := [(x, .cells 4 (bls (keptM c kp on)))] }) := by
  refine CallF.borrowN [(4, id, 0, on.length, rowsB on)] ?_ ?_ ?_
  · rintro ns out _ ⟨x, rfl, rfl⟩
    exact ⟨rfl, rfl, rfl, by intro q hq; simp at hq; subst hq; exact flat_bls _⟩
  · intro q hq
    simp only [List.mem_cons, List.not_mem_nil, or_false] at hq
    subst hq
    exact rowsOf_bls (T := 4) (by simp [lk])
  · have := kept_okO c kp on hc hkp hon ha
    simp only [PV.subL, PV.sub, thOf, and_self, if_true, Cht.cs_eq]
    exact this
theorem lit_okB (c : Cht) (at' : Int) (on bg : List Bool) (id : Nat) (hc : c.Sm) (hon : on.length ≤ 1099511627776) (hbg : bg.length = on.length) (ha : ∀ i, i < c.as'.length → (c.as'.getD i default).In on.length) :
    CallF Tryz.prog 86 [.agg c.cs, .int .i64 at', .sl 4 id 0 on.length, .rows 4 (rowsB bg)] [(id, .cells 4 (bls on))] 0 (fun _ o => o = { rs := [.bool (lit c at' on bg)] }) := by
  refine CallF.borrow [(4, id, 0, on.length, rowsB on)] rfl rfl ?_ ?_
  · intro q hq
    simp only [List.mem_cons, List.not_mem_nil, or_false] at hq
    subst hq
    exact rowsOf_bls (T := 4) (by simp [lk])
  · have := lit_ok c at' on bg hc hon hbg ha
    simp only [PV.subL, PV.sub, thOf, and_self, if_true, Cht.cs_eq]
    exact this
theorem frzB {r : Option Nat} {N : Nat} {c : Code} {s : MS} {Q : ExitA → MS → Prop} (x n : Nat) (l : List Bool) (hn : l.length = n) (hx : s.B ≤ x) (h1 : s.f x = some (.cells 4 (bls l)))
    (h : wpM Tryz.prog r N c (s.frz [x] [(4, x, 0, n, rowsB l)]) Q) : wpM Tryz.prog r N c s Q := by
  refine wpM_frz [x] _ (by intro q hq; simp at hq; subst hq; assumption) (frz_bls (T := 4) h1 hn) h
theorem step_okO (c : Cht) (k : Mrk) (m : MM) (x y z : Nat) (hm : m.Six) (h1 : x ≠ y) (h2 : x ≠ z) (h3 : y ≠ z) (hc : c.Sm) (hk : k.kept.length = 6) (hg : c.Go k.on.length) :
    CallF Tryz.prog 35 [.agg c.cs, .agg k.cs, .agg (ocs x y z)] (m.ol x y z) 1 (fun ns o => ∃ w, ns = [w] ∧ o = { rs := [.agg [.sl 4 w 0 k.on.length, .rows 4 (rowsB (stepM c k m).1.kept)], .agg (ocs x y z)], u := (stepM c k m).2.ou x y z, nw := [(w, .cells 4 (bls (stepM c k m).1.on))] }) := by
  have hts := hc.ts
  have has := hc.as'
  have hon6 := hg.n6
  have hst := hg.st
  have hst2 := hg.steps
  obtain ⟨hfs, hfl⟩ := fires_Fs m c k.on
  have hs : stepM c k m = (⟨goes c k.on (fires m c k.on), keptM c k.kept (goes c k.on (fires m c k.on))⟩, mfold c (keptM c k.kept (goes c k.on (fires m c k.on))) (goes c k.on (fires m c k.on)) (begins c (fires m c k.on)) m c.as') := rfl
  rw [hs]
  clear hs
  generalize hF : fires m c k.on = fs at *
  have honl : (goes c k.on fs).length = k.on.length := goes_len c k.on fs
  generalize hO : goes c k.on fs = on at *
  have hkpl : (keptM c k.kept on).length = 6 := by rw [keptM_len, hk]
  generalize hK : keptM c k.kept on = kp at *
  have hbgl : (begins c fs).length = on.length := by rw [begins, spread_len, List.length_replicate, honl, hst2]
  generalize hG : begins c fs = bg at *
  refine callF_of' Tryz.func35 rfl Tryz.ntmps35 (by simp) ?_
  intro f0 B ns Q hB hns hQ
  have hx : x < B := hB x (by simp [hasKey, lk, MM.ol])
  have hy : y < B := hB y (by simp [hasKey, lk, MM.ol, h1])
  have hz : z < B := hB z (by simp [hasKey, lk, MM.ol, h2, h3])
  obtain ⟨w, rfl⟩ : ∃ w, ns = [w] := by
    match ns, hns with
    | [w], _ => exact ⟨w, rfl⟩
  refine wpM_seq ?_
  refine wpM_regionK [3, 4, 5, 6, 7] rfl ?_; intro Q1 hQ1
  refine S_ ?_
  refine hQ1 _ _ ?_; clear hQ1 Q1
  refine S_ ?_
  refine wpM_seq ?_
  refine wpM_regionK [3, 4, 5, 6, 7, 8] rfl ?_; intro Q1 hQ1
  refine S_ ?_
  refine call_rs (fires_ok c k m x y z hm h1 h2 h3 hc (by omega) hg.t) (by simp -implicitDefEqProofs (disch := omega) only [go_sem, h1, h2, h3]) Tryz.call80 rfl rfl rfl F_ ?_
  rw [hF]
  refine S_ ?_
  refine hQ1 _ _ ?_; clear hQ1 Q1
  refine S_ ?_
  refine wpM_seq ?_
  refine wpM_regionK [3, 4, 5, 6, 7, 8, 9] rfl ?_; intro Q1 hQ1
  refine S_ ?_
  refine call_p (hG ▸ begins_ok c fs hc (by omega) (by omega) hfs (hst2 ▸ hg.t)) Tryz.call81 rfl rfl rfl (by first | rfl | (simp -implicitDefEqProofs (disch := omega) only [go_sem] <;> rfl)) ?_
  refine S_ ?_
  refine hQ1 _ _ ?_; clear hQ1 Q1
  refine S_ ?_
  refine wpM_seq ?_
  refine wpM_regionK [3, 4, 5, 6, 7, 9] rfl ?_; intro Q1 hQ1
  refine S_ ?_
  refine call_fn (l := []) (first := []) (cap := []) (ps := [.agg c.cs, .rows 4 (rowsB k.on), .rows 3 (rowsI fs)]) (go_okO c k.on fs hc (by omega) (by omega) hfs hg.t) Tryz.call82 rfl rfl rfl T_ T_ ?_
  rintro out ⟨x', ⟨⟩, rfl⟩
  refine S_ ?_
  refine hQ1 _ _ ?_; clear hQ1 Q1
  refine S_ ?_
  rw [hO, show B + 1 + 1 + 1 + 1 + 1 = B + 5 from rfl, ← honl]
  refine wpM_seq ?_
  refine wpM_regionK [3, 4, 5, 6, 7, 9] rfl ?_; intro Q1 hQ1
  refine S_ ?_
  refine call_fn (l := [(B + 5, .cells 4 (bls on))]) (first := []) (cap := []) (ps := [.agg c.cs, .rows 4 (rowsB k.kept), .sl 4 (B + 5) 0 on.length]) (kept_okB c k.kept on (B + 5) hc hk (by omega) (honl ▸ hg.a)) Tryz.call83 rfl rfl rfl T_ T_ ?_
  rintro out ⟨x', ⟨⟩, rfl⟩
  refine S_ ?_
  refine hQ1 _ _ ?_; clear hQ1 Q1
  refine S_ ?_
  rw [hK]
  refine frzB (B + 6) 6 kp hkpl T_ T_ ?_
  simp -implicitDefEqProofs (disch := omega) only [go_sem]
  refine wpM_seq ?_
  refine wpM_seq ?_
  refine wpM_regionK [3, 4, 5, 6, 7, 9, 10] rfl ?_; intro Q1 hQ1
  refine S_ ?_
  refine hQ1 _ _ ?_; clear hQ1 Q1
  refine S_ ?_
  refine wpM_block ?_
  refine wpM_loopS (fun s n s' => ∃ (i0 M0 : Nat) , i0 + n = c.as'.length ∧ s.M ≤ M0 ∧ (Tr i0) ∧ s' = { s with env := setE 10 (.int .i64 (i0 : Nat)) s.env, l := setl x (.cells 3 (ints (mfold c kp on bg m (c.as'.take i0)).i)) (setl y (.cells 3 (ints (mfold c kp on bg m (c.as'.take i0)).o)) (setl z (.cells 3 (ints (mfold c kp on bg m (c.as'.take i0)).v)) s.l)), M := M0 }) (c.as'.length) ?_ ?_
  ·
    refine .of' _ _ ⟨0, _, by omega, Nat.le_refl _, trivial, rfl⟩ ?_ ?_ ?_ <;> (first | (simp -implicitDefEqProofs (disch := omega) only [go_sem, PV.int.injEq, Int.natCast_add, Int.natCast_one, Int.natCast_zero, true_or, le_yes]; done) | rfl | trivial | (simp -implicitDefEqProofs (disch := omega) only [go_sem, PV.int.injEq, Int.natCast_add, Int.natCast_one, Int.natCast_zero, true_or]; simp; done) | (simp; done))
  rintro n0 s' ⟨i0, M0, hi0, hM0, hv0, rfl⟩
  try dsimp only at hM0
  try refine S_ ?_
  refine wpM_seq ?_
  refine wpM_seq ?_
  refine wpM_regionK [3, 4, 5, 6, 7, 9, 10, 36] rfl ?_; intro Q1 hQ1
  refine S_ ?_
  refine hQ1 _ _ ?_; clear hQ1 Q1
  refine S_ ?_
  refine wpM_condK ?_
  refine S_ ?_
  refine ⟨fun hc0 => ?_, fun hc0 => ?_⟩
  ·
    have hl0 : i0 < c.as'.length := by omega
    have hin : (c.as'.getD i0 default).In k.on.length := hg.a i0 hl0
    have hin2 := hin
    unfold GAct.In at hin
    have hms : (mfold c kp on bg m (c.as'.take i0)).Six := mfold_six _ _ _ _ _ _ hm
    have hmt := mfold_take c kp on bg m c.as' i0 hl0
    generalize hM : mfold c kp on bg m (c.as'.take i0) = mm at *
    refine wpM_skip ?_
    refine S_ ?_
    refine wpM_seq ?_
    refine wpM_block ?_
    refine wpM_seq ?_
    refine wpM_regionK [3, 4, 5, 6, 7, 9, 10, 11] rfl ?_; intro Q1 hQ1
    refine S_ ?_
    refine hQ1 _ _ ?_; clear hQ1 Q1
    refine S_ ?_
    refine wpM_keep [3, 4, 5, 6, 7, 9, 10] (wpM_dr mixed 0 7 [B, B + 1, B + 2, x, y, z, B + 5] [⟨[5], [2], [], [], false⟩, ⟨[3], [], [], [], false⟩, ⟨[47], [0], [], [], false⟩, ⟨[10], [], [], [], false⟩, ⟨[48, 49], [], [], [], false⟩, ⟨[50], [], [], [], false⟩, ⟨[51], [], [], [], false⟩, ⟨[4], [], [], [], false⟩, ⟨[53], [1], [], [], false⟩, ⟨[11], [], [], [], false⟩, ⟨[54, 55], [], [], [], false⟩, ⟨[56], [], [], [], false⟩, ⟨[57], [], [], [], false⟩, ⟨[3, 58], [0], [], [], false⟩, ⟨[11, 58], [], [], [], false⟩, ⟨[4, 58], [], [], [], false⟩, ⟨[58, 61], [1], [], [], false⟩, ⟨[9, 58], [], [], [], false⟩, ⟨[58, 59, 60, 62, 63], [6], [], [], true⟩, ⟨[58, 64], [], [], [], false⟩, ⟨[65], [], [], [], true⟩, ⟨[46, 52, 66], [3, 4, 5], [3, 4, 5], [], true⟩, ⟨[5, 67], [2], [2], [], false⟩] [0, 1, 2, 3, 4, 5, 6, 7, 8, 9, 10, 11, 12, 13, 14, 15, 16, 17, 18, 19, 20, 21, 22] [[], [], [1], [], [1, 2, 3], [1, 2, 3, 4], [1, 2, 3, 4, 5], [], [7], [], [7, 8, 9], [7, 8, 9, 10], [7, 8, 9, 10, 11], [7, 8, 9, 10, 11, 12], [7, 8, 9, 10, 11, 12], [7, 8, 9, 10, 11, 12], [7, 8, 9, 10, 11, 12, 15], [7, 8, 9, 10, 11, 12], [7, 8, 9, 10, 11, 12, 13, 14, 15, 16, 17], [7, 8, 9, 10, 11, 12, 13, 14, 15, 16, 17, 18], [7, 8, 9, 10, 11, 12, 13, 14, 15, 16, 17, 18, 19], [0, 1, 2, 3, 4, 5, 6, 7, 8, 9, 10, 11, 12, 13, 14, 15, 16, 17, 18, 19, 20], [0, 1, 2, 3, 4, 5, 6, 7, 8, 9, 10, 11, 12, 13, 14, 15, 16, 17, 18, 19, 20, 21]] 7 rfl (by simp [h1, h2, h3]; omega) (by decide +kernel) (by simp) ?_)
    intro O A K hO hA hK; simp only [atL_cons, atL_nil, Nat.reduceAdd, Nat.zero_add] at hO hA
    refine SE_ ?_
    refine loudG_r (l := [(B + 5, .cells 4 (bls on))]) (args := [.agg c.cs, .int .i64 (c.as'.getD i0 default).to'.at', .sl 4 (B + 5) 0 on.length, .rows 4 (rowsB bg)]) (fun hb => lit_okB c (c.as'.getD i0 default).to'.at' on bg (B + 5) hc (by omega) hbgl (honl ▸ hg.a)) (subG_spec T_) Tryz.call86 rfl (fun hb => by simp -implicitDefEqProofs (disch := omega) only [go_sem]) (fun hb => by simp -implicitDefEqProofs (disch := omega) only [go_sem, hb, gd_of hb]) rfl ?_
    refine SE_ ?_
    refine loud_p (is_ok (kp.getD (c.as'.getD i0 default).to'.at'.toNat false || lit c (c.as'.getD i0 default).to'.at' on bg)) Tryz.call85 rfl rfl (by first | rfl | (simp -implicitDefEqProofs (disch := omega) only [go_sem] <;> rfl)) rfl ?_
    refine SE_ ?_
    refine loud_fn (first := []) (cap := []) (l := mm.ol x y z) (put_ok mm (c.as'.getD i0 default).to' (numIs (kp.getD (c.as'.getD i0 default).to'.at'.toNat false || lit c (c.as'.getD i0 default).to'.at' on bg)) x y z hms h1 h2 h3 (by omega)) Tryz.call84 rfl rfl F_ (subG_spec (by simp -implicitDefEqProofs (disch := omega) only [go_sem, h1, h2, h3])) rfl ?_
    rintro out rfl
    refine ⟨rfl, ?_⟩
    refine SE_ ?_
    refine hK _ ?_; clear hK K hO hA O A
    refine S_ ?_
    refine wpM_regionK [3, 4, 5, 6, 7, 9, 10] rfl ?_; intro Q1 hQ1
    refine S_ ?_
    refine hQ1 _ _ ?_; clear hQ1 Q1
    refine S_ ?_
    change mfold c kp on bg m (c.as'.take (i0 + 1)) = mm.put (c.as'.getD i0 default).to' (numIs (kp.getD (c.as'.getD i0 default).to'.at'.toNat false || lit c (c.as'.getD i0 default).to'.at' on bg)) at hmt
    rw [← hmt]
    refine .of' _ _ ⟨n0 - 1, by omega, i0 + 1, _, by omega, ?_, ?_, rfl⟩ ?_ ?_ ?_
    · first | omega | (simp -implicitDefEqProofs (disch := omega) only [go_sem]; done) | (simp -implicitDefEqProofs (disch := omega) only [go_sem]; omega)
    · first | trivial | omega
    all_goals (first | (simp -implicitDefEqProofs (disch := omega) only [go_sem, PV.int.injEq, Int.natCast_add, Int.natCast_one, Int.natCast_zero, true_or, le_yes]; done) | rfl | trivial | (simp -implicitDefEqProofs (disch := omega) only [go_sem, PV.int.injEq, Int.natCast_add, Int.natCast_one, Int.natCast_zero, true_or]; simp; done) | (simp; done))
  refine wpM_exit ?_
  refine S_ ?_
  refine wpM_seq ?_
  have hie : i0 = c.as'.length := by omega
  rw [hie, List.take_of_length_le (Nat.le_refl _)]
  refine wpM_keep [6, 7] (wpM_dr mixed 0 4 [B+1, B+2, B+3, B+4] [⟨[4], [0], [], [], false⟩, ⟨[5], [1], [], [], false⟩, ⟨[6, 68], [2], [2], [], false⟩, ⟨[7, 69], [3], [3], [], false⟩] [0, 1, 2, 3] [[], [], [0], [0, 1, 2]] 4 rfl (by simp) (by decide +kernel) (by simp) ?_)
  intro O A K hO hA hK; simp only [atL_cons, atL_nil, Nat.reduceAdd, Nat.zero_add] at hO hA
  refine SO_ ?_
  refine hK _ ?_; clear hK K hO hA O A
  refine S_ ?_
  refine wpM_ret ?_
  try refine S_ ?_
  refine hQ _ _ (retK [B + 5] (MM.ou _ x y z) [(w, .cells 4 (bls on))] rfl rfl rfl (by rw [Tryz.results35]; simp (maxSteps := 1000000) -implicitDefEqProofs (disch := omega) only [go_sem] <;> rfl) ?_ ⟨w, rfl, rfl⟩ ?_ ?_ ?_ ?_ ?_ ?_)
  all_goals (first | (simp -implicitDefEqProofs (disch := omega) only [go_sem, h1, h2, h3, honl, List.nodup_cons, List.nodup_nil, true_or, or_true, List.mem_cons, List.not_mem_nil]; done) | (simp -implicitDefEqProofs (disch := omega) only [go_sem, h1, h2, h3, honl, List.nodup_cons, List.nodup_nil, true_or, or_true, List.mem_cons, List.not_mem_nil]; omega))
end Go.Proofs.YtnilkkcobeaglaaGreat
namespace Go.Proofs.YtnilkkcobeaglaaGreat
open Go Sg
set_option maxRecDepth 100000
set_option linter.unusedSimpArgs false
set_option linter.unusedVariables false
set_option maxHeartbeats 4000000
theorem new_okO (c : Cht) (h : 1 ≤ c.steps ∧ c.steps ≤ 6) : CallF Tryz.prog 77 [.agg c.cs] [] 1 (fun ns o => ∃ w, ns = [w] ∧ o = { rs := [.agg [.sl 4 w 0 (newM c).on.length, .rows 4 (rowsB (newM c).kept)]], nw := [(w, .cells 4 (bls (newM c).on))] }) := by
  have hl : (List.replicate c.steps.toNat false).length = c.steps.toNat := List.length_replicate
  have hln : (newM c).on.length = c.steps.toNat := by simp [newM]
  refine callF_of' Tryz.func77 rfl Tryz.ntmps77 (by simp) ?_
  intro f0 B ns Q hB hns hQ
  obtain ⟨w, rfl⟩ : ∃ w, ns = [w] := by
    match ns, hns with
    | [w], _ => exact ⟨w, rfl⟩
  refine wpM_seq ?_
  refine wpM_regionK [1, 2] rfl ?_; intro Q1 hQ1
  refine S_ ?_
  refine hQ1 _ _ ?_; clear hQ1 Q1
  refine S_ ?_
  refine wpM_seq ?_
  refine wpM_keep [2, 3] (wpM_dr mixed 3 1 [B, B + 2, B + 3, B + 4] [⟨[1], [], [], [], false⟩, ⟨[4], [0], [], [], false⟩, ⟨[5], [], [], [1], false⟩, ⟨[], [], [], [2], false⟩, ⟨[6, 7], [], [], [], false⟩, ⟨[], [], [], [3], false⟩, ⟨[3, 8], [3], [3], [], false⟩] [0, 1, 2, 3, 4, 5, 6] [[], [0], [0, 1], [], [0, 1, 2, 3], [], [0, 1, 2, 3, 4, 5]] 4 rfl (by simp) (by decide +kernel) (by simp) ?_)
  intro O A K hO hA hK; simp only [atL_cons, atL_nil, Nat.reduceAdd, Nat.zero_add] at hO hA
  refine SO_ ?_
  refine hK _ ?_; clear hK K hO hA O A
  refine S_ ?_
  refine wpM_seq ?_
  refine wpM_regionK [2, 3] rfl ?_; intro Q1 hQ1
  refine S_ ?_
  refine hQ1 _ _ ?_; clear hQ1 Q1
  refine S_ ?_
  refine wpM_seq ?_
  refine wpM_regionK [2] rfl ?_; intro Q1 hQ1
  refine S_ ?_
  refine hQ1 _ _ ?_; clear hQ1 Q1
  refine S_ ?_
  refine frzB (B + 3) 6 (newM c).kept (by simp [newM]) T_ (by simp -implicitDefEqProofs (disch := omega) only [go_sem]; rfl) ?_
  simp -implicitDefEqProofs (disch := omega) only [go_sem]
  refine wpM_ret ?_
  try refine S_ ?_
  refine hQ _ _ (retK [B + 2] [] [(w, .cells 4 (bls (newM c).on))] rfl rfl rfl (by rw [Tryz.results77]; simp (maxSteps := 1000000) -implicitDefEqProofs (disch := omega) only [go_sem] <;> rfl) ?_ ⟨w, rfl, rfl⟩ ?_ ?_ ?_ ?_ ?_ ?_)
  all_goals (first | (simp -implicitDefEqProofs (disch := omega) only [go_sem, newM, hl, List.length_set, List.nodup_cons, List.nodup_nil, true_or, or_true, List.mem_cons, List.not_mem_nil]; done) | (simp -implicitDefEqProofs (disch := omega) only [go_sem, newM, hl, List.length_set, List.nodup_cons, List.nodup_nil, true_or, or_true, List.mem_cons, List.not_mem_nil]; omega))
theorem chtNew_okO (c : Cht) (hc : c.Sm) : CallF Tryz.prog 32 [.agg c.cs] [] 1 (fun ns o => ∃ w, ns = [w] ∧ o = { rs := [.agg [.sl 4 w 0 (chtNew c).on.length, .rows 4 (rowsB (chtNew c).kept)]], nw := [(w, .cells 4 (bls (chtNew c).on))] }) := by
  refine callF_of' Tryz.func32 rfl Tryz.ntmps32 (by simp) ?_
  intro f0 B ns Q hB hns hQ
  obtain ⟨w, rfl⟩ : ∃ w, ns = [w] := by
    match ns, hns with
    | [w], _ => exact ⟨w, rfl⟩
  refine wpM_seq ?_
  refine wpM_regionK [1, 2] rfl ?_; intro Q1 hQ1
  refine S_ ?_
  refine hQ1 _ _ ?_; clear hQ1 Q1
  refine S_ ?_
  refine wpM_seq ?_
  refine wpM_seq ?_
  refine wpM_regionK [1, 2, 5] rfl ?_; intro Q1 hQ1
  refine S_ ?_
  refine call_p (chtOk_ok c hc) Tryz.call34 rfl rfl rfl (by first | rfl | (simp -implicitDefEqProofs (disch := omega) only [go_sem] <;> rfl)) ?_
  refine S_ ?_
  refine hQ1 _ _ ?_; clear hQ1 Q1
  refine S_ ?_
  refine wpM_condK ?_
  refine S_ ?_
  refine ⟨fun hc0 => ?_, fun hc0 => ?_⟩
  ·
    refine wpM_seq ?_
    refine wpM_regionK [2] rfl ?_; intro Q1 hQ1
    refine S_ ?_
    refine hQ1 _ _ ?_; clear hQ1 Q1
    refine S_ ?_
    have h1 : chtNew c = ⟨[], []⟩ := by
      have h1 : c.ok = false := by simpa using hc0
      rw [chtNew, h1]; rfl
    refine wpM_le [(2, .ptr (B + 1) 0)] [(B + 1, .cells 29 [.emp, .rows 4 []])] T_ T_ T_ ?_
    refine wpM_nil 4 [(2, .ptr (B + 1) 0)] [(B + 1, .cells 29 [.sl 4 (B + 2) 0 0, .rows 4 []])] T_ T_ T_ ?_
    refine wpM_ret ?_
    try refine S_ ?_
    rw [h1] at hQ
    refine hQ _ _ (retK [B + 2] [] [(w, .cells 4 (bls _))] rfl rfl rfl (by rw [Tryz.results32]; simp (maxSteps := 1000000) -implicitDefEqProofs (disch := omega) only [go_sem] <;> rfl) ?_ ⟨w, rfl, rfl⟩ ?_ ?_ ?_ ?_ ?_ ?_)
    all_goals (first | (simp -implicitDefEqProofs (disch := omega) only [go_sem, rowsB, bls, List.map_nil, List.nodup_cons, List.nodup_nil, true_or, or_true, List.mem_cons, List.not_mem_nil]; done) | (simp -implicitDefEqProofs (disch := omega) only [go_sem, List.nodup_cons, List.nodup_nil, true_or, or_true, List.mem_cons, List.not_mem_nil]; done) | (simp -implicitDefEqProofs (disch := omega) only [go_sem, List.nodup_cons, List.nodup_nil, true_or, or_true, List.mem_cons, List.not_mem_nil]; omega))
  refine wpM_skip ?_
  refine S_ ?_
  refine wpM_seq ?_
  refine wpM_regionK [2] rfl ?_; intro Q1 hQ1
  refine S_ ?_
  refine call_fn (l := []) (first := []) (cap := []) (ps := [.agg c.cs]) (new_okO c ⟨(Cht.ok_st (by simpa using hc0)).1, (Cht.ok_st (by simpa using hc0)).2.1⟩) Tryz.call77 rfl rfl rfl T_ T_ ?_
  rintro out ⟨x', ⟨⟩, rfl⟩
  refine S_ ?_
  refine hQ1 _ _ ?_; clear hQ1 Q1
  refine S_ ?_
  have h1 : chtNew c = newM c := by
    have h1 : c.ok = true := by simpa using hc0
    rw [chtNew, h1]; rfl
  refine wpM_ret ?_
  try refine S_ ?_
  rw [h1] at hQ
  refine hQ _ _ (retK [B + 2] [] [(w, .cells 4 (bls _))] rfl rfl rfl (by rw [Tryz.results32]; simp (maxSteps := 1000000) -implicitDefEqProofs (disch := omega) only [go_sem] <;> rfl) ?_ ⟨w, rfl, rfl⟩ ?_ ?_ ?_ ?_ ?_ ?_)
  all_goals (first | (simp -implicitDefEqProofs (disch := omega) only [go_sem, rowsB, bls, List.map_nil, List.nodup_cons, List.nodup_nil, true_or, or_true, List.mem_cons, List.not_mem_nil]; done) | (simp -implicitDefEqProofs (disch := omega) only [go_sem, List.nodup_cons, List.nodup_nil, true_or, or_true, List.mem_cons, List.not_mem_nil]; done) | (simp -implicitDefEqProofs (disch := omega) only [go_sem, List.nodup_cons, List.nodup_nil, true_or, or_true, List.mem_cons, List.not_mem_nil]; omega))
end Go.Proofs.YtnilkkcobeaglaaGreat
namespace Go.Proofs.YtnilkkcobeaglaaGreat
open Go Sg
set_option maxRecDepth 100000
set_option linter.unusedSimpArgs false
set_option linter.unusedVariables false
set_option maxHeartbeats 4000000
theorem frzBP {r : Option Nat} {N : Nat} {c : Code} {s : MS} {Q : ExitA → MS → Prop} (x n : Nat) (l : List Bool) (hn : n ≤ l.length) (hx : s.B ≤ x) (h1 : s.f x = some (.cells 4 (bls l)))
    (h : wpM Tryz.prog r N c (s.frz [x] [(4, x, 0, n, rowsB (l.take n))]) Q) : wpM Tryz.prog r N c s Q := by
  refine wpM_frz [x] _ (by intro q hq; simp at hq; subst hq; assumption) (by
    intro q hq
    simp only [List.mem_cons, List.not_mem_nil, or_false] at hq
    subst hq
    refine ⟨by simp, by rw [cellsOf4]; omega, by simp [rowsB]; omega, ?_, 4, _, h1, ?_, ?_⟩
    · intro c hc
      simp only [rowsB, List.mem_map] at hc
      obtain ⟨x, _, rfl⟩ := hc
      rw [cellsOf4]; exact ⟨rfl, rfl⟩
    · rw [cellsOf4]; simp [bls]; omega
    · rw [cellsOf4, rowsB_flat]; simp [bls, List.map_take]) h
structure KI (c : Cht) (k : Mrk) : Prop where
  ok : c.ok = true → k.on.length = c.steps.toNat ∧ k.kept.length = 6
  on : k.on.length ≤ 6
  kp : k.kept.length ≤ 6
theorem KI.new (c : Cht) : KI c (chtNew c) := by
  unfold chtNew
  cases h : c.ok with
  | true =>
    have h1 := Cht.ok_st h
    simp only [if_true]
    exact ⟨fun _ => ⟨by simp [newM], by simp [newM]⟩, by simp [newM]; omega, by simp [newM]⟩
  | false => exact ⟨fun h' => (by rw [h] at h'; cases h'), by simp, by simp⟩
theorem KI.step {c : Cht} {k : Mrk} (h : KI c k) (m : MM) : KI c (stepM c k m).1 := by
  obtain ⟨h1, h2⟩ := stepM_len c k m
  exact ⟨fun hc => by rw [h1, h2]; exact h.ok hc, by rw [h1]; exact h.on, by rw [h2]; exact h.kp⟩
theorem KI.set {c : Cht} {k : Mrk} (h : KI c k) (i : Nat) (b : Bool) : KI c ⟨k.on.set i b, k.kept⟩ :=
  ⟨fun hc => by simpa using h.ok hc, by simpa using h.on, h.kp⟩
theorem KI.go {c : Cht} {k : Mrk} (h : KI c k) (hc : c.ok = true) : c.Go k.on.length := by rw [(h.ok hc).1]; exact Cht.ok_Go hc
def DStep (c : Cht) (k : Mrk) (m : MM) : Prop := c.Sm ∧ m.Sm ∧ k.on.length ≤ 6 ∧ k.kept.length ≤ 6
theorem drawStep_ok (code : List Nat) (hcode : ∀ x ∈ code, x < 256) (hl : code.length ≤ 1099511627776) :
    CallF Tryz.prog 8 [.rows 5 (u8s code)] [] 0 (fun _ o => ∃ c k m, DStep c k m ∧ o = { rs := [.agg c.cs, .agg k.cs, .agg m.cs] }) := by
  refine callF_of' Tryz.func8 rfl Tryz.ntmps8 (by simp) ?_
  intro f0 B ns Q hB hns hQ
  obtain rfl : ns = [] := List.eq_nil_of_length_eq_zero hns
  refine wpM_seq ?_
  refine wpM_regionK [0, 2, 3, 4] rfl ?_; intro Q1 hQ1
  refine S_ ?_
  refine hQ1 _ _ ?_; clear hQ1 Q1
  refine S_ ?_
  refine wpM_seq ?_
  refine wpM_regionK [2, 3, 4, 5] rfl ?_; intro Q1 hQ1
  refine S_ ?_
  refine call_fn (l := []) (first := []) (cap := []) (ps := [.rows 5 (u8s code)]) (open_ok code hcode hl) Tryz.call30 rfl rfl rfl T_ T_ ?_
  rintro out ⟨j, bs, ⟨⟩, hbs, rfl, hbe⟩
  refine S_ ?_
  refine hQ1 _ _ ?_; clear hQ1 Q1
  refine S_ ?_
  refine wpM_seq ?_
  refine wpM_regionK [2, 3, 4, 5, 6] rfl ?_; intro Q1 hQ1
  refine S_ ?_
  refine call_fn (l := [(B + 3, rdObj bs 0)]) (first := []) (cap := []) (ps := [.ptr (B + 3) 0]) (l8Bent_ok (B + 3) bs 0 hbs (by omega) (by omega)) Tryz.call31 rfl rfl rfl T_ T_ ?_
  rintro out ⟨_, q1, ⟨c, hcs, rfl⟩, hqa, hqb, rfl⟩
  refine S_ ?_
  refine hQ1 _ _ ?_; clear hQ1 Q1
  refine S_ ?_
  refine wpM_seq ?_
  refine wpM_regionK [2, 3, 4, 5, 6, 7] rfl ?_; intro Q1 hQ1
  refine S_ ?_
  refine call_fn (l := []) (first := []) (cap := []) (ps := [.agg c.cs]) (chtNew_okO c hcs) Tryz.call32 rfl rfl rfl T_ T_ ?_
  rintro out ⟨w', ⟨⟩, rfl⟩
  refine S_ ?_
  refine hQ1 _ _ ?_; clear hQ1 Q1
  refine S_ ?_
  refine wpM_seq ?_
  refine wpM_seq ?_
  refine wpM_regionK [2, 3, 4, 5, 6, 7, 8] rfl ?_; intro Q1 hQ1
  refine S_ ?_
  refine call_fn (l := [(B + 3, rdObj bs q1)]) (first := []) (cap := []) (ps := [.ptr (B + 3) 0, .int .i64 4]) (pick_ok (B + 3) bs q1 4 hbs (by omega) (by omega) (by omega)) Tryz.call33 rfl rfl rfl T_ T_ ?_
  rintro out ⟨n0, rfl, h11, h12, h13⟩
  refine S_ ?_
  refine hQ1 _ _ ?_; clear hQ1 Q1
  refine S_ ?_
  obtain ⟨n, rfl⟩ := Int.eq_ofNat_of_zero_le h11
  have hki := KI.new c
  generalize chtNew c = k0 at *
  refine wpM_block ?_
  refine wpM_loopS (fun s r s' => ∃ (M0 y : Nat) (k : Mrk) (q' : Int), (y = B + 5 ∨ B + 7 ≤ y) ∧ y < M0 ∧ B + 7 ≤ M0 ∧ KI c k ∧ 0 ≤ q' ∧ q' + 12 * (r : Int) ≤ 4000 ∧ s' = { s with env := setE 8 (.int .i64 (r : Nat)) s.env, l := [(y, .cells 4 (bls k.on)), (B + 6, .cells 29 [.sl 4 y 0 k.on.length, .rows 4 (rowsB k.kept)]), (B + 4, .cells 26 c.cs), (B + 3, rdObj bs q'), (B + 2, .cells 32 [.emp, .emp, .emp]), (B + 1, .cells 29 [.emp, .emp]), (B, .cells 26 [.int .i64 0, .emp, .emp])], M := M0 }) (n) ?_ ?_
  ·
    refine .of' _ _ ⟨B + 7, B + 5, k0, q1 + 1, by omega, by omega, by omega, hki, by omega, by omega, rfl⟩ ?_ ?_ ?_ <;> (first | (simp -implicitDefEqProofs (disch := omega) only [go_sem, PV.int.injEq, Int.natCast_add, Int.natCast_one, Int.natCast_zero, true_or, le_yes]; done) | rfl | trivial | (simp -implicitDefEqProofs (disch := omega) only [go_sem, PV.int.injEq, Int.natCast_add, Int.natCast_one, Int.natCast_zero, true_or]; simp; done) | (simp; done))
  rintro r s' ⟨M0, y, k, q', hy, hyM, hM0, hki', hqa', hqb', rfl⟩
  try refine S_ ?_
  refine wpM_seq ?_
  refine wpM_seq ?_
  refine wpM_regionK [2, 3, 4, 5, 6, 7, 8, 23] rfl ?_; intro Q1 hQ1
  refine SD_ ?_
  first | refine callG_p (fun hb => chtOk_ok c hcs) Tryz.call34 rfl rfl (fun hb => by simp -implicitDefEqProofs (disch := omega) only [go_sem]) (fun hb => by first | rfl | (simp -implicitDefEqProofs (disch := omega) only [go_sem, hb, gd_of hb] <;> rfl)) ?_ | refine call_p (chtOk_ok c hcs) Tryz.call34 rfl rfl rfl (by first | rfl | (simp -implicitDefEqProofs (disch := omega) only [go_sem] <;> rfl)) ?_
  refine SD_ ?_
  refine hQ1 _ _ ?_; clear hQ1 Q1
  refine S_ ?_
  refine wpM_condK ?_
  refine S_ ?_
  refine ⟨fun hc0 => ?_, fun hc0 => ?_⟩
  ·
    have hr0 : 0 < r := by
      simp only [Bool.and_eq_true, decide_eq_true_eq] at hc0; omega
    have hok : c.ok = true := by
      simp only [Bool.and_eq_true, decide_eq_true_eq] at hc0; exact hc0.2
    have hlk := hki'.ok hok
    have hon6 := hki'.on
    refine wpM_skip ?_
    refine S_ ?_
    refine wpM_seq ?_
    refine wpM_block ?_
    refine frzB y k.on.length k.on rfl T_ T_ ?_
    simp -implicitDefEqProofs (disch := omega) only [go_sem]
    refine wpM_keep [2, 3, 4, 5, 6, 7, 8] (wpM_dr mixed 4 3 [B + 4, B + 6, B + 3, M0, M0 + 1, M0 + 2, M0 + 3] [⟨[6], [0], [], [], false⟩, ⟨[7], [1], [], [], false⟩, ⟨[5], [], [], [], false⟩, ⟨[29], [2], [2], [3, 4, 5], true⟩, ⟨[27, 28, 30], [3, 4, 5], [3, 4, 5], [6], true⟩, ⟨[31], [], [], [], false⟩, ⟨[26], [], [], [], false⟩, ⟨[26], [], [], [], false⟩, ⟨[7, 32], [1], [1], [], false⟩] [0, 1, 2, 3, 4, 5, 6, 7, 8] [[], [], [], [2], [0, 1, 2, 3], [0, 1, 2, 3, 4], [0, 1, 2, 3, 4, 5], [0, 1, 2, 3, 4, 5], [0, 1, 2, 3, 4, 5, 6]] 7 rfl (by simp; omega) (by decide +kernel) (by simp) ?_)
    intro O A K hO hA hK; simp only [atL_cons, atL_nil, Nat.reduceAdd, Nat.zero_add] at hO hA
    refine SO_ ?_
    refine loud_fn (first := []) (cap := []) (ps := [.ptr (B + 3) 0]) (l := [(B + 3, rdObj bs q')]) (l2Mem_ok (B + 3) bs q' hbs (by omega) (by omega)) Tryz.call36 rfl rfl F_ (subG_spec T_) rfl ?_
    rintro out ⟨x2, y2, z2, m2, q2, hns2, hm6, hq2a, hq2b, rfl⟩
    injection hns2 with hn1 hns2
    injection hns2 with hn2 hns2
    injection hns2 with hn3 hns2
    subst hn1 hn2 hn3
    refine ⟨rfl, ?_⟩
    refine SO_ ?_
    refine loud_fn (first := []) (cap := []) (ps := [.agg c.cs, .agg k.cs, .agg (ocs M0 (M0 + 1) (M0 + 2))]) (l := m2.ol M0 (M0 + 1) (M0 + 2)) (step_okO c k m2 M0 (M0 + 1) (M0 + 2) hm6 (by omega) (by omega) (by omega) hcs hlk.2 (hki'.go hok)) Tryz.call35 rfl rfl F_ (subG_spec T_) rfl ?_
    rintro out ⟨w2, hns2, rfl⟩
    injection hns2 with hn1 hns2
    subst hn1
    refine ⟨rfl, ?_⟩
    refine SO_ ?_
    refine hK _ ?_; clear hK K hO hA O A
    refine S_ ?_
    refine wpM_regionK [2, 3, 4, 5, 6, 7, 8] rfl ?_; intro Q1 hQ1
    refine S_ ?_
    refine hQ1 _ _ ?_; clear hQ1 Q1
    refine S_ ?_
    rw [show ((r : Int) - 1) = ((r - 1 : Nat) : Int) by omega, show k.on.length = (stepM c k m2).1.on.length from (stepM_len c k m2).1.symm]
    refine .of' _ _ ⟨r - 1, by omega, M0 + 4, M0 + 3, (stepM c k m2).1, q2, by omega, by omega, by omega, hki'.step m2, by omega, by omega, rfl⟩ ?_ ?_ ?_
    all_goals (first | (simp -implicitDefEqProofs (disch := omega) only [go_sem, PV.int.injEq, Int.natCast_add, Int.natCast_one, Int.natCast_zero, true_or, le_yes]; done) | rfl | trivial | (simp -implicitDefEqProofs (disch := omega) only [go_sem, PV.int.injEq, Int.natCast_add, Int.natCast_one, Int.natCast_zero, true_or]; simp; done) | (simp; done))
  refine wpM_exit ?_
  refine S_ ?_
  refine wpM_seq ?_
  refine wpM_seq ?_
  refine wpM_regionK [2, 3, 4, 5, 6, 7, 36] rfl ?_; intro Q1 hQ1
  refine S_ ?_
  refine call_fn (l := [(B + 3, rdObj bs q')]) (first := []) (cap := []) (ps := [.ptr (B + 3) 0, .int .i64 4]) (pick_ok (B + 3) bs q' 4 hbs (by omega) (by omega) (by omega)) Tryz.call33 rfl rfl rfl T_ T_ ?_
  rintro out ⟨n1, rfl, h21, h22, h23⟩
  refine S_ ?_
  refine hQ1 _ _ ?_; clear hQ1 Q1
  refine S_ ?_
  refine wpM_condK ?_
  refine S_ ?_
  refine ⟨fun hc1 => ?_, fun hc1 => ?_⟩
  ·
    refine wpM_seq ?_
    refine wpM_regionK [2, 3, 4, 5, 6, 7, 9] rfl ?_; intro Q1 hQ1
    refine S_ ?_
    refine hQ1 _ _ ?_; clear hQ1 Q1
    refine S_ ?_
    refine wpM_block ?_
    refine wpM_loopS (fun s r s' => ∃ (M1 i1 : Nat) (k' : Mrk) (q2 : Int), i1 + r = k.on.length ∧ k'.on.length = k.on.length ∧ s.M ≤ M1 ∧ KI c k' ∧ 0 ≤ q2 ∧ q2 ≤ 4002 + i1 ∧ s' = { s with env := setE 9 (.int .i64 (i1 : Nat)) s.env, l := [(y, .cells 4 (bls k'.on)), (B + 6, .cells 29 [.sl 4 y 0 k'.on.length, .rows 4 (rowsB k'.kept)]), (B + 4, .cells 26 c.cs), (B + 3, rdObj bs q2), (B + 2, .cells 32 [.emp, .emp, .emp]), (B + 1, .cells 29 [.emp, .emp]), (B, .cells 26 [.int .i64 0, .emp, .emp])], M := M1 }) (k.on.length) ?_ ?_
    ·
      refine .of' _ _ ⟨_, 0, k, q' + 1, by omega, rfl, Nat.le_refl _, hki', by omega, by omega, rfl⟩ ?_ ?_ ?_ <;> (first | (simp -implicitDefEqProofs (disch := omega) only [go_sem, PV.int.injEq, Int.natCast_add, Int.natCast_one, Int.natCast_zero, true_or, le_yes]; done) | rfl | trivial | (simp -implicitDefEqProofs (disch := omega) only [go_sem, PV.int.injEq, Int.natCast_add, Int.natCast_one, Int.natCast_zero, true_or]; simp; done) | (simp; done))
    rintro r1 s' ⟨M1, i1, k', q2, hir, hkl, hM1, hki2, hq2a, hq2b, rfl⟩
    try dsimp only at hM1
    try refine S_ ?_
    refine wpM_seq ?_
    refine wpM_seq ?_
    refine wpM_regionK [2, 3, 4, 5, 6, 7, 9, 41] rfl ?_; intro Q1 hQ1
    refine S_ ?_
    refine hQ1 _ _ ?_; clear hQ1 Q1
    refine S_ ?_
    refine wpM_condK ?_
    refine S_ ?_
    refine ⟨fun hc2 => ?_, fun hc2 => ?_⟩
    ·
      have hl1 : i1 < k'.on.length := by omega
      have hon6 := hki2.on
      refine wpM_skip ?_
      refine S_ ?_
      refine wpM_seq ?_
      refine wpM_block ?_
      refine wpM_keep [2, 3, 4, 5, 6, 7, 9] (wpM_dr mixed 0 3 [B + 6, B + 3, y] [⟨[7], [], [], [], false⟩, ⟨[44], [0], [], [], false⟩, ⟨[9], [], [], [], false⟩, ⟨[5], [], [], [], false⟩, ⟨[47], [1], [1], [], true⟩, ⟨[48], [], [], [], false⟩, ⟨[45, 46], [], [], [], false⟩, ⟨[49, 50], [2], [2], [], false⟩] [0, 1, 2, 3, 4, 5, 6, 7] [[], [0], [], [], [3], [3, 4], [0, 1, 2, 3, 4, 5], [0, 1, 2, 3, 4, 5, 6]] 3 rfl (by simp; omega) (by decide +kernel) (by simp) ?_)
      intro O A K hO hA hK; simp only [atL_cons, atL_nil, Nat.reduceAdd, Nat.zero_add] at hO hA
      refine SO_ ?_
      refine loud_fn (first := []) (cap := []) (ps := [.ptr (B + 3) 0, .int .i64 2]) (l := [(B + 3, rdObj bs q2)]) (pick_ok (B + 3) bs q2 2 hbs (by omega) (by omega) (by omega)) Tryz.call33 rfl rfl F_ (subG_spec T_) rfl ?_
      rintro out ⟨n2, rfl, h31, h32, h33⟩
      refine ⟨rfl, ?_⟩
      refine SO_ ?_
      refine hK _ ?_; clear hK K hO hA O A
      refine S_ ?_
      refine wpM_regionK [2, 3, 4, 5, 6, 7, 9] rfl ?_; intro Q1 hQ1
      refine S_ ?_
      refine hQ1 _ _ ?_; clear hQ1 Q1
      refine S_ ?_
      refine .of' _ _ ⟨r1 - 1, by omega, _, i1 + 1, ⟨k'.on.set i1 (n2 == 0), k'.kept⟩, q2 + 1, by omega, by simpa using hkl, ?_, hki2.set _ _, by omega, by omega, rfl⟩ ?_ ?_ ?_
      · first | omega | (simp -implicitDefEqProofs (disch := omega) only [go_sem]; done) | (simp -implicitDefEqProofs (disch := omega) only [go_sem]; omega)
      all_goals (try rw [List.length_set])
      all_goals (first | (simp -implicitDefEqProofs (disch := omega) only [go_sem, PV.int.injEq, Int.natCast_add, Int.natCast_one, Int.natCast_zero, true_or, le_yes]; done) | rfl | trivial | (simp -implicitDefEqProofs (disch := omega) only [go_sem, PV.int.injEq, Int.natCast_add, Int.natCast_one, Int.natCast_zero, true_or]; simp; done) | (simp; done))
    refine wpM_exit ?_
    refine S_ ?_
    refine wpM_seq ?_
    refine wpM_seq ?_
    have hk6 := hki2.on
    have hk7 := hki2.kp
    have hq2c : q2 ≤ 4010 := by omega
    obtain ⟨nh, hnh, hnl⟩ : ∃ nh : Nat, (k'.on.length : Int).tdiv 2 = (nh : Int) ∧ nh ≤ k'.on.length := ⟨k'.on.length / 2, (Int.ofNat_tdiv _ _).symm, by omega⟩
    refine wpM_regionK [2, 3, 4, 5, 6, 7, 53] rfl ?_; intro Q1 hQ1
    refine S_ ?_
    refine call_fn (l := [(B + 3, rdObj bs q2)]) (first := []) (cap := []) (ps := [.ptr (B + 3) 0, .int .i64 24]) (pick_ok (B + 3) bs q2 24 hbs (by omega) (by omega) (by omega)) Tryz.call33 rfl rfl rfl T_ T_ ?_
    rintro out ⟨n3, rfl, h41, h42, h43⟩
    refine S_ ?_
    refine hQ1 _ _ ?_; clear hQ1 Q1
    refine S_ ?_
    refine wpM_condK ?_
    refine S_ ?_
    refine ⟨fun hc3 => ?_, fun hc3 => ?_⟩
    ·
      refine wpM_regionK [2, 3, 4, 5, 6, 7] rfl ?_; intro Q1 hQ1
      simp -implicitDefEqProofs (disch := omega) only [go_sem, hnh]
      refine hQ1 _ _ ?_; clear hQ1 Q1
      refine S_ ?_
      refine frzBP y nh k'.on hnl T_ T_ ?_
      simp -implicitDefEqProofs (disch := omega) only [go_sem]
      obtain ⟨k2, hk2⟩ : ∃ k2 : Mrk, k2 = ⟨k'.on.take nh, k'.kept⟩ := ⟨_, rfl⟩
      have hk6 : k2.on.length ≤ 6 := by rw [hk2, List.length_take]; omega
      have hk7 : k2.kept.length ≤ 6 := by rw [hk2]; exact hk7
      rw [show k'.on.take nh = k2.on by rw [hk2], show k'.kept = k2.kept by rw [hk2]]
      refine wpM_seq ?_
      refine wpM_keep [2, 3, 4] (wpM_dr mixed 0 6 [B + 4, B + 6, B + 3, B, B + 1, B + 2] [⟨[6], [0], [], [], false⟩, ⟨[7], [1], [], [], false⟩, ⟨[5], [], [], [], false⟩, ⟨[64], [2], [2], [], true⟩, ⟨[2, 62], [3], [3], [], false⟩, ⟨[3, 63], [4], [4], [], false⟩, ⟨[4, 65], [5], [5], [], false⟩] [0, 1, 2, 3, 4, 5, 6] [[], [], [], [2], [0, 2, 3], [0, 1, 2, 3, 4], [0, 1, 2, 3, 4, 5]] 6 rfl (by simp) (by decide +kernel) (by simp) ?_)
      intro O A K hO hA hK; simp only [atL_cons, atL_nil, Nat.reduceAdd, Nat.zero_add] at hO hA
      refine SO_ ?_
      refine loud_fn (first := []) (cap := []) (ps := [.ptr (B + 3) 0]) (l := [(B + 3, rdObj bs (q2 + 1))]) (l2MemBent_ok (B + 3) bs (q2 + 1) hbs (by omega) (by omega)) Tryz.call37 rfl rfl F_ (subG_spec T_) rfl ?_
      rintro out ⟨_, q3, ⟨m, hms, rfl⟩, hqe, hqf, rfl⟩
      refine ⟨rfl, ?_⟩
      refine SO_ ?_
      refine hK _ ?_; clear hK K hO hA O A
      refine S_ ?_
      refine wpM_ret ?_
      try refine S_ ?_
      refine hQ _ _ (ret0 [] rfl rfl rfl (by rw [Tryz.results8]; simp (maxSteps := 1000000) -implicitDefEqProofs (disch := omega) only [go_sem] <;> rfl) ⟨c, k2, m, ⟨hcs, hms, by omega, by omega⟩, rfl⟩ ?_ ?_ ?_ ?_)
      all_goals simp -implicitDefEqProofs (disch := omega) only [go_sem, true_or, or_true]
    refine frzB y k'.on.length k'.on rfl T_ T_ ?_
    simp -implicitDefEqProofs (disch := omega) only [go_sem]
    obtain ⟨k2, hk2⟩ : ∃ k2 : Mrk, k2 = k' := ⟨_, rfl⟩
    rw [← hk2] at hk6 hk7 ⊢
    refine wpM_skip ?_
    refine S_ ?_
    refine wpM_seq ?_
    refine wpM_keep [2, 3, 4] (wpM_dr mixed 0 6 [B + 4, B + 6, B + 3, B, B + 1, B + 2] [⟨[6], [0], [], [], false⟩, ⟨[7], [1], [], [], false⟩, ⟨[5], [], [], [], false⟩, ⟨[64], [2], [2], [], true⟩, ⟨[2, 62], [3], [3], [], false⟩, ⟨[3, 63], [4], [4], [], false⟩, ⟨[4, 65], [5], [5], [], false⟩] [0, 1, 2, 3, 4, 5, 6] [[], [], [], [2], [0, 2, 3], [0, 1, 2, 3, 4], [0, 1, 2, 3, 4, 5]] 6 rfl (by simp) (by decide +kernel) (by simp) ?_)
    intro O A K hO hA hK; simp only [atL_cons, atL_nil, Nat.reduceAdd, Nat.zero_add] at hO hA
    refine SO_ ?_
    refine loud_fn (first := []) (cap := []) (ps := [.ptr (B + 3) 0]) (l := [(B + 3, rdObj bs (q2 + 1))]) (l2MemBent_ok (B + 3) bs (q2 + 1) hbs (by omega) (by omega)) Tryz.call37 rfl rfl F_ (subG_spec T_) rfl ?_
    rintro out ⟨_, q3, ⟨m, hms, rfl⟩, hqe, hqf, rfl⟩
    refine ⟨rfl, ?_⟩
    refine SO_ ?_
    refine hK _ ?_; clear hK K hO hA O A
    refine S_ ?_
    refine wpM_ret ?_
    try refine S_ ?_
    refine hQ _ _ (ret0 [] rfl rfl rfl (by rw [Tryz.results8]; simp (maxSteps := 1000000) -implicitDefEqProofs (disch := omega) only [go_sem] <;> rfl) ⟨c, k2, m, ⟨hcs, hms, by omega, by omega⟩, rfl⟩ ?_ ?_ ?_ ?_)
    all_goals simp -implicitDefEqProofs (disch := omega) only [go_sem, true_or, or_true]
  obtain ⟨q2, hq2⟩ : ∃ q2, q2 = q' + 1 := ⟨_, rfl⟩
  rw [← hq2]
  obtain ⟨k', hk'⟩ : ∃ k', k' = k := ⟨_, rfl⟩
  rw [← hk'] at hki' ⊢
  have hki2 := hki'
  have hq2a : 0 ≤ q2 := by omega
  have hq2b : q2 ≤ 4009 := by omega
  have hM1 : M0 ≤ M0 := Nat.le_refl _
  refine wpM_skip ?_
  refine S_ ?_
  refine wpM_seq ?_
  refine wpM_seq ?_
  have hk6 := hki2.on
  have hk7 := hki2.kp
  have hq2c : q2 ≤ 4010 := by omega
  obtain ⟨nh, hnh, hnl⟩ : ∃ nh : Nat, (k'.on.length : Int).tdiv 2 = (nh : Int) ∧ nh ≤ k'.on.length := ⟨k'.on.length / 2, (Int.ofNat_tdiv _ _).symm, by omega⟩
  refine wpM_regionK [2, 3, 4, 5, 6, 7, 53] rfl ?_; intro Q1 hQ1
  refine S_ ?_
  refine call_fn (l := [(B + 3, rdObj bs q2)]) (first := []) (cap := []) (ps := [.ptr (B + 3) 0, .int .i64 24]) (pick_ok (B + 3) bs q2 24 hbs (by omega) (by omega) (by omega)) Tryz.call33 rfl rfl rfl T_ T_ ?_
  rintro out ⟨n3, rfl, h41, h42, h43⟩
  refine S_ ?_
  refine hQ1 _ _ ?_; clear hQ1 Q1
  refine S_ ?_
  refine wpM_condK ?_
  refine S_ ?_
  refine ⟨fun hc4 => ?_, fun hc4 => ?_⟩
  ·
    refine wpM_regionK [2, 3, 4, 5, 6, 7] rfl ?_; intro Q1 hQ1
    simp -implicitDefEqProofs (disch := omega) only [go_sem, hnh]
    refine hQ1 _ _ ?_; clear hQ1 Q1
    refine S_ ?_
    refine frzBP y nh k'.on hnl T_ T_ ?_
    simp -implicitDefEqProofs (disch := omega) only [go_sem]
    obtain ⟨k2, hk2⟩ : ∃ k2 : Mrk, k2 = ⟨k'.on.take nh, k'.kept⟩ := ⟨_, rfl⟩
    have hk6 : k2.on.length ≤ 6 := by rw [hk2, List.length_take]; omega
    have hk7 : k2.kept.length ≤ 6 := by rw [hk2]; exact hk7
    rw [show k'.on.take nh = k2.on by rw [hk2], show k'.kept = k2.kept by rw [hk2]]
    refine wpM_seq ?_
    refine wpM_keep [2, 3, 4] (wpM_dr mixed 0 6 [B + 4, B + 6, B + 3, B, B + 1, B + 2] [⟨[6], [0], [], [], false⟩, ⟨[7], [1], [], [], false⟩, ⟨[5], [], [], [], false⟩, ⟨[64], [2], [2], [], true⟩, ⟨[2, 62], [3], [3], [], false⟩, ⟨[3, 63], [4], [4], [], false⟩, ⟨[4, 65], [5], [5], [], false⟩] [0, 1, 2, 3, 4, 5, 6] [[], [], [], [2], [0, 2, 3], [0, 1, 2, 3, 4], [0, 1, 2, 3, 4, 5]] 6 rfl (by simp) (by decide +kernel) (by simp) ?_)
    intro O A K hO hA hK; simp only [atL_cons, atL_nil, Nat.reduceAdd, Nat.zero_add] at hO hA
    refine SO_ ?_
    refine loud_fn (first := []) (cap := []) (ps := [.ptr (B + 3) 0]) (l := [(B + 3, rdObj bs (q2 + 1))]) (l2MemBent_ok (B + 3) bs (q2 + 1) hbs (by omega) (by omega)) Tryz.call37 rfl rfl F_ (subG_spec T_) rfl ?_
    rintro out ⟨_, q3, ⟨m, hms, rfl⟩, hqe, hqf, rfl⟩
    refine ⟨rfl, ?_⟩
    refine SO_ ?_
    refine hK _ ?_; clear hK K hO hA O A
    refine S_ ?_
    refine wpM_ret ?_
    try refine S_ ?_
    refine hQ _ _ (ret0 [] rfl rfl rfl (by rw [Tryz.results8]; simp (maxSteps := 1000000) -implicitDefEqProofs (disch := omega) only [go_sem] <;> rfl) ⟨c, k2, m, ⟨hcs, hms, by omega, by omega⟩, rfl⟩ ?_ ?_ ?_ ?_)
    all_goals simp -implicitDefEqProofs (disch := omega) only [go_sem, true_or, or_true]
  refine frzB y k'.on.length k'.on rfl T_ T_ ?_
  simp -implicitDefEqProofs (disch := omega) only [go_sem]
  obtain ⟨k2, hk2⟩ : ∃ k2 : Mrk, k2 = k' := ⟨_, rfl⟩
  rw [← hk2] at hk6 hk7 ⊢
  refine wpM_skip ?_
  refine S_ ?_
  refine wpM_seq ?_
  refine wpM_keep [2, 3, 4] (wpM_dr mixed 0 6 [B + 4, B + 6, B + 3, B, B + 1, B + 2] [⟨[6], [0], [], [], false⟩, ⟨[7], [1], [], [], false⟩, ⟨[5], [], [], [], false⟩, ⟨[64], [2], [2], [], true⟩, ⟨[2, 62], [3], [3], [], false⟩, ⟨[3, 63], [4], [4], [], false⟩, ⟨[4, 65], [5], [5], [], false⟩] [0, 1, 2, 3, 4, 5, 6] [[], [], [], [2], [0, 2, 3], [0, 1, 2, 3, 4], [0, 1, 2, 3, 4, 5]] 6 rfl (by simp) (by decide +kernel) (by simp) ?_)
  intro O A K hO hA hK; simp only [atL_cons, atL_nil, Nat.reduceAdd, Nat.zero_add] at hO hA
  refine SO_ ?_
  refine loud_fn (first := []) (cap := []) (ps := [.ptr (B + 3) 0]) (l := [(B + 3, rdObj bs (q2 + 1))]) (l2MemBent_ok (B + 3) bs (q2 + 1) hbs (by omega) (by omega)) Tryz.call37 rfl rfl F_ (subG_spec T_) rfl ?_
  rintro out ⟨_, q3, ⟨m, hms, rfl⟩, hqe, hqf, rfl⟩
  refine ⟨rfl, ?_⟩
  refine SO_ ?_
  refine hK _ ?_; clear hK K hO hA O A
  refine S_ ?_
  refine wpM_ret ?_
  try refine S_ ?_
  refine hQ _ _ (ret0 [] rfl rfl rfl (by rw [Tryz.results8]; simp (maxSteps := 1000000) -implicitDefEqProofs (disch := omega) only [go_sem] <;> rfl) ⟨c, k2, m, ⟨hcs, hms, by omega, by omega⟩, rfl⟩ ?_ ?_ ?_ ?_)
  all_goals simp -implicitDefEqProofs (disch := omega) only [go_sem, true_or, or_true]
end Go.Proofs.YtnilkkcobeaglaaGreat
namespace Go.Proofs.YtnilkkcobeaglaaGreat
open Go Sg
set_option maxRecDepth 100000
set_option linter.unusedSimpArgs false
set_option linter.unusedVariables false
set_option maxHeartbeats 4000000
@[go_sem] theorem eqlB (x y : Operand) (a b : Bool) : binOpA Tryz.prog .eql 4 x y (.bool a) (.bool b) = some (.bool (a == b)) := by
  simp [binOpA, eqPair, eqA, Tryz.underlying4]
@[go_sem] theorem neqB (x y : Operand) (a b : Bool) : binOpA Tryz.prog .neq 4 x y (.bool a) (.bool b) = some (.bool (a != b)) := by
  simp [binOpA, eqPair, eqA, Tryz.underlying4]; cases a <;> cases b <;> rfl
theorem chtStep_sm (c : Cht) (k : Mrk) (m : MM) : (chtStep c k m).2.Sm := by
  unfold chtStep
  split
  · rename_i h
    simp only [Bool.and_eq_true] at h
    exact MM.Six.sm (stepM_six (MM.ok_six h.2))
  · exact ⟨by simp, by simp, by simp⟩
theorem chtStep_len (c : Cht) (k : Mrk) (m : MM) (h : k.on.length ≤ 6 ∧ k.kept.length ≤ 6) : (chtStep c k m).1.on.length ≤ 6 ∧ (chtStep c k m).1.kept.length ≤ 6 := by
  unfold chtStep
  split
  · have := stepM_len c k m; omega
  · simp
end Go.Proofs.YtnilkkcobeaglaaGreat
