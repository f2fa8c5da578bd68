/- A part of a proof: lemmas and contracts of functions; the last text of the claim says what is proved. -/
import Derived.Test.YtnilkkcobeaglaaGreatX076ab9c060
set_option linter.unusedSectionVars false
set_option linter.unusedSimpArgs false
set_option linter.unusedVariables false
namespace Go.Proofs.YtnilkkcobeaglaaGreat
open Go Sg
set_option maxRecDepth 100000
set_option linter.unusedSimpArgs false
set_option linter.unusedVariables false
set_option maxHeartbeats 4000000
theorem lawStep_ok (code : List Nat) (hcode : ∀ x ∈ code, x < 256) (hl : code.length ≤ 9223372036854775807) : PureF Tryz.prog 5 [.rows 5 (u8s code)] [.bool true] := by
  refine pureF_of Tryz.func5 rfl Tryz.ntmps5 (by simp) T_ ?_
  intro f0 B Q hQ
  refine wpM_seq ?_
  refine wpM_regionK [0] rfl ?_; intro Q1 hQ1
  refine S_ ?_
  refine hQ1 _ _ ?_; clear hQ1 Q1
  refine S_ ?_
  refine wpM_seq ?_
  refine wpM_seq ?_
  refine wpM_regionK [0, 22] rfl ?_; intro Q1 hQ1
  refine S_ ?_
  refine hQ1 _ _ ?_; clear hQ1 Q1
  refine S_ ?_
  refine wpM_condK ?_
  refine S_ ?_
  refine ⟨fun hc0 => ?_, fun hc0 => ?_⟩
  ·
    refine wpM_seq ?_
    refine wpM_regionK [2] rfl ?_; intro Q1 hQ1
    refine S_ ?_
    refine hQ1 _ _ ?_; clear hQ1 Q1
    refine S_ ?_
    refine wpM_ret ?_
    try refine S_ ?_
    refine hQ _ _ rfl rfl rfl (by simp -implicitDefEqProofs (disch := omega) only [go_sem, le_yes, true_or]) ?_ (.inl rfl)
    rw [Tryz.results5]
    try simp -implicitDefEqProofs (disch := omega) only [go_sem, List.cons.injEq, PV.bool.injEq, PV.int.injEq, PV.agg.injEq]
    all_goals
      first
      | trivial
      | (have h0 := @chtStep_no c k m
         rw [hS] at h0
         rw [h0 (by simpa using hc2)]; rfl)
  have hl2 : code.length ≤ 1099511627776 := by
    have : ¬ ((code.length : Int) > 1048576) := by simpa using hc0
    omega
  refine wpM_skip ?_
  refine S_ ?_
  refine wpM_seq ?_
  refine wpM_regionK [3, 4, 5] rfl ?_; intro Q1 hQ1
  refine S_ ?_
  refine call_fn (l := []) (first := []) (cap := []) (ps := [.rows 5 (u8s code)]) (drawStep_ok code hcode hl2) Tryz.call8 rfl rfl rfl T_ T_ ?_
  rintro out ⟨c, k, m, ⟨hcs, hms, hon6, hkp6⟩, rfl⟩
  refine S_ ?_
  refine hQ1 _ _ ?_; clear hQ1 Q1
  refine S_ ?_
  refine wpM_seq ?_
  refine wpM_regionK [3, 4, 5, 6, 7] rfl ?_; intro Q1 hQ1
  refine S_ ?_
  refine call_p (ichtStep_ok c k m hcs hms) Tryz.call9 rfl rfl rfl (by first | rfl | (simp -implicitDefEqProofs (disch := omega) only [go_sem] <;> rfl)) ?_
  refine S_ ?_
  refine hQ1 _ _ ?_; clear hQ1 Q1
  refine S_ ?_
  rw [ichtStep_eq]
  refine wpM_seq ?_
  refine wpM_regionK [3, 4, 5, 6, 7, 8, 9] rfl ?_; intro Q1 hQ1
  refine S_ ?_
  refine call_p (chtStep_ok c k m hcs hms) Tryz.call10 rfl rfl rfl (by first | rfl | (simp -implicitDefEqProofs (disch := omega) only [go_sem] <;> rfl)) ?_
  refine S_ ?_
  refine hQ1 _ _ ?_; clear hQ1 Q1
  refine S_ ?_
  have hS1 := chtStep_sm c k m
  have hS2 := chtStep_len c k m ⟨hon6, hkp6⟩
  have hS3 := @chtStep_ne c k m
  generalize hS : chtStep c k m = S at *
  refine wpM_seq ?_
  refine wpM_seq ?_
  refine wpM_regionK [3, 4, 5, 6, 7, 8, 9, 64] rfl ?_; intro Q1 hQ1
  simp (contextual := true) (maxSteps := 1000000) (implicitDefEqProofs := false) (disch := first | omega | (simp only [decide_eq_true_eq, decide_eq_false_iff_not, Bool.and_eq_true, Bool.or_eq_false_iff, Bool.not_eq_true'] at *; omega)) only [go_sem, memSame_self, bne_self_eq_false]
  refine call_p (memSame_ok S.2 S.2 hS1) Tryz.call11 rfl rfl rfl (by first | rfl | (simp -implicitDefEqProofs (disch := omega) only [go_sem] <;> rfl)) ?_
  simp (contextual := true) (maxSteps := 1000000) (implicitDefEqProofs := false) (disch := first | omega | (simp only [decide_eq_true_eq, decide_eq_false_iff_not, Bool.and_eq_true, Bool.or_eq_false_iff, Bool.not_eq_true'] at *; omega)) only [go_sem, memSame_self, bne_self_eq_false]
  refine hQ1 _ _ ?_; clear hQ1 Q1
  refine S_ ?_
  refine wpM_condK ?_
  refine S_ ?_
  refine wpM_skip ?_
  refine S_ ?_
  refine wpM_seq ?_
  refine wpM_seq ?_
  refine wpM_regionK [3, 4, 5, 6, 7, 8, 68] rfl ?_; intro Q1 hQ1
  refine S_ ?_
  refine hQ1 _ _ ?_; clear hQ1 Q1
  refine S_ ?_
  refine wpM_condK ?_
  refine S_ ?_
  refine ⟨fun hc2 => ?_, fun hc2 => ?_⟩
  ·
    refine wpM_seq ?_
    refine wpM_regionK [2] rfl ?_; intro Q1 hQ1
    refine S_ ?_
    refine hQ1 _ _ ?_; clear hQ1 Q1
    refine S_ ?_
    refine wpM_ret ?_
    try refine S_ ?_
    refine hQ _ _ rfl rfl rfl (by simp -implicitDefEqProofs (disch := omega) only [go_sem, le_yes, true_or]) ?_ (.inl rfl)
    rw [Tryz.results5]
    try simp -implicitDefEqProofs (disch := omega) only [go_sem, List.cons.injEq, PV.bool.injEq, PV.int.injEq, PV.agg.injEq]
    all_goals
      first
      | trivial
      | (have h0 := @chtStep_no c k m
         rw [hS] at h0
         rw [h0 (by simpa using hc2)]; rfl)
  obtain ⟨hok1, hok2, hok3⟩ := hS3 (by intro h; rw [h] at hc2; cases hc2)
  have hcst := Cht.ok_st hok1
  have hsix := MM.ok_six hok3
  have hact := Cht.acts hok1
  have hSe := chtStep_yes hok1 hok2 hok3
  rw [hS] at hSe
  have hmk := hok2
  simp only [mrkOk, Bool.and_eq_true, beq_iff_eq] at hmk
  have hsl := stepM_len c k m
  rw [← hSe] at hsl
  have hS6 : S.2.Six := by rw [hSe]; exact stepM_six hsix
  have hS9 : S.2.ok = true := by rw [hSe]; exact stepM_ok9 c k hok3
  have hmk2 : mrkOk c S.1 = true := by simp only [mrkOk, Bool.and_eq_true, beq_iff_eq]; omega
  obtain ⟨hfs, hfl⟩ := fires_Fs m c k.on
  have hgo := Cht.ok_Go hok1
  have hpl := hgo.pl
  refine wpM_skip ?_
  refine S_ ?_
  refine wpM_seq ?_
  refine wpM_regionK [3, 4, 5, 6, 7, 8, 10] rfl ?_; intro Q1 hQ1
  refine S_ ?_
  refine call_p (ifiresC_ok c k m hcs hms) Tryz.call14 rfl rfl rfl (by first | rfl | (simp -implicitDefEqProofs (disch := omega) only [go_sem] <;> rfl)) ?_
  refine S_ ?_
  refine hQ1 _ _ ?_; clear hQ1 Q1
  refine S_ ?_
  have hfe : ifires c k m = fires m c k.on := by
    rw [ifires_eq, if_pos]
    simp only [turnOk, cht_iok, hok1, hok2, hok3, Bool.and_self]
  rw [hfe]
  refine wpM_seq ?_
  refine wpM_seq ?_
  refine wpM_regionK [3, 4, 5, 6, 7, 8, 10, 11] rfl ?_; intro Q1 hQ1
  refine S_ ?_
  refine hQ1 _ _ ?_; clear hQ1 Q1
  refine S_ ?_
  refine wpM_block ?_
  refine wpM_loopS (fun s n s' => ∃ (i0 M0 : Nat) , i0 + n = c.steps.toNat ∧ s.M ≤ M0 ∧ (Tr i0) ∧ s' = { s with env := setE 11 (.int .i64 (i0 : Nat)) s.env, M := M0 }) (c.steps.toNat) ?_ ?_
  ·
    refine .of' _ _ ⟨0, _, by omega, Nat.le_refl _, trivial, rfl⟩ ?_ ?_ ?_ <;> (first | (simp -implicitDefEqProofs (disch := omega) only [go_sem, PV.int.injEq, Int.natCast_add, Int.natCast_one, Int.natCast_zero, true_or, le_yes]; done) | rfl | trivial | (simp -implicitDefEqProofs (disch := omega) only [go_sem, PV.int.injEq, Int.natCast_add, Int.natCast_one, Int.natCast_zero, true_or]; simp; done) | (simp; done))
  rintro n0 s' ⟨i0, M0, hi0, hM0, hv0, rfl⟩
  try dsimp only at hM0
  try refine S_ ?_
  refine wpM_seq ?_
  refine wpM_seq ?_
  refine wpM_regionK [3, 4, 5, 6, 7, 8, 10, 11, 80] rfl ?_; intro Q1 hQ1
  refine S_ ?_
  refine hQ1 _ _ ?_; clear hQ1 Q1
  refine S_ ?_
  refine wpM_condK ?_
  refine S_ ?_
  refine ⟨fun hc3 => ?_, fun hc3 => ?_⟩
  ·
    have hl0 : i0 < c.steps.toNat := by omega
    have hon0 : i0 < k.on.length := by omega
    refine wpM_skip ?_
    refine S_ ?_
    refine wpM_seq ?_
    refine wpM_block ?_
    refine wpM_seq ?_
    refine wpM_regionK [3, 4, 5, 6, 7, 8, 10, 11, 12] rfl ?_; intro Q1 hQ1
    refine S_ ?_
    refine hQ1 _ _ ?_; clear hQ1 Q1
    refine S_ ?_
    refine wpM_seq ?_
    refine wpM_seq ?_
    refine wpM_regionK [3, 4, 5, 6, 7, 8, 10, 11, 12, 13] rfl ?_; intro Q1 hQ1
    refine S_ ?_
    refine hQ1 _ _ ?_; clear hQ1 Q1
    refine S_ ?_
    refine wpM_block ?_
    refine wpM_loopS (fun s n s' => ∃ (i1 M1 : Nat) , i1 + n = (fires m c k.on).length ∧ s.M ≤ M1 ∧ (Tr i1) ∧ s' = { s with env := setE 13 (.int .i64 (i1 : Nat)) (setE 12 (.bool (k.on.getD i0 false && !(WF Trn.fr c (fires m c k.on) i0 i1))) s.env), M := M1 }) ((fires m c k.on).length) ?_ ?_
    ·
      refine .of' _ _ ⟨0, _, by omega, Nat.le_refl _, trivial, rfl⟩ ?_ ?_ ?_ <;> (first | (simp -implicitDefEqProofs (disch := omega) only [go_sem, PV.int.injEq, Int.natCast_add, Int.natCast_one, Int.natCast_zero, true_or, le_yes]; done) | rfl | trivial | (simp -implicitDefEqProofs (disch := omega) only [go_sem, PV.int.injEq, Int.natCast_add, Int.natCast_one, Int.natCast_zero, true_or]; simp; done) | (simp; done))
    rintro n1 s' ⟨i1, M1, hi1, hM1, hv1, rfl⟩
    try dsimp only at hM1
    try refine S_ ?_
    refine wpM_seq ?_
    refine wpM_seq ?_
    refine wpM_regionK [3, 4, 5, 6, 7, 8, 10, 11, 12, 13, 91] rfl ?_; intro Q1 hQ1
    refine S_ ?_
    refine hQ1 _ _ ?_; clear hQ1 Q1
    refine S_ ?_
    refine wpM_condK ?_
    refine S_ ?_
    refine ⟨fun hc4 => ?_, fun hc4 => ?_⟩
    ·
      have hl1 : i1 < (fires m c k.on).length := by omega
      have hf1 := hfs i1 hl1
      have hw1 : (c.ts.getD ((fires m c k.on).getD i1 0).toNat default).Sm := hcs.t _ (by omega)
      have hw2 := hw1.fr
      have hWs := WF_succ Trn.fr c (fires m c k.on) i0 i1 hl1
      refine wpM_skip ?_
      refine S_ ?_
      refine wpM_seq ?_
      refine wpM_block ?_
      refine wpM_seq ?_
      refine wpM_regionK [3, 4, 5, 6, 7, 8, 10, 11, 12, 13, 14] rfl ?_; intro Q1 hQ1
      refine S_ ?_
      refine hQ1 _ _ ?_; clear hQ1 Q1
      refine S_ ?_
      refine wpM_block ?_
      refine wpM_loopS (fun s n s' => ∃ (i2 M2 : Nat) , i2 + n = (c.ts.getD ((fires m c k.on).getD i1 0).toNat default).fr.length ∧ s.M ≤ M2 ∧ (Tr i2) ∧ s' = { s with env := setE 14 (.int .i64 (i2 : Nat)) (setE 12 (.bool ((k.on.getD i0 false && !(WF Trn.fr c (fires m c k.on) i0 i1)) && !(((c.ts.getD ((fires m c k.on).getD i1 0).toNat default).fr.take i2).any fun x => x == (i0 : Int)))) s.env), M := M2 }) ((c.ts.getD ((fires m c k.on).getD i1 0).toNat default).fr.length) ?_ ?_
      ·
        refine .of' _ _ ⟨0, _, by omega, Nat.le_refl _, trivial, rfl⟩ ?_ ?_ ?_ <;> (first | (simp -implicitDefEqProofs (disch := omega) only [go_sem, PV.int.injEq, Int.natCast_add, Int.natCast_one, Int.natCast_zero, true_or, le_yes]; done) | rfl | trivial | (simp -implicitDefEqProofs (disch := omega) only [go_sem, PV.int.injEq, Int.natCast_add, Int.natCast_one, Int.natCast_zero, true_or]; simp; done) | (simp; done))
      rintro n2 s' ⟨i2, M2, hi2, hM2, hv2, rfl⟩
      try dsimp only at hM2
      try refine S_ ?_
      refine wpM_seq ?_
      refine wpM_seq ?_
      refine wpM_keep [3, 4, 5, 6, 7, 8, 10, 11, 12, 13, 14, 105] (wpM_dr mixed 0 1 [B] [⟨[14], [], [], [], false⟩, ⟨[3], [], [], [], false⟩, ⟨[95], [0], [], [], false⟩, ⟨[10], [], [], [], false⟩, ⟨[13], [], [], [], false⟩, ⟨[97, 98], [], [], [], false⟩, ⟨[99], [], [], [], false⟩, ⟨[96, 100], [], [], [], false⟩, ⟨[101], [], [], [], false⟩, ⟨[102], [], [], [], false⟩, ⟨[103], [], [], [], false⟩, ⟨[94, 104], [], [], [], false⟩] [0, 1, 2, 3, 4, 5, 6, 7, 8, 9, 10, 11] [[], [], [1], [], [], [3, 4], [3, 4, 5], [1, 2, 3, 4, 5, 6], [1, 2, 3, 4, 5, 6, 7], [1, 2, 3, 4, 5, 6, 7, 8], [1, 2, 3, 4, 5, 6, 7, 8, 9], [0, 1, 2, 3, 4, 5, 6, 7, 8, 9, 10]] 1 rfl (by simp) (by decide +kernel) (by simp) ?_)
      intro O A K hO hA hK; simp only [atL_cons, atL_nil, Nat.reduceAdd, Nat.zero_add] at hO hA
      refine SO_ ?_
      refine hK _ ?_; clear hK K hO hA O A
      refine S_ ?_
      refine wpM_condK ?_
      refine S_ ?_
      refine ⟨fun hc5 => ?_, fun hc5 => ?_⟩
      ·
        have hl2 : i2 < (c.ts.getD ((fires m c k.on).getD i1 0).toNat default).fr.length := by omega
        have hts : ((c.ts.getD ((fires m c k.on).getD i1 0).toNat default).fr.take (i2 + 1)).any (fun x => x == (i0 : Int)) = (((c.ts.getD ((fires m c k.on).getD i1 0).toNat default).fr.take i2).any (fun x => x == (i0 : Int)) || ((c.ts.getD ((fires m c k.on).getD i1 0).toNat default).fr.getD i2 0 == (i0 : Int))) := take_any' _ _ _ _ hl2
        refine wpM_skip ?_
        refine S_ ?_
        refine wpM_seq ?_
        refine wpM_block ?_
        refine wpM_keep [3, 4, 5, 6, 7, 8, 10, 11, 12, 13, 14] (wpM_dr mixed 0 1 [B] [⟨[12], [], [], [], false⟩, ⟨[108], [], [], [], false⟩, ⟨[3, 109], [], [], [], false⟩, ⟨[109, 110], [0], [], [], false⟩, ⟨[10, 109], [], [], [], false⟩, ⟨[13, 109], [], [], [], false⟩, ⟨[109, 112, 113], [], [], [], false⟩, ⟨[109, 114], [], [], [], false⟩, ⟨[109, 111, 115], [], [], [], false⟩, ⟨[109, 116], [], [], [], false⟩, ⟨[109, 117], [], [], [], false⟩, ⟨[14, 109], [], [], [], false⟩, ⟨[109, 118, 119], [], [], [], false⟩, ⟨[109, 120], [], [], [], false⟩, ⟨[11, 109], [], [], [], false⟩, ⟨[109, 121, 122], [], [], [], false⟩, ⟨[109, 123], [], [], [], false⟩, ⟨[124], [], [], [], false⟩] [0, 1, 2, 3, 4, 5, 6, 7, 8, 9, 10, 11, 12, 13, 14, 15, 16, 17] [[], [0], [0, 1], [0, 1, 2], [0, 1], [0, 1], [0, 1, 4, 5], [0, 1, 4, 5, 6], [0, 1, 2, 3, 4, 5, 6, 7], [0, 1, 2, 3, 4, 5, 6, 7, 8], [0, 1, 2, 3, 4, 5, 6, 7, 8, 9], [0, 1], [0, 1, 2, 3, 4, 5, 6, 7, 8, 9, 10, 11], [0, 1, 2, 3, 4, 5, 6, 7, 8, 9, 10, 11, 12], [0, 1], [0, 1, 2, 3, 4, 5, 6, 7, 8, 9, 10, 11, 12, 13, 14], [0, 1, 2, 3, 4, 5, 6, 7, 8, 9, 10, 11, 12, 13, 14, 15], [0, 1, 2, 3, 4, 5, 6, 7, 8, 9, 10, 11, 12, 13, 14, 15, 16]] 1 rfl (by simp) (by decide +kernel) (by simp) ?_)
        intro O A K hO hA hK; simp only [atL_cons, atL_nil, Nat.reduceAdd, Nat.zero_add] at hO hA
        refine SE_ ?_
        refine hK _ ?_; clear hK K hO hA O A
        refine S_ ?_
        refine wpM_regionK [3, 4, 5, 6, 7, 8, 10, 11, 12, 13, 14] rfl ?_; intro Q1 hQ1
        refine S_ ?_
        refine hQ1 _ _ ?_; clear hQ1 Q1
        refine S_ ?_
        rw [and_not_ne, ← hts]
        refine .of' _ _ ⟨n2 - 1, by omega, i2 + 1, _, by omega, ?_, ?_, rfl⟩ ?_ ?_ ?_
        · first | omega | (simp -implicitDefEqProofs (disch := omega) only [go_sem]; done) | (simp -implicitDefEqProofs (disch := omega) only [go_sem]; omega)
        · first | trivial | omega
        all_goals (first | (simp -implicitDefEqProofs (disch := omega) only [go_sem, PV.int.injEq, Int.natCast_add, Int.natCast_one, Int.natCast_zero, true_or, le_yes]; done) | rfl | trivial | (simp -implicitDefEqProofs (disch := omega) only [go_sem, PV.int.injEq, Int.natCast_add, Int.natCast_one, Int.natCast_zero, true_or]; simp; done) | (simp; done))
      refine wpM_exit ?_
      refine S_ ?_
      refine wpM_regionK [3, 4, 5, 6, 7, 8, 10, 11, 12, 13] rfl ?_; intro Q1 hQ1
      refine S_ ?_
      refine hQ1 _ _ ?_; clear hQ1 Q1
      refine S_ ?_
      have hie2 : i2 = (c.ts.getD ((fires m c k.on).getD i1 0).toNat default).fr.length := by omega
      rw [hie2, List.take_length, and_not_not, ← hWs]
      refine .of' _ _ ⟨n1 - 1, by omega, i1 + 1, _, by omega, ?_, ?_, rfl⟩ ?_ ?_ ?_
      · first | omega | (simp -implicitDefEqProofs (disch := omega) only [go_sem]; done) | (simp -implicitDefEqProofs (disch := omega) only [go_sem]; omega)
      · first | trivial | omega
      all_goals (first | (simp -implicitDefEqProofs (disch := omega) only [go_sem, PV.int.injEq, Int.natCast_add, Int.natCast_one, Int.natCast_zero, true_or, le_yes]; done) | rfl | trivial | (simp -implicitDefEqProofs (disch := omega) only [go_sem, PV.int.injEq, Int.natCast_add, Int.natCast_one, Int.natCast_zero, true_or]; simp; done) | (simp; done))
    refine wpM_exit ?_
    refine S_ ?_
    refine wpM_seq ?_
    refine wpM_seq ?_
    have hie1 : i1 = (fires m c k.on).length := by omega
    rw [hie1]
    refine wpM_regionK [3, 4, 5, 6, 7, 8, 10, 11, 12, 15] rfl ?_; intro Q1 hQ1
    refine S_ ?_
    refine hQ1 _ _ ?_; clear hQ1 Q1
    refine S_ ?_
    refine wpM_block ?_
    refine wpM_loopS (fun s n s' => ∃ (i3 M3 : Nat) , i3 + n = (fires m c k.on).length ∧ s.M ≤ M3 ∧ (Tr i3) ∧ s' = { s with env := setE 15 (.int .i64 (i3 : Nat)) (setE 12 (.bool ((k.on.getD i0 false && !(WF Trn.fr c (fires m c k.on) i0 (fires m c k.on).length)) || WF Trn.to' c (fires m c k.on) i0 i3)) s.env), M := M3 }) ((fires m c k.on).length) ?_ ?_
    ·
      refine .of' _ _ ⟨0, _, by omega, Nat.le_refl _, trivial, rfl⟩ ?_ ?_ ?_ <;> (first | (simp -implicitDefEqProofs (disch := omega) only [go_sem, PV.int.injEq, Int.natCast_add, Int.natCast_one, Int.natCast_zero, true_or, le_yes]; done) | rfl | trivial | (simp -implicitDefEqProofs (disch := omega) only [go_sem, PV.int.injEq, Int.natCast_add, Int.natCast_one, Int.natCast_zero, true_or]; simp; done) | (simp; done))
    rintro n3 s' ⟨i3, M3, hi3, hM3, hv3, rfl⟩
    try dsimp only at hM3
    try refine S_ ?_
    refine wpM_seq ?_
    refine wpM_seq ?_
    refine wpM_regionK [3, 4, 5, 6, 7, 8, 10, 11, 12, 15, 128] rfl ?_; intro Q1 hQ1
    refine S_ ?_
    refine hQ1 _ _ ?_; clear hQ1 Q1
    refine S_ ?_
    refine wpM_condK ?_
    refine S_ ?_
    refine ⟨fun hc6 => ?_, fun hc6 => ?_⟩
    ·
      have hl3 : i3 < (fires m c k.on).length := by omega
      have hf3 := hfs i3 hl3
      have hw3 : (c.ts.getD ((fires m c k.on).getD i3 0).toNat default).Sm := hcs.t _ (by omega)
      have hw4 := hw3.to'
      have hWs3 := WF_succ Trn.to' c (fires m c k.on) i0 i3 hl3
      refine wpM_skip ?_
      refine S_ ?_
      refine wpM_seq ?_
      refine wpM_block ?_
      refine wpM_seq ?_
      refine wpM_regionK [3, 4, 5, 6, 7, 8, 10, 11, 12, 15, 16] rfl ?_; intro Q1 hQ1
      refine S_ ?_
      refine hQ1 _ _ ?_; clear hQ1 Q1
      refine S_ ?_
      refine wpM_block ?_
      refine wpM_loopS (fun s n s' => ∃ (i4 M4 : Nat) , i4 + n = (c.ts.getD ((fires m c k.on).getD i3 0).toNat default).to'.length ∧ s.M ≤ M4 ∧ (Tr i4) ∧ s' = { s with env := setE 16 (.int .i64 (i4 : Nat)) (setE 12 (.bool (((k.on.getD i0 false && !(WF Trn.fr c (fires m c k.on) i0 (fires m c k.on).length)) || WF Trn.to' c (fires m c k.on) i0 i3) || ((c.ts.getD ((fires m c k.on).getD i3 0).toNat default).to'.take i4).any fun x => x == (i0 : Int))) s.env), M := M4 }) ((c.ts.getD ((fires m c k.on).getD i3 0).toNat default).to'.length) ?_ ?_
      ·
        refine .of' _ _ ⟨0, _, by omega, Nat.le_refl _, trivial, rfl⟩ ?_ ?_ ?_ <;> (first | (simp -implicitDefEqProofs (disch := omega) only [go_sem, PV.int.injEq, Int.natCast_add, Int.natCast_one, Int.natCast_zero, true_or, le_yes]; done) | rfl | trivial | (simp -implicitDefEqProofs (disch := omega) only [go_sem, PV.int.injEq, Int.natCast_add, Int.natCast_one, Int.natCast_zero, true_or]; simp; done) | (simp; done))
      rintro n4 s' ⟨i4, M4, hi4, hM4, hv4, rfl⟩
      try dsimp only at hM4
      try refine S_ ?_
      refine wpM_seq ?_
      refine wpM_seq ?_
      refine wpM_keep [3, 4, 5, 6, 7, 8, 10, 11, 12, 15, 16, 142] (wpM_dr mixed 0 1 [B] [⟨[16], [], [], [], false⟩, ⟨[3], [], [], [], false⟩, ⟨[132], [0], [], [], false⟩, ⟨[10], [], [], [], false⟩, ⟨[15], [], [], [], false⟩, ⟨[134, 135], [], [], [], false⟩, ⟨[136], [], [], [], false⟩, ⟨[133, 137], [], [], [], false⟩, ⟨[138], [], [], [], false⟩, ⟨[139], [], [], [], false⟩, ⟨[140], [], [], [], false⟩, ⟨[131, 141], [], [], [], false⟩] [0, 1, 2, 3, 4, 5, 6, 7, 8, 9, 10, 11] [[], [], [1], [], [], [3, 4], [3, 4, 5], [1, 2, 3, 4, 5, 6], [1, 2, 3, 4, 5, 6, 7], [1, 2, 3, 4, 5, 6, 7, 8], [1, 2, 3, 4, 5, 6, 7, 8, 9], [0, 1, 2, 3, 4, 5, 6, 7, 8, 9, 10]] 1 rfl (by simp) (by decide +kernel) (by simp) ?_)
      intro O A K hO hA hK; simp only [atL_cons, atL_nil, Nat.reduceAdd, Nat.zero_add] at hO hA
      refine SO_ ?_
      refine hK _ ?_; clear hK K hO hA O A
      refine S_ ?_
      refine wpM_condK ?_
      refine S_ ?_
      refine ⟨fun hc7 => ?_, fun hc7 => ?_⟩
      ·
        have hl4 : i4 < (c.ts.getD ((fires m c k.on).getD i3 0).toNat default).to'.length := by omega
        have hts4 : ((c.ts.getD ((fires m c k.on).getD i3 0).toNat default).to'.take (i4 + 1)).any (fun x => x == (i0 : Int)) = (((c.ts.getD ((fires m c k.on).getD i3 0).toNat default).to'.take i4).any (fun x => x == (i0 : Int)) || ((c.ts.getD ((fires m c k.on).getD i3 0).toNat default).to'.getD i4 0 == (i0 : Int))) := take_any' _ _ _ _ hl4
        refine wpM_skip ?_
        refine S_ ?_
        refine wpM_seq ?_
        refine wpM_block ?_
        refine wpM_keep [3, 4, 5, 6, 7, 8, 10, 11, 12, 15, 16] (wpM_dr mixed 0 1 [B] [⟨[12], [], [], [], false⟩, ⟨[145], [], [], [], false⟩, ⟨[3, 146], [], [], [], false⟩, ⟨[146, 147], [0], [], [], false⟩, ⟨[10, 146], [], [], [], false⟩, ⟨[15, 146], [], [], [], false⟩, ⟨[146, 149, 150], [], [], [], false⟩, ⟨[146, 151], [], [], [], false⟩, ⟨[146, 148, 152], [], [], [], false⟩, ⟨[146, 153], [], [], [], false⟩, ⟨[146, 154], [], [], [], false⟩, ⟨[16, 146], [], [], [], false⟩, ⟨[146, 155, 156], [], [], [], false⟩, ⟨[146, 157], [], [], [], false⟩, ⟨[11, 146], [], [], [], false⟩, ⟨[146, 158, 159], [], [], [], false⟩, ⟨[146, 160], [], [], [], false⟩, ⟨[161], [], [], [], false⟩] [0, 1, 2, 3, 4, 5, 6, 7, 8, 9, 10, 11, 12, 13, 14, 15, 16, 17] [[], [0], [0, 1], [0, 1, 2], [0, 1], [0, 1], [0, 1, 4, 5], [0, 1, 4, 5, 6], [0, 1, 2, 3, 4, 5, 6, 7], [0, 1, 2, 3, 4, 5, 6, 7, 8], [0, 1, 2, 3, 4, 5, 6, 7, 8, 9], [0, 1], [0, 1, 2, 3, 4, 5, 6, 7, 8, 9, 10, 11], [0, 1, 2, 3, 4, 5, 6, 7, 8, 9, 10, 11, 12], [0, 1], [0, 1, 2, 3, 4, 5, 6, 7, 8, 9, 10, 11, 12, 13, 14], [0, 1, 2, 3, 4, 5, 6, 7, 8, 9, 10, 11, 12, 13, 14, 15], [0, 1, 2, 3, 4, 5, 6, 7, 8, 9, 10, 11, 12, 13, 14, 15, 16]] 1 rfl (by simp) (by decide +kernel) (by simp) ?_)
        intro O A K hO hA hK; simp only [atL_cons, atL_nil, Nat.reduceAdd, Nat.zero_add] at hO hA
        refine SE_ ?_
        refine hK _ ?_; clear hK K hO hA O A
        refine S_ ?_
        refine wpM_regionK [3, 4, 5, 6, 7, 8, 10, 11, 12, 15, 16] rfl ?_; intro Q1 hQ1
        refine S_ ?_
        refine hQ1 _ _ ?_; clear hQ1 Q1
        refine S_ ?_
        rw [Bool.or_assoc, ← hts4]
        refine .of' _ _ ⟨n4 - 1, by omega, i4 + 1, _, by omega, ?_, ?_, rfl⟩ ?_ ?_ ?_
        · first | omega | (simp -implicitDefEqProofs (disch := omega) only [go_sem]; done) | (simp -implicitDefEqProofs (disch := omega) only [go_sem]; omega)
        · first | trivial | omega
        all_goals (first | (simp -implicitDefEqProofs (disch := omega) only [go_sem, PV.int.injEq, Int.natCast_add, Int.natCast_one, Int.natCast_zero, true_or, le_yes]; done) | rfl | trivial | (simp -implicitDefEqProofs (disch := omega) only [go_sem, PV.int.injEq, Int.natCast_add, Int.natCast_one, Int.natCast_zero, true_or]; simp; done) | (simp; done))
      refine wpM_exit ?_
      refine S_ ?_
      refine wpM_regionK [3, 4, 5, 6, 7, 8, 10, 11, 12, 15] rfl ?_; intro Q1 hQ1
      refine S_ ?_
      refine hQ1 _ _ ?_; clear hQ1 Q1
      refine S_ ?_
      have hie4 : i4 = (c.ts.getD ((fires m c k.on).getD i3 0).toNat default).to'.length := by omega
      rw [hie4, List.take_length, Bool.or_assoc, ← hWs3]
      refine .of' _ _ ⟨n3 - 1, by omega, i3 + 1, _, by omega, ?_, ?_, rfl⟩ ?_ ?_ ?_
      · first | omega | (simp -implicitDefEqProofs (disch := omega) only [go_sem]; done) | (simp -implicitDefEqProofs (disch := omega) only [go_sem]; omega)
      · first | trivial | omega
      all_goals (first | (simp -implicitDefEqProofs (disch := omega) only [go_sem, PV.int.injEq, Int.natCast_add, Int.natCast_one, Int.natCast_zero, true_or, le_yes]; done) | rfl | trivial | (simp -implicitDefEqProofs (disch := omega) only [go_sem, PV.int.injEq, Int.natCast_add, Int.natCast_one, Int.natCast_zero, true_or]; simp; done) | (simp; done))
    refine wpM_exit ?_
    refine S_ ?_
    refine wpM_seq ?_
    have hie3 : i3 = (fires m c k.on).length := by omega
    have hlaw := on_law hok1 (m := m) (k := k) (by omega) i0 hon0
    rw [← hSe] at hlaw
    rw [hie3, ← hlaw]
    refine wpM_regionK [3, 4, 5, 6, 7, 8, 10, 11, 177] rfl ?_; intro Q1 hQ1
    simp (contextual := true) (maxSteps := 1000000) (implicitDefEqProofs := false) (disch := first | omega | (simp only [decide_eq_true_eq, decide_eq_false_iff_not, Bool.and_eq_true, Bool.or_eq_false_iff, Bool.not_eq_true'] at *; omega)) only [go_sem, bne_self_eq_false]
    refine hQ1 _ _ ?_; clear hQ1 Q1
    refine S_ ?_
    refine wpM_condK ?_
    refine S_ ?_
    refine wpM_skip ?_
    refine S_ ?_
    refine wpM_regionK [3, 4, 5, 6, 7, 8, 10, 11] rfl ?_; intro Q1 hQ1
    refine S_ ?_
    refine hQ1 _ _ ?_; clear hQ1 Q1
    refine S_ ?_
    refine .of' _ _ ⟨n0 - 1, by omega, i0 + 1, _, by omega, ?_, ?_, rfl⟩ ?_ ?_ ?_
    · first | omega | (simp -implicitDefEqProofs (disch := omega) only [go_sem]; done) | (simp -implicitDefEqProofs (disch := omega) only [go_sem]; omega)
    · first | trivial | omega
    all_goals (first | (simp -implicitDefEqProofs (disch := omega) only [go_sem, PV.int.injEq, Int.natCast_add, Int.natCast_one, Int.natCast_zero, true_or, le_yes]; done) | rfl | trivial | (simp -implicitDefEqProofs (disch := omega) only [go_sem, PV.int.injEq, Int.natCast_add, Int.natCast_one, Int.natCast_zero, true_or]; simp; done) | (simp; done))
  refine wpM_exit ?_
  refine S_ ?_
  refine wpM_seq ?_
  refine wpM_seq ?_
  refine wpM_regionK [3, 4, 5, 6, 7, 8, 17] rfl ?_; intro Q1 hQ1
  refine S_ ?_
  refine hQ1 _ _ ?_; clear hQ1 Q1
  refine S_ ?_
  refine wpM_block ?_
  refine wpM_loopS (fun s n s' => ∃ (i5 M5 : Nat) , i5 + n = 6 ∧ s.M ≤ M5 ∧ (Tr i5) ∧ s' = { s with env := setE 17 (.int .i64 (i5 : Nat)) s.env, M := M5 }) (6) ?_ ?_
  ·
    refine .of' _ _ ⟨0, _, by omega, Nat.le_refl _, trivial, rfl⟩ ?_ ?_ ?_ <;> (first | (simp -implicitDefEqProofs (disch := omega) only [go_sem, PV.int.injEq, Int.natCast_add, Int.natCast_one, Int.natCast_zero, true_or, le_yes]; done) | rfl | trivial | (simp -implicitDefEqProofs (disch := omega) only [go_sem, PV.int.injEq, Int.natCast_add, Int.natCast_one, Int.natCast_zero, true_or]; simp; done) | (simp; done))
  rintro n5 s' ⟨i5, M5, hi5, hM5, hv5, rfl⟩
  try dsimp only at hM5
  try refine S_ ?_
  refine wpM_seq ?_
  refine wpM_seq ?_
  refine wpM_regionK [3, 4, 5, 6, 7, 8, 17, 179] rfl ?_; intro Q1 hQ1
  refine S_ ?_
  refine hQ1 _ _ ?_; clear hQ1 Q1
  refine S_ ?_
  refine wpM_condK ?_
  refine S_ ?_
  refine ⟨fun hc9 => ?_, fun hc9 => ?_⟩
  ·
    have hl5 : i5 < 6 := by omega
    refine wpM_skip ?_
    refine S_ ?_
    refine wpM_seq ?_
    refine wpM_block ?_
    refine wpM_seq ?_
    refine wpM_regionK [3, 4, 5, 6, 7, 8, 17, 18] rfl ?_; intro Q1 hQ1
    refine S_ ?_
    refine hQ1 _ _ ?_; clear hQ1 Q1
    refine S_ ?_
    refine wpM_seq ?_
    refine wpM_seq ?_
    refine wpM_regionK [3, 4, 5, 6, 7, 8, 17, 18, 19] rfl ?_; intro Q1 hQ1
    refine S_ ?_
    refine hQ1 _ _ ?_; clear hQ1 Q1
    refine S_ ?_
    refine wpM_block ?_
    refine wpM_loopS (fun s n s' => ∃ (i6 M6 : Nat) , i6 + n = c.as'.length ∧ s.M ≤ M6 ∧ (Tr i6) ∧ s' = { s with env := setE 19 (.int .i64 (i6 : Nat)) (setE 18 (.bool ((c.as'.take i6).any fun a => a.to'.at' == (i5 : Int))) s.env), M := M6 }) (c.as'.length) ?_ ?_
    ·
      refine .of' _ _ ⟨0, _, by omega, Nat.le_refl _, trivial, rfl⟩ ?_ ?_ ?_ <;> (first | (simp -implicitDefEqProofs (disch := omega) only [go_sem, PV.int.injEq, Int.natCast_add, Int.natCast_one, Int.natCast_zero, true_or, le_yes]; done) | rfl | trivial | (simp -implicitDefEqProofs (disch := omega) only [go_sem, PV.int.injEq, Int.natCast_add, Int.natCast_one, Int.natCast_zero, true_or]; simp; done) | (simp; done))
    rintro n6 s' ⟨i6, M6, hi6, hM6, hv6, rfl⟩
    try dsimp only at hM6
    try refine S_ ?_
    refine wpM_seq ?_
    refine wpM_seq ?_
    refine wpM_regionK [3, 4, 5, 6, 7, 8, 17, 18, 19, 186] rfl ?_; intro Q1 hQ1
    refine S_ ?_
    refine hQ1 _ _ ?_; clear hQ1 Q1
    refine S_ ?_
    refine wpM_condK ?_
    refine S_ ?_
    refine ⟨fun hc10 => ?_, fun hc10 => ?_⟩
    ·
      have hl6 : i6 < c.as'.length := by omega
      have ha := hact _ (getD_mem hl6)
      have hst5 : (c.as'.getD i6 default).step < (S.1.on.length : Int) := by omega
      have e6 : (c.as'.take (i6 + 1)).any (fun a => a.to'.at' == (i5 : Int)) = ((c.as'.take i6).any (fun a => a.to'.at' == (i5 : Int)) || ((c.as'.getD i6 default).to'.at' == (i5 : Int))) := take_any _ _ _ hl6
      have hso := hS6.o
      refine wpM_skip ?_
      refine S_ ?_
      refine wpM_seq ?_
      refine wpM_block ?_
      refine wpM_seq ?_
      refine wpM_regionK [3, 4, 5, 6, 7, 8, 17, 18, 19] rfl ?_; intro Q1 hQ1
      refine SD_ ?_
      refine hQ1 _ _ ?_; clear hQ1 Q1
      refine S_ ?_
      refine wpM_seq ?_
      refine wpM_keep [3, 4, 5, 6, 7, 8, 17, 18, 19, 238] (wpM_dr mixed 0 3 [B, B + 3, B + 4] [⟨[3], [], [], [], false⟩, ⟨[201], [0], [], [], false⟩, ⟨[19], [], [], [], false⟩, ⟨[202, 203], [], [], [], false⟩, ⟨[204], [], [], [], false⟩, ⟨[205], [], [], [], false⟩, ⟨[206], [], [], [], false⟩, ⟨[17], [], [], [], false⟩, ⟨[207, 208], [], [], [], false⟩, ⟨[209], [], [], [], false⟩, ⟨[3, 210], [], [], [], false⟩, ⟨[210, 211], [0], [], [], false⟩, ⟨[19, 210], [], [], [], false⟩, ⟨[210, 212, 213], [], [], [], false⟩, ⟨[210, 214], [], [], [], false⟩, ⟨[210, 215], [], [], [], false⟩, ⟨[210, 216], [], [], [], false⟩, ⟨[210, 217], [], [], [], false⟩, ⟨[218], [], [], [], false⟩, ⟨[6, 219], [], [], [], false⟩, ⟨[219, 220], [1], [], [], false⟩, ⟨[3, 219], [], [], [], false⟩, ⟨[219, 222], [0], [], [], false⟩, ⟨[19, 219], [], [], [], false⟩, ⟨[219, 223, 224], [], [], [], false⟩, ⟨[219, 225], [], [], [], false⟩, ⟨[219, 226], [], [], [], false⟩, ⟨[219, 221, 227], [], [], [], false⟩, ⟨[219, 228], [], [], [], false⟩, ⟨[219, 229], [], [], [], false⟩, ⟨[230], [], [], [], false⟩, ⟨[7, 231], [], [], [], false⟩, ⟨[231, 232], [2], [], [], false⟩, ⟨[17, 231], [], [], [], false⟩, ⟨[231, 233, 234], [], [], [], false⟩, ⟨[231, 235], [], [], [], false⟩, ⟨[231, 236], [], [], [], false⟩, ⟨[231, 237], [], [], [], false⟩] [0, 1, 2, 3, 4, 5, 6, 7, 8, 9, 10, 11, 12, 13, 14, 15, 16, 17, 18, 19, 20, 21, 22, 23, 24, 25, 26, 27, 28, 29, 30, 31, 32, 33, 34, 35, 36, 37] [[], [0], [], [0, 1, 2], [0, 1, 2, 3], [0, 1, 2, 3, 4], [0, 1, 2, 3, 4, 5], [], [0, 1, 2, 3, 4, 5, 6, 7], [0, 1, 2, 3, 4, 5, 6, 7, 8], [0, 1, 2, 3, 4, 5, 6, 7, 8, 9], [0, 1, 2, 3, 4, 5, 6, 7, 8, 9, 10], [0, 1, 2, 3, 4, 5, 6, 7, 8, 9], [0, 1, 2, 3, 4, 5, 6, 7, 8, 9, 10, 11, 12], [0, 1, 2, 3, 4, 5, 6, 7, 8, 9, 10, 11, 12, 13], [0, 1, 2, 3, 4, 5, 6, 7, 8, 9, 10, 11, 12, 13, 14], [0, 1, 2, 3, 4, 5, 6, 7, 8, 9, 10, 11, 12, 13, 14, 15], [0, 1, 2, 3, 4, 5, 6, 7, 8, 9, 10, 11, 12, 13, 14, 15, 16], [0, 1, 2, 3, 4, 5, 6, 7, 8, 9, 10, 11, 12, 13, 14, 15, 16, 17], [0, 1, 2, 3, 4, 5, 6, 7, 8, 9, 10, 11, 12, 13, 14, 15, 16, 17, 18], [0, 1, 2, 3, 4, 5, 6, 7, 8, 9, 10, 11, 12, 13, 14, 15, 16, 17, 18, 19], [0, 1, 2, 3, 4, 5, 6, 7, 8, 9, 10, 11, 12, 13, 14, 15, 16, 17, 18], [0, 1, 2, 3, 4, 5, 6, 7, 8, 9, 10, 11, 12, 13, 14, 15, 16, 17, 18, 21], [0, 1, 2, 3, 4, 5, 6, 7, 8, 9, 10, 11, 12, 13, 14, 15, 16, 17, 18], [0, 1, 2, 3, 4, 5, 6, 7, 8, 9, 10, 11, 12, 13, 14, 15, 16, 17, 18, 21, 22, 23], [0, 1, 2, 3, 4, 5, 6, 7, 8, 9, 10, 11, 12, 13, 14, 15, 16, 17, 18, 21, 22, 23, 24], [0, 1, 2, 3, 4, 5, 6, 7, 8, 9, 10, 11, 12, 13, 14, 15, 16, 17, 18, 21, 22, 23, 24, 25], [0, 1, 2, 3, 4, 5, 6, 7, 8, 9, 10, 11, 12, 13, 14, 15, 16, 17, 18, 19, 20, 21, 22, 23, 24, 25, 26], [0, 1, 2, 3, 4, 5, 6, 7, 8, 9, 10, 11, 12, 13, 14, 15, 16, 17, 18, 19, 20, 21, 22, 23, 24, 25, 26, 27], [0, 1, 2, 3, 4, 5, 6, 7, 8, 9, 10, 11, 12, 13, 14, 15, 16, 17, 18, 19, 20, 21, 22, 23, 24, 25, 26, 27, 28], [0, 1, 2, 3, 4, 5, 6, 7, 8, 9, 10, 11, 12, 13, 14, 15, 16, 17, 18, 19, 20, 21, 22, 23, 24, 25, 26, 27, 28, 29], [0, 1, 2, 3, 4, 5, 6, 7, 8, 9, 10, 11, 12, 13, 14, 15, 16, 17, 18, 19, 20, 21, 22, 23, 24, 25, 26, 27, 28, 29, 30], [0, 1, 2, 3, 4, 5, 6, 7, 8, 9, 10, 11, 12, 13, 14, 15, 16, 17, 18, 19, 20, 21, 22, 23, 24, 25, 26, 27, 28, 29, 30, 31], [0, 1, 2, 3, 4, 5, 6, 7, 8, 9, 10, 11, 12, 13, 14, 15, 16, 17, 18, 19, 20, 21, 22, 23, 24, 25, 26, 27, 28, 29, 30], [0, 1, 2, 3, 4, 5, 6, 7, 8, 9, 10, 11, 12, 13, 14, 15, 16, 17, 18, 19, 20, 21, 22, 23, 24, 25, 26, 27, 28, 29, 30, 31, 32, 33], [0, 1, 2, 3, 4, 5, 6, 7, 8, 9, 10, 11, 12, 13, 14, 15, 16, 17, 18, 19, 20, 21, 22, 23, 24, 25, 26, 27, 28, 29, 30, 31, 32, 33, 34], [0, 1, 2, 3, 4, 5, 6, 7, 8, 9, 10, 11, 12, 13, 14, 15, 16, 17, 18, 19, 20, 21, 22, 23, 24, 25, 26, 27, 28, 29, 30, 31, 32, 33, 34, 35], [0, 1, 2, 3, 4, 5, 6, 7, 8, 9, 10, 11, 12, 13, 14, 15, 16, 17, 18, 19, 20, 21, 22, 23, 24, 25, 26, 27, 28, 29, 30, 31, 32, 33, 34, 35, 36]] 3 rfl (by simp) (by decide +kernel) (by simp) ?_)
      intro O A K hO hA hK; simp only [atL_cons, atL_nil, Nat.reduceAdd, Nat.zero_add] at hO hA
      refine SE_ ?_
      refine hK _ ?_; clear hK K hO hA O A
      refine S_ ?_
      refine wpM_condK ?_
      refine S_ ?_
      refine ⟨fun hc11 => ?_, fun hc11 => ?_⟩
      · exact (by simp only [Bool.and_eq_true, bne_iff_ne] at hc11; rw [hSe] at hc11; exact absurd (with_law hok1 hsix (getD_mem hl6) i5 hc11.1.1.1 hc11.1.1.2 hc11.1.2) hc11.2)
      refine wpM_skip ?_
      refine S_ ?_
      refine wpM_regionK [3, 4, 5, 6, 7, 8, 17, 18, 19] rfl ?_; intro Q1 hQ1
      refine S_ ?_
      refine hQ1 _ _ ?_; clear hQ1 Q1
      refine S_ ?_
      rw [← e6]
      refine .of' _ _ ⟨n6 - 1, by omega, i6 + 1, _, by omega, ?_, ?_, rfl⟩ ?_ ?_ ?_
      · first | omega | (simp -implicitDefEqProofs (disch := omega) only [go_sem]; done) | (simp -implicitDefEqProofs (disch := omega) only [go_sem]; omega)
      · first | trivial | omega
      all_goals (first | (simp -implicitDefEqProofs (disch := omega) only [go_sem, PV.int.injEq, Int.natCast_add, Int.natCast_one, Int.natCast_zero, true_or, le_yes]; done) | rfl | trivial | (simp -implicitDefEqProofs (disch := omega) only [go_sem, PV.int.injEq, Int.natCast_add, Int.natCast_one, Int.natCast_zero, true_or]; simp; done) | (simp; done))
    refine wpM_exit ?_
    refine S_ ?_
    refine wpM_seq ?_
    have hie6 : i6 = c.as'.length := by omega
    rw [hie6, List.take_length]
    have hso := hS6.o
    have hsi := hS6.i
    have hsv := hS6.v
    have hmo := hsix.o
    have hmi := hsix.i
    have hmv := hsix.v
    refine wpM_keep [3, 4, 5, 6, 7, 8, 17, 323] (wpM_dr mixed 0 5 [B + 3, B + 5, B + 4, B + 2, B + 1] [⟨[6], [], [], [], false⟩, ⟨[239], [0], [], [], false⟩, ⟨[17], [], [], [], false⟩, ⟨[240, 241], [], [], [], false⟩, ⟨[242], [], [], [], false⟩, ⟨[8], [], [], [], false⟩, ⟨[244], [1], [], [], false⟩, ⟨[17], [], [], [], false⟩, ⟨[245, 246], [], [], [], false⟩, ⟨[247], [], [], [], false⟩, ⟨[243, 248], [], [], [], false⟩, ⟨[249], [], [], [], false⟩, ⟨[18, 250], [], [], [], false⟩, ⟨[250, 251], [], [], [], false⟩, ⟨[250, 252], [], [], [], false⟩, ⟨[7, 253], [], [], [], false⟩, ⟨[253, 254], [2], [], [], false⟩, ⟨[17, 253], [], [], [], false⟩, ⟨[253, 255, 256], [], [], [], false⟩, ⟨[253, 257], [], [], [], false⟩, ⟨[5, 253], [], [], [], false⟩, ⟨[253, 259], [3], [], [], false⟩, ⟨[17, 253], [], [], [], false⟩, ⟨[253, 260, 261], [], [], [], false⟩, ⟨[253, 262], [], [], [], false⟩, ⟨[253, 258, 263], [], [], [], false⟩, ⟨[253, 264], [], [], [], false⟩, ⟨[6, 265], [], [], [], false⟩, ⟨[265, 266], [0], [], [], false⟩, ⟨[17, 265], [], [], [], false⟩, ⟨[265, 267, 268], [], [], [], false⟩, ⟨[265, 269], [], [], [], false⟩, ⟨[4, 265], [], [], [], false⟩, ⟨[265, 271], [4], [], [], false⟩, ⟨[17, 265], [], [], [], false⟩, ⟨[265, 272, 273], [], [], [], false⟩, ⟨[265, 274], [], [], [], false⟩, ⟨[265, 270, 275], [], [], [], false⟩, ⟨[253, 265, 276], [], [], [], false⟩, ⟨[250, 253, 277], [], [], [], false⟩, ⟨[250, 278], [], [], [], false⟩, ⟨[279], [], [], [], false⟩, ⟨[18, 280], [], [], [], false⟩, ⟨[280, 281], [], [], [], false⟩, ⟨[6, 282], [], [], [], false⟩, ⟨[282, 283], [0], [], [], false⟩, ⟨[17, 282], [], [], [], false⟩, ⟨[282, 284, 285], [], [], [], false⟩, ⟨[282, 286], [], [], [], false⟩, ⟨[280, 282, 287], [], [], [], false⟩, ⟨[280, 288], [], [], [], false⟩, ⟨[7, 289], [], [], [], false⟩, ⟨[289, 290], [2], [], [], false⟩, ⟨[17, 289], [], [], [], false⟩, ⟨[289, 291, 292], [], [], [], false⟩, ⟨[289, 293], [], [], [], false⟩, ⟨[289, 294], [], [], [], false⟩, ⟨[280, 289, 295], [], [], [], false⟩, ⟨[280, 296], [], [], [], false⟩, ⟨[297], [], [], [], false⟩, ⟨[7, 298], [], [], [], false⟩, ⟨[298, 299], [2], [], [], false⟩, ⟨[17, 298], [], [], [], false⟩, ⟨[298, 300, 301], [], [], [], false⟩, ⟨[298, 302], [], [], [], false⟩, ⟨[5, 298], [], [], [], false⟩, ⟨[298, 304], [3], [], [], false⟩, ⟨[17, 298], [], [], [], false⟩, ⟨[298, 305, 306], [], [], [], false⟩, ⟨[298, 307], [], [], [], false⟩, ⟨[298, 303, 308], [], [], [], false⟩, ⟨[298, 309], [], [], [], false⟩, ⟨[310], [], [], [], false⟩, ⟨[7, 311], [], [], [], false⟩, ⟨[311, 312], [2], [], [], false⟩, ⟨[17, 311], [], [], [], false⟩, ⟨[311, 313, 314], [], [], [], false⟩, ⟨[311, 315], [], [], [], false⟩, ⟨[5, 311], [], [], [], false⟩, ⟨[311, 317], [3], [], [], false⟩, ⟨[17, 311], [], [], [], false⟩, ⟨[311, 318, 319], [], [], [], false⟩, ⟨[311, 320], [], [], [], false⟩, ⟨[311, 316, 321], [], [], [], false⟩, ⟨[311, 322], [], [], [], false⟩] [0, 1, 2, 3, 4, 5, 6, 7, 8, 9, 10, 11, 12, 13, 14, 15, 16, 17, 18, 19, 20, 21, 22, 23, 24, 25, 26, 27, 28, 29, 30, 31, 32, 33, 34, 35, 36, 37, 38, 39, 40, 41, 42, 43, 44, 45, 46, 47, 48, 49, 50, 51, 52, 53, 54, 55, 56, 57, 58, 59, 60, 61, 62, 63, 64, 65, 66, 67, 68, 69, 70, 71, 72, 73, 74, 75, 76, 77, 78, 79, 80, 81, 82, 83, 84] [[], [0], [], [0, 1, 2], [0, 1, 2, 3], [], [5], [], [5, 6, 7], [5, 6, 7, 8], [0, 1, 2, 3, 4, 5, 6, 7, 8, 9], [0, 1, 2, 3, 4, 5, 6, 7, 8, 9, 10], [0, 1, 2, 3, 4, 5, 6, 7, 8, 9, 10, 11], [0, 1, 2, 3, 4, 5, 6, 7, 8, 9, 10, 11, 12], [0, 1, 2, 3, 4, 5, 6, 7, 8, 9, 10, 11, 12, 13], [0, 1, 2, 3, 4, 5, 6, 7, 8, 9, 10, 11, 12, 13, 14], [0, 1, 2, 3, 4, 5, 6, 7, 8, 9, 10, 11, 12, 13, 14, 15], [0, 1, 2, 3, 4, 5, 6, 7, 8, 9, 10, 11, 12, 13, 14], [0, 1, 2, 3, 4, 5, 6, 7, 8, 9, 10, 11, 12, 13, 14, 15, 16, 17], [0, 1, 2, 3, 4, 5, 6, 7, 8, 9, 10, 11, 12, 13, 14, 15, 16, 17, 18], [0, 1, 2, 3, 4, 5, 6, 7, 8, 9, 10, 11, 12, 13, 14], [0, 1, 2, 3, 4, 5, 6, 7, 8, 9, 10, 11, 12, 13, 14, 20], [0, 1, 2, 3, 4, 5, 6, 7, 8, 9, 10, 11, 12, 13, 14], [0, 1, 2, 3, 4, 5, 6, 7, 8, 9, 10, 11, 12, 13, 14, 20, 21, 22], [0, 1, 2, 3, 4, 5, 6, 7, 8, 9, 10, 11, 12, 13, 14, 20, 21, 22, 23], [0, 1, 2, 3, 4, 5, 6, 7, 8, 9, 10, 11, 12, 13, 14, 15, 16, 17, 18, 19, 20, 21, 22, 23, 24], [0, 1, 2, 3, 4, 5, 6, 7, 8, 9, 10, 11, 12, 13, 14, 15, 16, 17, 18, 19, 20, 21, 22, 23, 24, 25], [0, 1, 2, 3, 4, 5, 6, 7, 8, 9, 10, 11, 12, 13, 14, 15, 16, 17, 18, 19, 20, 21, 22, 23, 24, 25, 26], [0, 1, 2, 3, 4, 5, 6, 7, 8, 9, 10, 11, 12, 13, 14, 15, 16, 17, 18, 19, 20, 21, 22, 23, 24, 25, 26, 27], [0, 1, 2, 3, 4, 5, 6, 7, 8, 9, 10, 11, 12, 13, 14, 15, 16, 17, 18, 19, 20, 21, 22, 23, 24, 25, 26], [0, 1, 2, 3, 4, 5, 6, 7, 8, 9, 10, 11, 12, 13, 14, 15, 16, 17, 18, 19, 20, 21, 22, 23, 24, 25, 26, 27, 28, 29], [0, 1, 2, 3, 4, 5, 6, 7, 8, 9, 10, 11, 12, 13, 14, 15, 16, 17, 18, 19, 20, 21, 22, 23, 24, 25, 26, 27, 28, 29, 30], [0, 1, 2, 3, 4, 5, 6, 7, 8, 9, 10, 11, 12, 13, 14, 15, 16, 17, 18, 19, 20, 21, 22, 23, 24, 25, 26], [0, 1, 2, 3, 4, 5, 6, 7, 8, 9, 10, 11, 12, 13, 14, 15, 16, 17, 18, 19, 20, 21, 22, 23, 24, 25, 26, 32], [0, 1, 2, 3, 4, 5, 6, 7, 8, 9, 10, 11, 12, 13, 14, 15, 16, 17, 18, 19, 20, 21, 22, 23, 24, 25, 26], [0, 1, 2, 3, 4, 5, 6, 7, 8, 9, 10, 11, 12, 13, 14, 15, 16, 17, 18, 19, 20, 21, 22, 23, 24, 25, 26, 32, 33, 34], [0, 1, 2, 3, 4, 5, 6, 7, 8, 9, 10, 11, 12, 13, 14, 15, 16, 17, 18, 19, 20, 21, 22, 23, 24, 25, 26, 32, 33, 34, 35], [0, 1, 2, 3, 4, 5, 6, 7, 8, 9, 10, 11, 12, 13, 14, 15, 16, 17, 18, 19, 20, 21, 22, 23, 24, 25, 26, 27, 28, 29, 30, 31, 32, 33, 34, 35, 36], [0, 1, 2, 3, 4, 5, 6, 7, 8, 9, 10, 11, 12, 13, 14, 15, 16, 17, 18, 19, 20, 21, 22, 23, 24, 25, 26, 27, 28, 29, 30, 31, 32, 33, 34, 35, 36, 37], [0, 1, 2, 3, 4, 5, 6, 7, 8, 9, 10, 11, 12, 13, 14, 15, 16, 17, 18, 19, 20, 21, 22, 23, 24, 25, 26, 27, 28, 29, 30, 31, 32, 33, 34, 35, 36, 37, 38], [0, 1, 2, 3, 4, 5, 6, 7, 8, 9, 10, 11, 12, 13, 14, 15, 16, 17, 18, 19, 20, 21, 22, 23, 24, 25, 26, 27, 28, 29, 30, 31, 32, 33, 34, 35, 36, 37, 38, 39], [0, 1, 2, 3, 4, 5, 6, 7, 8, 9, 10, 11, 12, 13, 14, 15, 16, 17, 18, 19, 20, 21, 22, 23, 24, 25, 26, 27, 28, 29, 30, 31, 32, 33, 34, 35, 36, 37, 38, 39, 40], [0, 1, 2, 3, 4, 5, 6, 7, 8, 9, 10, 11, 12, 13, 14, 15, 16, 17, 18, 19, 20, 21, 22, 23, 24, 25, 26, 27, 28, 29, 30, 31, 32, 33, 34, 35, 36, 37, 38, 39, 40, 41], [0, 1, 2, 3, 4, 5, 6, 7, 8, 9, 10, 11, 12, 13, 14, 15, 16, 17, 18, 19, 20, 21, 22, 23, 24, 25, 26, 27, 28, 29, 30, 31, 32, 33, 34, 35, 36, 37, 38, 39, 40, 41, 42], [0, 1, 2, 3, 4, 5, 6, 7, 8, 9, 10, 11, 12, 13, 14, 15, 16, 17, 18, 19, 20, 21, 22, 23, 24, 25, 26, 27, 28, 29, 30, 31, 32, 33, 34, 35, 36, 37, 38, 39, 40, 41, 42, 43], [0, 1, 2, 3, 4, 5, 6, 7, 8, 9, 10, 11, 12, 13, 14, 15, 16, 17, 18, 19, 20, 21, 22, 23, 24, 25, 26, 27, 28, 29, 30, 31, 32, 33, 34, 35, 36, 37, 38, 39, 40, 41, 42, 43, 44], [0, 1, 2, 3, 4, 5, 6, 7, 8, 9, 10, 11, 12, 13, 14, 15, 16, 17, 18, 19, 20, 21, 22, 23, 24, 25, 26, 27, 28, 29, 30, 31, 32, 33, 34, 35, 36, 37, 38, 39, 40, 41, 42, 43], [0, 1, 2, 3, 4, 5, 6, 7, 8, 9, 10, 11, 12, 13, 14, 15, 16, 17, 18, 19, 20, 21, 22, 23, 24, 25, 26, 27, 28, 29, 30, 31, 32, 33, 34, 35, 36, 37, 38, 39, 40, 41, 42, 43, 44, 45, 46], [0, 1, 2, 3, 4, 5, 6, 7, 8, 9, 10, 11, 12, 13, 14, 15, 16, 17, 18, 19, 20, 21, 22, 23, 24, 25, 26, 27, 28, 29, 30, 31, 32, 33, 34, 35, 36, 37, 38, 39, 40, 41, 42, 43, 44, 45, 46, 47], [0, 1, 2, 3, 4, 5, 6, 7, 8, 9, 10, 11, 12, 13, 14, 15, 16, 17, 18, 19, 20, 21, 22, 23, 24, 25, 26, 27, 28, 29, 30, 31, 32, 33, 34, 35, 36, 37, 38, 39, 40, 41, 42, 43, 44, 45, 46, 47, 48], [0, 1, 2, 3, 4, 5, 6, 7, 8, 9, 10, 11, 12, 13, 14, 15, 16, 17, 18, 19, 20, 21, 22, 23, 24, 25, 26, 27, 28, 29, 30, 31, 32, 33, 34, 35, 36, 37, 38, 39, 40, 41, 42, 43, 44, 45, 46, 47, 48, 49], [0, 1, 2, 3, 4, 5, 6, 7, 8, 9, 10, 11, 12, 13, 14, 15, 16, 17, 18, 19, 20, 21, 22, 23, 24, 25, 26, 27, 28, 29, 30, 31, 32, 33, 34, 35, 36, 37, 38, 39, 40, 41, 42, 43, 44, 45, 46, 47, 48, 49, 50], [0, 1, 2, 3, 4, 5, 6, 7, 8, 9, 10, 11, 12, 13, 14, 15, 16, 17, 18, 19, 20, 21, 22, 23, 24, 25, 26, 27, 28, 29, 30, 31, 32, 33, 34, 35, 36, 37, 38, 39, 40, 41, 42, 43, 44, 45, 46, 47, 48, 49, 50, 51], [0, 1, 2, 3, 4, 5, 6, 7, 8, 9, 10, 11, 12, 13, 14, 15, 16, 17, 18, 19, 20, 21, 22, 23, 24, 25, 26, 27, 28, 29, 30, 31, 32, 33, 34, 35, 36, 37, 38, 39, 40, 41, 42, 43, 44, 45, 46, 47, 48, 49, 50], [0, 1, 2, 3, 4, 5, 6, 7, 8, 9, 10, 11, 12, 13, 14, 15, 16, 17, 18, 19, 20, 21, 22, 23, 24, 25, 26, 27, 28, 29, 30, 31, 32, 33, 34, 35, 36, 37, 38, 39, 40, 41, 42, 43, 44, 45, 46, 47, 48, 49, 50, 51, 52, 53], [0, 1, 2, 3, 4, 5, 6, 7, 8, 9, 10, 11, 12, 13, 14, 15, 16, 17, 18, 19, 20, 21, 22, 23, 24, 25, 26, 27, 28, 29, 30, 31, 32, 33, 34, 35, 36, 37, 38, 39, 40, 41, 42, 43, 44, 45, 46, 47, 48, 49, 50, 51, 52, 53, 54], [0, 1, 2, 3, 4, 5, 6, 7, 8, 9, 10, 11, 12, 13, 14, 15, 16, 17, 18, 19, 20, 21, 22, 23, 24, 25, 26, 27, 28, 29, 30, 31, 32, 33, 34, 35, 36, 37, 38, 39, 40, 41, 42, 43, 44, 45, 46, 47, 48, 49, 50, 51, 52, 53, 54, 55], [0, 1, 2, 3, 4, 5, 6, 7, 8, 9, 10, 11, 12, 13, 14, 15, 16, 17, 18, 19, 20, 21, 22, 23, 24, 25, 26, 27, 28, 29, 30, 31, 32, 33, 34, 35, 36, 37, 38, 39, 40, 41, 42, 43, 44, 45, 46, 47, 48, 49, 50, 51, 52, 53, 54, 55, 56], [0, 1, 2, 3, 4, 5, 6, 7, 8, 9, 10, 11, 12, 13, 14, 15, 16, 17, 18, 19, 20, 21, 22, 23, 24, 25, 26, 27, 28, 29, 30, 31, 32, 33, 34, 35, 36, 37, 38, 39, 40, 41, 42, 43, 44, 45, 46, 47, 48, 49, 50, 51, 52, 53, 54, 55, 56, 57], [0, 1, 2, 3, 4, 5, 6, 7, 8, 9, 10, 11, 12, 13, 14, 15, 16, 17, 18, 19, 20, 21, 22, 23, 24, 25, 26, 27, 28, 29, 30, 31, 32, 33, 34, 35, 36, 37, 38, 39, 40, 41, 42, 43, 44, 45, 46, 47, 48, 49, 50, 51, 52, 53, 54, 55, 56, 57, 58], [0, 1, 2, 3, 4, 5, 6, 7, 8, 9, 10, 11, 12, 13, 14, 15, 16, 17, 18, 19, 20, 21, 22, 23, 24, 25, 26, 27, 28, 29, 30, 31, 32, 33, 34, 35, 36, 37, 38, 39, 40, 41, 42, 43, 44, 45, 46, 47, 48, 49, 50, 51, 52, 53, 54, 55, 56, 57, 58, 59], [0, 1, 2, 3, 4, 5, 6, 7, 8, 9, 10, 11, 12, 13, 14, 15, 16, 17, 18, 19, 20, 21, 22, 23, 24, 25, 26, 27, 28, 29, 30, 31, 32, 33, 34, 35, 36, 37, 38, 39, 40, 41, 42, 43, 44, 45, 46, 47, 48, 49, 50, 51, 52, 53, 54, 55, 56, 57, 58, 59, 60], [0, 1, 2, 3, 4, 5, 6, 7, 8, 9, 10, 11, 12, 13, 14, 15, 16, 17, 18, 19, 20, 21, 22, 23, 24, 25, 26, 27, 28, 29, 30, 31, 32, 33, 34, 35, 36, 37, 38, 39, 40, 41, 42, 43, 44, 45, 46, 47, 48, 49, 50, 51, 52, 53, 54, 55, 56, 57, 58, 59], [0, 1, 2, 3, 4, 5, 6, 7, 8, 9, 10, 11, 12, 13, 14, 15, 16, 17, 18, 19, 20, 21, 22, 23, 24, 25, 26, 27, 28, 29, 30, 31, 32, 33, 34, 35, 36, 37, 38, 39, 40, 41, 42, 43, 44, 45, 46, 47, 48, 49, 50, 51, 52, 53, 54, 55, 56, 57, 58, 59, 60, 61, 62], [0, 1, 2, 3, 4, 5, 6, 7, 8, 9, 10, 11, 12, 13, 14, 15, 16, 17, 18, 19, 20, 21, 22, 23, 24, 25, 26, 27, 28, 29, 30, 31, 32, 33, 34, 35, 36, 37, 38, 39, 40, 41, 42, 43, 44, 45, 46, 47, 48, 49, 50, 51, 52, 53, 54, 55, 56, 57, 58, 59, 60, 61, 62, 63], [0, 1, 2, 3, 4, 5, 6, 7, 8, 9, 10, 11, 12, 13, 14, 15, 16, 17, 18, 19, 20, 21, 22, 23, 24, 25, 26, 27, 28, 29, 30, 31, 32, 33, 34, 35, 36, 37, 38, 39, 40, 41, 42, 43, 44, 45, 46, 47, 48, 49, 50, 51, 52, 53, 54, 55, 56, 57, 58, 59], [0, 1, 2, 3, 4, 5, 6, 7, 8, 9, 10, 11, 12, 13, 14, 15, 16, 17, 18, 19, 20, 21, 22, 23, 24, 25, 26, 27, 28, 29, 30, 31, 32, 33, 34, 35, 36, 37, 38, 39, 40, 41, 42, 43, 44, 45, 46, 47, 48, 49, 50, 51, 52, 53, 54, 55, 56, 57, 58, 59, 65], [0, 1, 2, 3, 4, 5, 6, 7, 8, 9, 10, 11, 12, 13, 14, 15, 16, 17, 18, 19, 20, 21, 22, 23, 24, 25, 26, 27, 28, 29, 30, 31, 32, 33, 34, 35, 36, 37, 38, 39, 40, 41, 42, 43, 44, 45, 46, 47, 48, 49, 50, 51, 52, 53, 54, 55, 56, 57, 58, 59], [0, 1, 2, 3, 4, 5, 6, 7, 8, 9, 10, 11, 12, 13, 14, 15, 16, 17, 18, 19, 20, 21, 22, 23, 24, 25, 26, 27, 28, 29, 30, 31, 32, 33, 34, 35, 36, 37, 38, 39, 40, 41, 42, 43, 44, 45, 46, 47, 48, 49, 50, 51, 52, 53, 54, 55, 56, 57, 58, 59, 65, 66, 67], [0, 1, 2, 3, 4, 5, 6, 7, 8, 9, 10, 11, 12, 13, 14, 15, 16, 17, 18, 19, 20, 21, 22, 23, 24, 25, 26, 27, 28, 29, 30, 31, 32, 33, 34, 35, 36, 37, 38, 39, 40, 41, 42, 43, 44, 45, 46, 47, 48, 49, 50, 51, 52, 53, 54, 55, 56, 57, 58, 59, 65, 66, 67, 68], [0, 1, 2, 3, 4, 5, 6, 7, 8, 9, 10, 11, 12, 13, 14, 15, 16, 17, 18, 19, 20, 21, 22, 23, 24, 25, 26, 27, 28, 29, 30, 31, 32, 33, 34, 35, 36, 37, 38, 39, 40, 41, 42, 43, 44, 45, 46, 47, 48, 49, 50, 51, 52, 53, 54, 55, 56, 57, 58, 59, 60, 61, 62, 63, 64, 65, 66, 67, 68, 69], [0, 1, 2, 3, 4, 5, 6, 7, 8, 9, 10, 11, 12, 13, 14, 15, 16, 17, 18, 19, 20, 21, 22, 23, 24, 25, 26, 27, 28, 29, 30, 31, 32, 33, 34, 35, 36, 37, 38, 39, 40, 41, 42, 43, 44, 45, 46, 47, 48, 49, 50, 51, 52, 53, 54, 55, 56, 57, 58, 59, 60, 61, 62, 63, 64, 65, 66, 67, 68, 69, 70], [0, 1, 2, 3, 4, 5, 6, 7, 8, 9, 10, 11, 12, 13, 14, 15, 16, 17, 18, 19, 20, 21, 22, 23, 24, 25, 26, 27, 28, 29, 30, 31, 32, 33, 34, 35, 36, 37, 38, 39, 40, 41, 42, 43, 44, 45, 46, 47, 48, 49, 50, 51, 52, 53, 54, 55, 56, 57, 58, 59, 60, 61, 62, 63, 64, 65, 66, 67, 68, 69, 70, 71], [0, 1, 2, 3, 4, 5, 6, 7, 8, 9, 10, 11, 12, 13, 14, 15, 16, 17, 18, 19, 20, 21, 22, 23, 24, 25, 26, 27, 28, 29, 30, 31, 32, 33, 34, 35, 36, 37, 38, 39, 40, 41, 42, 43, 44, 45, 46, 47, 48, 49, 50, 51, 52, 53, 54, 55, 56, 57, 58, 59, 60, 61, 62, 63, 64, 65, 66, 67, 68, 69, 70, 71, 72], [0, 1, 2, 3, 4, 5, 6, 7, 8, 9, 10, 11, 12, 13, 14, 15, 16, 17, 18, 19, 20, 21, 22, 23, 24, 25, 26, 27, 28, 29, 30, 31, 32, 33, 34, 35, 36, 37, 38, 39, 40, 41, 42, 43, 44, 45, 46, 47, 48, 49, 50, 51, 52, 53, 54, 55, 56, 57, 58, 59, 60, 61, 62, 63, 64, 65, 66, 67, 68, 69, 70, 71, 72, 73], [0, 1, 2, 3, 4, 5, 6, 7, 8, 9, 10, 11, 12, 13, 14, 15, 16, 17, 18, 19, 20, 21, 22, 23, 24, 25, 26, 27, 28, 29, 30, 31, 32, 33, 34, 35, 36, 37, 38, 39, 40, 41, 42, 43, 44, 45, 46, 47, 48, 49, 50, 51, 52, 53, 54, 55, 56, 57, 58, 59, 60, 61, 62, 63, 64, 65, 66, 67, 68, 69, 70, 71, 72], [0, 1, 2, 3, 4, 5, 6, 7, 8, 9, 10, 11, 12, 13, 14, 15, 16, 17, 18, 19, 20, 21, 22, 23, 24, 25, 26, 27, 28, 29, 30, 31, 32, 33, 34, 35, 36, 37, 38, 39, 40, 41, 42, 43, 44, 45, 46, 47, 48, 49, 50, 51, 52, 53, 54, 55, 56, 57, 58, 59, 60, 61, 62, 63, 64, 65, 66, 67, 68, 69, 70, 71, 72, 73, 74, 75], [0, 1, 2, 3, 4, 5, 6, 7, 8, 9, 10, 11, 12, 13, 14, 15, 16, 17, 18, 19, 20, 21, 22, 23, 24, 25, 26, 27, 28, 29, 30, 31, 32, 33, 34, 35, 36, 37, 38, 39, 40, 41, 42, 43, 44, 45, 46, 47, 48, 49, 50, 51, 52, 53, 54, 55, 56, 57, 58, 59, 60, 61, 62, 63, 64, 65, 66, 67, 68, 69, 70, 71, 72, 73, 74, 75, 76], [0, 1, 2, 3, 4, 5, 6, 7, 8, 9, 10, 11, 12, 13, 14, 15, 16, 17, 18, 19, 20, 21, 22, 23, 24, 25, 26, 27, 28, 29, 30, 31, 32, 33, 34, 35, 36, 37, 38, 39, 40, 41, 42, 43, 44, 45, 46, 47, 48, 49, 50, 51, 52, 53, 54, 55, 56, 57, 58, 59, 60, 61, 62, 63, 64, 65, 66, 67, 68, 69, 70, 71, 72], [0, 1, 2, 3, 4, 5, 6, 7, 8, 9, 10, 11, 12, 13, 14, 15, 16, 17, 18, 19, 20, 21, 22, 23, 24, 25, 26, 27, 28, 29, 30, 31, 32, 33, 34, 35, 36, 37, 38, 39, 40, 41, 42, 43, 44, 45, 46, 47, 48, 49, 50, 51, 52, 53, 54, 55, 56, 57, 58, 59, 60, 61, 62, 63, 64, 65, 66, 67, 68, 69, 70, 71, 72, 78], [0, 1, 2, 3, 4, 5, 6, 7, 8, 9, 10, 11, 12, 13, 14, 15, 16, 17, 18, 19, 20, 21, 22, 23, 24, 25, 26, 27, 28, 29, 30, 31, 32, 33, 34, 35, 36, 37, 38, 39, 40, 41, 42, 43, 44, 45, 46, 47, 48, 49, 50, 51, 52, 53, 54, 55, 56, 57, 58, 59, 60, 61, 62, 63, 64, 65, 66, 67, 68, 69, 70, 71, 72], [0, 1, 2, 3, 4, 5, 6, 7, 8, 9, 10, 11, 12, 13, 14, 15, 16, 17, 18, 19, 20, 21, 22, 23, 24, 25, 26, 27, 28, 29, 30, 31, 32, 33, 34, 35, 36, 37, 38, 39, 40, 41, 42, 43, 44, 45, 46, 47, 48, 49, 50, 51, 52, 53, 54, 55, 56, 57, 58, 59, 60, 61, 62, 63, 64, 65, 66, 67, 68, 69, 70, 71, 72, 78, 79, 80], [0, 1, 2, 3, 4, 5, 6, 7, 8, 9, 10, 11, 12, 13, 14, 15, 16, 17, 18, 19, 20, 21, 22, 23, 24, 25, 26, 27, 28, 29, 30, 31, 32, 33, 34, 35, 36, 37, 38, 39, 40, 41, 42, 43, 44, 45, 46, 47, 48, 49, 50, 51, 52, 53, 54, 55, 56, 57, 58, 59, 60, 61, 62, 63, 64, 65, 66, 67, 68, 69, 70, 71, 72, 78, 79, 80, 81], [0, 1, 2, 3, 4, 5, 6, 7, 8, 9, 10, 11, 12, 13, 14, 15, 16, 17, 18, 19, 20, 21, 22, 23, 24, 25, 26, 27, 28, 29, 30, 31, 32, 33, 34, 35, 36, 37, 38, 39, 40, 41, 42, 43, 44, 45, 46, 47, 48, 49, 50, 51, 52, 53, 54, 55, 56, 57, 58, 59, 60, 61, 62, 63, 64, 65, 66, 67, 68, 69, 70, 71, 72, 73, 74, 75, 76, 77, 78, 79, 80, 81, 82], [0, 1, 2, 3, 4, 5, 6, 7, 8, 9, 10, 11, 12, 13, 14, 15, 16, 17, 18, 19, 20, 21, 22, 23, 24, 25, 26, 27, 28, 29, 30, 31, 32, 33, 34, 35, 36, 37, 38, 39, 40, 41, 42, 43, 44, 45, 46, 47, 48, 49, 50, 51, 52, 53, 54, 55, 56, 57, 58, 59, 60, 61, 62, 63, 64, 65, 66, 67, 68, 69, 70, 71, 72, 73, 74, 75, 76, 77, 78, 79, 80, 81, 82, 83]] 5 rfl (by simp) (by decide +kernel) (by simp) ?_)
    intro O A K hO hA hK; simp only [List.append_eq, List.cons_append, List.nil_append, atL_cons, atL_nil, Nat.reduceAdd, Nat.zero_add] at hO hA
    simp (contextual := true) (maxSteps := 1000000) (implicitDefEqProofs := false) (disch := first | omega | (simp only [decide_eq_true_eq, decide_eq_false_iff_not, Bool.and_eq_true, Bool.or_eq_false_iff, Bool.not_eq_true'] at *; omega)) only [go_sem, bne_self_eq_false, hO, hA]
    refine hK _ ?_; clear hK K hO hA O A
    refine S_ ?_
    refine wpM_condK ?_
    refine S_ ?_
    refine ⟨fun hc12 => ?_, fun hc12 => ?_⟩
    · exact (by rw [hSe, step_bad hok1 hsix (by omega)] at hc12; cases hc12)
    refine wpM_skip ?_
    refine S_ ?_
    refine wpM_regionK [3, 4, 5, 6, 7, 8, 17] rfl ?_; intro Q1 hQ1
    refine S_ ?_
    refine hQ1 _ _ ?_; clear hQ1 Q1
    refine S_ ?_
    refine .of' _ _ ⟨n5 - 1, by omega, i5 + 1, _, by omega, ?_, ?_, rfl⟩ ?_ ?_ ?_
    · first | omega | (simp -implicitDefEqProofs (disch := omega) only [go_sem]; done) | (simp -implicitDefEqProofs (disch := omega) only [go_sem]; omega)
    · first | trivial | omega
    all_goals (first | (simp -implicitDefEqProofs (disch := omega) only [go_sem, PV.int.injEq, Int.natCast_add, Int.natCast_one, Int.natCast_zero, true_or, le_yes]; done) | rfl | trivial | (simp -implicitDefEqProofs (disch := omega) only [go_sem, PV.int.injEq, Int.natCast_add, Int.natCast_one, Int.natCast_zero, true_or]; simp; done) | (simp; done))
  refine wpM_exit ?_
  refine S_ ?_
  refine wpM_seq ?_
  refine wpM_regionK [2] rfl ?_; intro Q1 hQ1
  refine S_ ?_
  refine hQ1 _ _ ?_; clear hQ1 Q1
  refine S_ ?_
  refine wpM_ret ?_
  try refine S_ ?_
  refine hQ _ _ rfl rfl rfl (by simp -implicitDefEqProofs (disch := omega) only [go_sem, le_yes, true_or]) ?_ (.inl rfl)
  rw [Tryz.results5]
  try simp -implicitDefEqProofs (disch := omega) only [go_sem, List.cons.injEq, PV.bool.injEq, PV.int.injEq, PV.agg.injEq]
  all_goals
    first
    | trivial
    | (have h0 := @chtStep_no c k m
       rw [hS] at h0
       rw [h0 (by simpa using hc2)]; rfl)
end Go.Proofs.YtnilkkcobeaglaaGreat
