/- A part of a proof: lemmas and contracts of functions; the last text of the claim says what is proved. -/
import Derived.Test.YtmicbfojofcigaaGreatDoorX8c10820c55
set_option linter.unusedSectionVars false
set_option linter.unusedSimpArgs false
set_option linter.unusedVariables false
namespace Go.Proofs.YtmicbfojofcigaaGreatDoor
open Go Sg
set_option maxRecDepth 100000
set_option linter.unusedSimpArgs false
set_option linter.unusedVariables false
set_option linter.unusedSectionVars false
set_option maxHeartbeats 4000000
variable [ErrL]
theorem l10List_ok (id : Nat) (bs : List Nat) (q : Int) (hbs : Bs bs) (hq0 : 0 ≤ q) (hq : q + 200000 ≤ 1000000000000) : SomeP 27 1000000 200000 id bs q := by
  refine callF_of' Tryz.func27 rfl Tryz.ntmps27 (by simp) ?_
  intro f0 B ns Q hB hns hQ
  have hid : id < B := hB id (by simp [hasKey, lk])
  obtain ⟨z, rfl⟩ : ∃ z, ns = [z] := by
    match ns, hns with
    | [z], _ => exact ⟨z, rfl⟩
  have b1 : lb 1 = 1477 := rfl
  have s1 : ls 1 = 1428 := rfl
  refine g_ [0] ?_
  refine n_ ?_
  refine wpM_regionK [0,3] rfl fun Q1 hQ1 => ?_
  refine S_ ?_
  refine call_fn (l := [(id, rdObj bs q)]) (first := []) (cap := []) (ps := [.ptr id 0]) (l4Some_ok id bs q hbs (by omega) (by omega)) Tryz.call57 rfl rfl rfl G_ T_ ?_
  rintro out ⟨z', l, q1, ⟨⟩, hsz, hqa, hqb, rfl⟩
  refine S_ ?_
  refine hQ1 _ _ (S_ ?_);clear hQ1 Q1
  refine n_ ?_
  have hll := Sm.len_szL l
  refine wpM_regionK [0,3,8] rfl fun Q1 hQ1 => ?_
  refine S_ ?_
  refine call_fn (l := [(id, rdObj bs q1)]) (first := []) (cap := []) (ps := [.ptr id 0, .int .i64 6]) (pick_ok id bs q1 6 hbs (by omega) (by omega) (by omega)) Tryz.call58 rfl rfl rfl G_ T_ ?_
  rintro out ⟨k0, rfl, h01, h02, h03⟩
  refine S_ ?_
  refine hQ1 _ _ (S_ ?_);clear hQ1 Q1
  refine g_ [0,3,8,9] ?_
  refine c_ (fun hc0 => ?_) fun hc0 => ?_
  ·
    refine n_ ?_
    refine wpM_regionK [0,3,4] rfl fun Q1 hQ1 => ?_
    refine S_ ?_
    refine call_fn (l := [(id, rdObj bs (q1 + 1))]) (first := []) (cap := []) (ps := [.ptr id 0]) (l2To_ok id bs (q1 + 1) hbs (by omega) (by omega)) Tryz.call59 rfl rfl rfl G_ T_ ?_
    rintro out ⟨_, q2, ⟨a, rfl⟩, hqc, hqd, rfl⟩
    refine S_ ?_
    refine hQ1 _ _ (S_ ?_);clear hQ1 Q1
    refine g_ [0,3] ?_
    have hLz : Sm.szL (l ++ [(Sm.mk 1 a (Ex.mk 2 0 a []) [] [])]) ≤ 1000000 := by
      rw [Sm.szL_app]; simp only [Sm.sz, Sm.szL, Ex.sz, Ex.szL]; omega
    have hqn1 : q ≤ q2 := by omega
    have hqn2 : q2 ≤ q + 100000 := by omega
    have hYB : B ≤ B + 2 + 1 := by omega
    refine wpM_le [(0, .ptr id 0), (3, .sl 52 (B + 2 + 1) 0 (l.length + 1))] [(B + 2 + 1, .cells 52 (smc (l ++ [(Sm.mk 1 a (Ex.mk 2 0 a []) [] [])]))), (id, rdObj bs q2)] T_ T_ T_ ?_
    rw [show l.length + 1 = (l ++ [(Sm.mk 1 a (Ex.mk 2 0 a []) [] [])]).length from by simp]
    generalize hln : l ++ [(Sm.mk 1 a (Ex.mk 2 0 a []) [] [])] = L at *
    generalize hqn : q2 = qq at *
    obtain ⟨MM, hMM⟩ : ∃ MM, MM = B + 2 + 1 + 1 := ⟨_, rfl⟩
    have hYM : B + 2 + 1 < MM := by omega
    rw [← hMM]
    generalize hYn : B + 2 + 1 = Y at *
    refine n_ ?_
    refine wpM_regionK [0,3,46] rfl fun Q1 hQ1 => ?_
    refine S_ ?_
    refine call_fn (l := [(Y, .cells 52 (smc L))]) (first := []) (cap := []) (ps := [.sl 52 Y 0 L.length]) (stmtsOk_sl Y L (by omega)) Tryz.call13 rfl rfl rfl G_ T_ ?_
    rintro out rfl
    refine S_ ?_
    refine hQ1 _ _ (S_ ?_);clear hQ1 Q1
    refine c_ (fun hc1 => ?_) fun hc1 => ?_
    ·
      refine n_ ?_
      refine wpM_regionK [2] rfl fun Q1 hQ1 => ?_
      refine S_ ?_
      refine call_fn (l := [(id, rdObj bs qq)]) (first := []) (cap := []) (ps := [.ptr id 0]) (l4Some_ok id bs qq hbs (by omega) (by omega)) Tryz.call57 rfl rfl rfl G_ T_ ?_
      rintro out ⟨z9, l9, q9, ⟨⟩, hsz9, hqa9, hqb9, rfl⟩
      refine S_ ?_
      refine hQ1 _ _ (S_ ?_);clear hQ1 Q1
      refine wpM_ret ?_
      try refine S_ ?_
      refine hQ _ _ (retK [MM] [(id, some (rdObj bs q9))] [(z, .cells 52 (smc l9))] rfl rfl rfl (by rw [Tryz.results27] <;> simp (maxSteps := 1000000) -implicitDefEqProofs (disch := omega) only [go_sem] <;> rfl) ?_ ⟨z, l9, q9, rfl, by omega, by omega, by omega, rfl⟩ ?_ ?_ ?_ ?_ ?_ ?_)
      all_goals (first | (simp -implicitDefEqProofs (disch := omega) only [go_sem, rdObj, List.nodup_cons, List.nodup_nil, true_or, or_true, List.mem_cons, List.not_mem_nil]; done) | (simp -implicitDefEqProofs (disch := omega) only [go_sem, rdObj, List.nodup_cons, List.nodup_nil, true_or, or_true, List.mem_cons, List.not_mem_nil]; first | omega | rfl))
    refine g_ [2] ?_
    refine wpM_ret ?_
    try refine S_ ?_
    refine hQ _ _ (retK [Y] [(id, some (rdObj bs qq))] [(z, .cells 52 (smc L))] rfl rfl rfl (by rw [Tryz.results27] <;> simp (maxSteps := 1000000) -implicitDefEqProofs (disch := omega) only [go_sem] <;> rfl) ?_ ⟨z, L, qq, rfl, by omega, by omega, by omega, rfl⟩ ?_ ?_ ?_ ?_ ?_ ?_)
    all_goals (first | (simp -implicitDefEqProofs (disch := omega) only [go_sem, rdObj, List.nodup_cons, List.nodup_nil, true_or, or_true, List.mem_cons, List.not_mem_nil]; done) | (simp -implicitDefEqProofs (disch := omega) only [go_sem, rdObj, List.nodup_cons, List.nodup_nil, true_or, or_true, List.mem_cons, List.not_mem_nil]; first | omega | rfl))
  refine g_ [0,3,8,20] ?_
  refine c_ (fun hc2 => ?_) fun hc2 => ?_
  ·
    refine wpM_regionK [0,3] rfl fun Q1 hQ1 => ?_
    refine S_ ?_
    refine call_fn (l := [(id, rdObj bs (q1 + 1))]) (first := []) (cap := []) (ps := [.ptr id 0, .int .i64 2]) (pick_ok id bs (q1 + 1) 2 hbs (by omega) (by omega) (by omega)) Tryz.call58 rfl rfl rfl G_ T_ ?_
    rintro out ⟨k1, rfl, h11, h12, h13⟩
    refine S_ ?_
    refine cp_ (snum_ok k1) Tryz.call60 ?_
    refine OpM_frz [B] [(52, B, 0, l.length, Sm.csL l)] (by intro q hq; simp at hq; subst hq; simp -implicitDefEqProofs (disch := omega) only [go_sem]) (by intro q hq; simp only [List.mem_cons, List.not_mem_nil, or_false] at hq; subst hq; exact ⟨by simp, rowsOf_smc (T := 52) T_ rfl⟩) ?_
    simp -implicitDefEqProofs (disch := omega) only [go_sem]
    refine call_p (scopyS_ok _ l rfl (by omega)) Tryz.call34 rfl rfl rfl F_ ?_
    refine S_ ?_
    refine call_fn (l := [(id, rdObj bs (q1 + 1 + 1))]) (first := []) (cap := []) (ps := [.ptr id 0, .int .i64 1]) (l4List_ok id bs hbs 1 (by omega) (q1 + 1 + 1) 1 (by omega) (by omega) (by omega) (by omega)) Tryz.call61 rfl rfl rfl G_ T_ ?_
    rintro out ⟨z1, l1, q2, ⟨⟩, hsz1, hqe, hqf, rfl⟩
    refine S_ ?_
    refine hQ1 _ _ (S_ ?_);clear hQ1 Q1
    have hLz : Sm.szL [(Sm.mk 2 ⟨0, 0⟩ (numX k1) l l1)] ≤ 1000000 := by
      simp only [Sm.sz, Sm.szL, numX, Ex.sz, Ex.szL]; omega
    have hqn1 : q ≤ q2 := by omega
    have hqn2 : q2 ≤ q + 100000 := by omega
    have hYB : B ≤ B + 1 + 1 := by omega
    refine wpM_frz [B + 1] [(52, B + 1, 0, l1.length, Sm.csL l1)] (by intro q hq; simp at hq; subst hq; simp -implicitDefEqProofs (disch := omega) only [go_sem]) (by intro q hq; simp only [List.mem_cons, List.not_mem_nil, or_false] at hq; subst hq; exact ⟨by simp, rowsOf_smc (T := 52) T_ rfl⟩) ?_
    refine S_ ?_
    have e1 : [PV.int .i64 2, .int .i64 0, .int .i64 0, .int .i64 1, .int .i64 k1, .int .i64 0, .int .i64 0, .rows 50 [], .rows 52 (Sm.csL l), .rows 52 (Sm.csL l1)] = smc [(Sm.mk 2 ⟨0, 0⟩ (numX k1) l l1)] := by rw [← smc_one, Sm.cs_eq]; rfl
    rw [e1]
    refine wpM_le [(0, .ptr id 0), (3, .sl 52 (B + 1 + 1) 0 [(Sm.mk 2 ⟨0, 0⟩ (numX k1) l l1)].length)] [(B + 1 + 1, .cells 52 (smc [(Sm.mk 2 ⟨0, 0⟩ (numX k1) l l1)])), (id, rdObj bs q2)] T_ T_ T_ ?_
    generalize hln : [(Sm.mk 2 ⟨0, 0⟩ (numX k1) l l1)] = L at *
    generalize hqn : q2 = qq at *
    obtain ⟨MM, hMM⟩ : ∃ MM, MM = B + 1 + 1 + 1 := ⟨_, rfl⟩
    have hYM : B + 1 + 1 < MM := by omega
    rw [← hMM]
    generalize hYn : B + 1 + 1 = Y at *
    refine n_ ?_
    refine wpM_regionK [0,3,46] rfl fun Q1 hQ1 => ?_
    refine S_ ?_
    refine call_fn (l := [(Y, .cells 52 (smc L))]) (first := []) (cap := []) (ps := [.sl 52 Y 0 L.length]) (stmtsOk_sl Y L (by omega)) Tryz.call13 rfl rfl rfl G_ T_ ?_
    rintro out rfl
    refine S_ ?_
    refine hQ1 _ _ (S_ ?_);clear hQ1 Q1
    refine c_ (fun hc3 => ?_) fun hc3 => ?_
    ·
      refine n_ ?_
      refine wpM_regionK [2] rfl fun Q1 hQ1 => ?_
      refine S_ ?_
      refine call_fn (l := [(id, rdObj bs qq)]) (first := []) (cap := []) (ps := [.ptr id 0]) (l4Some_ok id bs qq hbs (by omega) (by omega)) Tryz.call57 rfl rfl rfl G_ T_ ?_
      rintro out ⟨z9, l9, q9, ⟨⟩, hsz9, hqa9, hqb9, rfl⟩
      refine S_ ?_
      refine hQ1 _ _ (S_ ?_);clear hQ1 Q1
      refine wpM_ret ?_
      try refine S_ ?_
      refine hQ _ _ (retK [MM] [(id, some (rdObj bs q9))] [(z, .cells 52 (smc l9))] rfl rfl rfl (by rw [Tryz.results27] <;> simp (maxSteps := 1000000) -implicitDefEqProofs (disch := omega) only [go_sem] <;> rfl) ?_ ⟨z, l9, q9, rfl, by omega, by omega, by omega, rfl⟩ ?_ ?_ ?_ ?_ ?_ ?_)
      all_goals (first | (simp -implicitDefEqProofs (disch := omega) only [go_sem, rdObj, List.nodup_cons, List.nodup_nil, true_or, or_true, List.mem_cons, List.not_mem_nil]; done) | (simp -implicitDefEqProofs (disch := omega) only [go_sem, rdObj, List.nodup_cons, List.nodup_nil, true_or, or_true, List.mem_cons, List.not_mem_nil]; first | omega | rfl))
    refine g_ [2] ?_
    refine wpM_ret ?_
    try refine S_ ?_
    refine hQ _ _ (retK [Y] [(id, some (rdObj bs qq))] [(z, .cells 52 (smc L))] rfl rfl rfl (by rw [Tryz.results27] <;> simp (maxSteps := 1000000) -implicitDefEqProofs (disch := omega) only [go_sem] <;> rfl) ?_ ⟨z, L, qq, rfl, by omega, by omega, by omega, rfl⟩ ?_ ?_ ?_ ?_ ?_ ?_)
    all_goals (first | (simp -implicitDefEqProofs (disch := omega) only [go_sem, rdObj, List.nodup_cons, List.nodup_nil, true_or, or_true, List.mem_cons, List.not_mem_nil]; done) | (simp -implicitDefEqProofs (disch := omega) only [go_sem, rdObj, List.nodup_cons, List.nodup_nil, true_or, or_true, List.mem_cons, List.not_mem_nil]; first | omega | rfl))
  refine g_ [0,3,8,31] ?_
  refine c_ (fun hc4 => ?_) fun hc4 => ?_
  ·
    refine wpM_regionK [0,3] rfl fun Q1 hQ1 => ?_
    refine S_ ?_
    refine cp_ (snum_ok 0) Tryz.call60 ?_
    refine call_fn (l := [(id, rdObj bs (q1 + 1))]) (first := []) (cap := []) (ps := [.ptr id 0, .int .i64 1]) (l4List_ok id bs hbs 1 (by omega) (q1 + 1) 1 (by omega) (by omega) (by omega) (by omega)) Tryz.call61 rfl rfl rfl G_ T_ ?_
    rintro out ⟨z1, l1, q2, ⟨⟩, hsz1, hqe, hqf, rfl⟩
    refine S_ ?_
    refine hQ1 _ _ (S_ ?_);clear hQ1 Q1
    have hLz : Sm.szL (l ++ [(Sm.mk 3 ⟨0, 0⟩ (numX 0) l1 [])]) ≤ 1000000 := by
      rw [Sm.szL_app]; simp only [Sm.sz, Sm.szL, numX, Ex.sz, Ex.szL]; omega
    have hqn1 : q ≤ q2 := by omega
    have hqn2 : q2 ≤ q + 100000 := by omega
    have hYB : B ≤ B + 1 + 1 + 1 := by omega
    refine wpM_frz [B + 1] [(52, B + 1, 0, l1.length, Sm.csL l1)] (by intro q hq; simp at hq; subst hq; simp -implicitDefEqProofs (disch := omega) only [go_sem]) (by intro q hq; simp only [List.mem_cons, List.not_mem_nil, or_false] at hq; subst hq; exact ⟨by simp, rowsOf_smc (T := 52) T_ rfl⟩) ?_
    refine S_ ?_
    refine wpM_le [(0, .ptr id 0), (3, .sl 52 (B + 1 + 1 + 1) 0 (l.length + 1))] [(B + 1 + 1 + 1, .cells 52 (smc (l ++ [(Sm.mk 3 ⟨0, 0⟩ (numX 0) l1 [])]))), (id, rdObj bs q2)] T_ (by simp -implicitDefEqProofs (disch := omega) only [go_sem, numX]) T_ ?_
    rw [show l.length + 1 = (l ++ [(Sm.mk 3 ⟨0, 0⟩ (numX 0) l1 [])]).length from by simp]
    generalize hln : l ++ [(Sm.mk 3 ⟨0, 0⟩ (numX 0) l1 [])] = L at *
    generalize hqn : q2 = qq at *
    obtain ⟨MM, hMM⟩ : ∃ MM, MM = B + 1 + 1 + 1 + 1 := ⟨_, rfl⟩
    have hYM : B + 1 + 1 + 1 < MM := by omega
    rw [← hMM]
    generalize hYn : B + 1 + 1 + 1 = Y at *
    refine n_ ?_
    refine wpM_regionK [0,3,46] rfl fun Q1 hQ1 => ?_
    refine S_ ?_
    refine call_fn (l := [(Y, .cells 52 (smc L))]) (first := []) (cap := []) (ps := [.sl 52 Y 0 L.length]) (stmtsOk_sl Y L (by omega)) Tryz.call13 rfl rfl rfl G_ T_ ?_
    rintro out rfl
    refine S_ ?_
    refine hQ1 _ _ (S_ ?_);clear hQ1 Q1
    refine c_ (fun hc5 => ?_) fun hc5 => ?_
    ·
      refine n_ ?_
      refine wpM_regionK [2] rfl fun Q1 hQ1 => ?_
      refine S_ ?_
      refine call_fn (l := [(id, rdObj bs qq)]) (first := []) (cap := []) (ps := [.ptr id 0]) (l4Some_ok id bs qq hbs (by omega) (by omega)) Tryz.call57 rfl rfl rfl G_ T_ ?_
      rintro out ⟨z9, l9, q9, ⟨⟩, hsz9, hqa9, hqb9, rfl⟩
      refine S_ ?_
      refine hQ1 _ _ (S_ ?_);clear hQ1 Q1
      refine wpM_ret ?_
      try refine S_ ?_
      refine hQ _ _ (retK [MM] [(id, some (rdObj bs q9))] [(z, .cells 52 (smc l9))] rfl rfl rfl (by rw [Tryz.results27] <;> simp (maxSteps := 1000000) -implicitDefEqProofs (disch := omega) only [go_sem] <;> rfl) ?_ ⟨z, l9, q9, rfl, by omega, by omega, by omega, rfl⟩ ?_ ?_ ?_ ?_ ?_ ?_)
      all_goals (first | (simp -implicitDefEqProofs (disch := omega) only [go_sem, rdObj, List.nodup_cons, List.nodup_nil, true_or, or_true, List.mem_cons, List.not_mem_nil]; done) | (simp -implicitDefEqProofs (disch := omega) only [go_sem, rdObj, List.nodup_cons, List.nodup_nil, true_or, or_true, List.mem_cons, List.not_mem_nil]; first | omega | rfl))
    refine g_ [2] ?_
    refine wpM_ret ?_
    try refine S_ ?_
    refine hQ _ _ (retK [Y] [(id, some (rdObj bs qq))] [(z, .cells 52 (smc L))] rfl rfl rfl (by rw [Tryz.results27] <;> simp (maxSteps := 1000000) -implicitDefEqProofs (disch := omega) only [go_sem] <;> rfl) ?_ ⟨z, L, qq, rfl, by omega, by omega, by omega, rfl⟩ ?_ ?_ ?_ ?_ ?_ ?_)
    all_goals (first | (simp -implicitDefEqProofs (disch := omega) only [go_sem, rdObj, List.nodup_cons, List.nodup_nil, true_or, or_true, List.mem_cons, List.not_mem_nil]; done) | (simp -implicitDefEqProofs (disch := omega) only [go_sem, rdObj, List.nodup_cons, List.nodup_nil, true_or, or_true, List.mem_cons, List.not_mem_nil]; first | omega | rfl))
  refine g_ [0,3,40] ?_
  refine c_ (fun hc6 => ?_) fun hc6 => ?_
  ·
    refine n_ ?_
    refine wpM_regionK [2] rfl fun Q1 hQ1 => ?_
    refine S_ ?_
    refine call_fn (l := [(id, rdObj bs (q1 + 1))]) (first := []) (cap := []) (ps := [.ptr id 0]) (l4Bent_ok id bs (q1 + 1) hbs (by omega) (by omega)) Tryz.call39 rfl rfl rfl G_ T_ ?_
    rintro out ⟨z1, l1, q2, ⟨⟩, hsz1, hqe, hqf, rfl⟩
    refine S_ ?_
    refine hQ1 _ _ (S_ ?_);clear hQ1 Q1
    refine wpM_ret ?_
    try refine S_ ?_
    refine hQ _ _ (retK [B + 1] [(id, some (rdObj bs q2))] [(z, .cells 52 (smc l1))] rfl rfl rfl (by rw [Tryz.results27] <;> simp (maxSteps := 1000000) -implicitDefEqProofs (disch := omega) only [go_sem] <;> rfl) ?_ ⟨z, l1, q2, rfl, by omega, by omega, by omega, rfl⟩ ?_ ?_ ?_ ?_ ?_ ?_)
    all_goals (first | (simp -implicitDefEqProofs (disch := omega) only [go_sem, rdObj, List.nodup_cons, List.nodup_nil, true_or, or_true, List.mem_cons, List.not_mem_nil]; done) | (simp -implicitDefEqProofs (disch := omega) only [go_sem, rdObj, List.nodup_cons, List.nodup_nil, true_or, or_true, List.mem_cons, List.not_mem_nil]; first | omega | rfl))
  obtain ⟨Y, hY⟩ : ∃ Y, Y = B := ⟨_, rfl⟩
  obtain ⟨L, hL⟩ : ∃ L, L = l := ⟨_, rfl⟩
  obtain ⟨qq, hqq⟩ : ∃ qq, qq = q1 + 1 := ⟨_, rfl⟩
  have hLz : Sm.szL L ≤ 1000000 := by rw [hL]; omega
  have hqn1 : q ≤ qq := by omega
  have hqn2 : qq ≤ q + 100000 := by omega
  have hYB : B ≤ Y := by omega
  obtain ⟨MM, hMM⟩ : ∃ MM, MM = B + 1 := ⟨_, rfl⟩
  have hYM : Y < MM := by omega
  refine n_ ?_
  refine wpM_le [(0, .ptr id 0), (3, .sl 52 Y 0 L.length)] [(Y, .cells 52 (smc L)), (id, rdObj bs qq)] (by rw [hY, hL]; simp -implicitDefEqProofs (disch := omega) only [go_sem]) (by rw [hY, hL, hqq]; simp -implicitDefEqProofs (disch := omega) only [go_sem]) (by rw [hY]; simp -implicitDefEqProofs (disch := omega) only [go_sem]) ?_
  rw [← hMM]
  refine n_ ?_
  refine wpM_regionK [0,3,46] rfl fun Q1 hQ1 => ?_
  refine S_ ?_
  refine call_fn (l := [(Y, .cells 52 (smc L))]) (first := []) (cap := []) (ps := [.sl 52 Y 0 L.length]) (stmtsOk_sl Y L (by omega)) Tryz.call13 rfl rfl rfl G_ T_ ?_
  rintro out rfl
  refine S_ ?_
  refine hQ1 _ _ (S_ ?_);clear hQ1 Q1
  refine c_ (fun hc7 => ?_) fun hc7 => ?_
  ·
    refine n_ ?_
    refine wpM_regionK [2] rfl fun Q1 hQ1 => ?_
    refine S_ ?_
    refine call_fn (l := [(id, rdObj bs qq)]) (first := []) (cap := []) (ps := [.ptr id 0]) (l4Some_ok id bs qq hbs (by omega) (by omega)) Tryz.call57 rfl rfl rfl G_ T_ ?_
    rintro out ⟨z9, l9, q9, ⟨⟩, hsz9, hqa9, hqb9, rfl⟩
    refine S_ ?_
    refine hQ1 _ _ (S_ ?_);clear hQ1 Q1
    refine wpM_ret ?_
    try refine S_ ?_
    refine hQ _ _ (retK [MM] [(id, some (rdObj bs q9))] [(z, .cells 52 (smc l9))] rfl rfl rfl (by rw [Tryz.results27] <;> simp (maxSteps := 1000000) -implicitDefEqProofs (disch := omega) only [go_sem] <;> rfl) ?_ ⟨z, l9, q9, rfl, by omega, by omega, by omega, rfl⟩ ?_ ?_ ?_ ?_ ?_ ?_)
    all_goals (first | (simp -implicitDefEqProofs (disch := omega) only [go_sem, rdObj, List.nodup_cons, List.nodup_nil, true_or, or_true, List.mem_cons, List.not_mem_nil]; done) | (simp -implicitDefEqProofs (disch := omega) only [go_sem, rdObj, List.nodup_cons, List.nodup_nil, true_or, or_true, List.mem_cons, List.not_mem_nil]; first | omega | rfl))
  refine g_ [2] ?_
  refine wpM_ret ?_
  try refine S_ ?_
  refine hQ _ _ (retK [Y] [(id, some (rdObj bs qq))] [(z, .cells 52 (smc L))] rfl rfl rfl (by rw [Tryz.results27] <;> simp (maxSteps := 1000000) -implicitDefEqProofs (disch := omega) only [go_sem] <;> rfl) ?_ ⟨z, L, qq, rfl, by omega, by omega, by omega, rfl⟩ ?_ ?_ ?_ ?_ ?_ ?_)
  all_goals (first | (simp -implicitDefEqProofs (disch := omega) only [go_sem, rdObj, List.nodup_cons, List.nodup_nil, true_or, or_true, List.mem_cons, List.not_mem_nil]; done) | (simp -implicitDefEqProofs (disch := omega) only [go_sem, rdObj, List.nodup_cons, List.nodup_nil, true_or, or_true, List.mem_cons, List.not_mem_nil]; first | omega | rfl))
end Go.Proofs.YtmicbfojofcigaaGreatDoor
namespace Go.Proofs.YtmicbfojofcigaaGreatDoor
open Go Sg
set_option maxRecDepth 100000
set_option linter.unusedSimpArgs false
set_option linter.unusedVariables false
set_option linter.unusedSectionVars false
set_option maxHeartbeats 4000000
variable [ErrL]
theorem drawSlim_ok (code : List Nat) (hcode : ∀ x ∈ code, x < 256) (hl : code.length ≤ 1099511627776) :
    CallF Tryz.prog 9 [.rows 5 (u8s code)] [] 0 (fun _ o => ∃ l, Sm.szL l ≤ 1000000 ∧ o = { rs := [.rows 52 (Sm.csL l)] }) := by
  refine callF_of' Tryz.func9 rfl Tryz.ntmps9 (by simp) ?_
  intro f0 B ns Q hB hns hQ
  obtain rfl : ns = [] := List.eq_nil_of_length_eq_zero hns
  refine g_ [0] ?_
  refine n_ ?_
  refine wpM_regionK [2] rfl fun Q1 hQ1 => ?_
  refine S_ ?_
  refine call_fn (l := []) (first := []) (cap := []) (ps := [.rows 5 (u8s code)]) (open_ok code hcode hl) Tryz.call28 rfl rfl rfl G_ T_ ?_
  rintro out ⟨j, bs, ⟨⟩, hbs, rfl, hbe⟩
  refine S_ ?_
  refine call_fn (l := [(B, rdObj bs 0)]) (first := []) (cap := []) (ps := [.ptr B 0]) (l10List_ok B bs 0 hbs (by omega) (by omega)) Tryz.call27 rfl rfl rfl G_ T_ ?_
  rintro out ⟨z', l, q1, ⟨⟩, hsz, hqa, hqb, rfl⟩
  refine S_ ?_
  refine hQ1 _ _ (S_ ?_);clear hQ1 Q1
  refine wpM_frz [B + 1] [(52, B + 1, 0, l.length, Sm.csL l)] (by intro q hq; simp at hq; subst hq; simp -implicitDefEqProofs (disch := omega) only [go_sem]) (by intro q hq; simp only [List.mem_cons, List.not_mem_nil, or_false] at hq; subst hq; exact ⟨by simp, rowsOf_smc (T := 52) T_ rfl⟩) ?_
  refine S_ ?_
  refine wpM_ret ?_
  try refine S_ ?_
  refine hQ _ _ (ret0 [] rfl rfl rfl (by rw [Tryz.results9] <;> simp (maxSteps := 1000000) -implicitDefEqProofs (disch := omega) only [go_sem] <;> rfl) ⟨l, hsz, rfl⟩ ?_ ?_ ?_ ?_)
  all_goals simp -implicitDefEqProofs (disch := omega) only [go_sem, rdObj, true_or, or_true]
theorem runS_Sm2 (m : MM) (l : List Sm) (F : Int) : (runS m l F).1.Sm := by
  unfold runS
  split
  · rename_i h
    simp only [runOk, Bool.and_eq_true] at h
    exact MM.Six.sm (Sm.exL_six l m _ (MM.ok_six h.1.1.1))
  · exact ⟨by simp [noM], by simp [noM], by simp [noM]⟩
theorem slimT_sz (l : List Sm) : Sm.szL (slimT l) ≤ Sm.szL l := by
  unfold slimT
  split
  · exact Sm.slL_sz l
  · simp [Sm.szL]
theorem slimT_ok {l : List Sm} (h : okS l = true) : slimT l = Sm.slL l := by rw [slimT, if_pos h]
end Go.Proofs.YtmicbfojofcigaaGreatDoor
namespace Go.Proofs.YtmicbfojofcigaaGreatDoor
open Go Sg
set_option linter.unusedSectionVars false
variable [Glob]
set_option maxRecDepth 100000
set_option linter.unusedSimpArgs false
set_option linter.unusedVariables false
set_option linter.unusedSectionVars false
set_option maxHeartbeats 4000000
structure GI where
  op : Int
  n : Int
  a : AD
  deriving Inhabited
def GI.cs (i : GI) : List PV := [.int .i64 i.op, .int .i64 i.n, .int .i64 i.a.kind, .int .i64 i.a.at']
@[go_sem] theorem GI.cs_eq (i : GI) : i.cs = [.int .i64 i.op, .int .i64 i.n, .int .i64 i.a.kind, .int .i64 i.a.at'] := rfl
def insR (l : List GI) : List (List PV) := l.map GI.cs
@[go_sem] theorem insR_len (l : List GI) : (insR l).length = l.length := by simp [insR]
@[go_sem] theorem insR_get (l : List GI) (k : Nat) (h : k < l.length) : (insR l).getD k [] = (l.getD k default).cs := by simp [insR, List.getD, h]
def insC (l : List GI) : List PV := (insR l).flatten
@[go_sem] theorem insR_flat (l : List GI) : (insR l).flatten = insC l := rfl
@[go_sem] theorem insC_len (l : List GI) : (insC l).length = l.length * 4 := by
  induction l with
  | nil => rfl
  | cons x l ih => simp only [insC, insR, List.map_cons, List.flatten_cons, List.length_append, List.length_cons] at ih ⊢; rw [ih]; simp [GI.cs]; omega
theorem insC_app (l r : List GI) : insC (l ++ r) = insC l ++ insC r := by simp [insC, insR]
theorem insC_one (i : GI) : insC [i] = i.cs := by simp [insC, insR]
@[go_sem] theorem insC_snoc (l : List GI) (x y z w : Int) : insC l ++ [.int .i64 x, .int .i64 y, .int .i64 z, .int .i64 w] = insC (l ++ [⟨x, y, ⟨z, w⟩⟩]) := by rw [insC_app, insC_one]; rfl
@[go_sem] theorem insC_cat (l r : List GI) : insC l ++ insC r = insC (l ++ r) := (insC_app l r).symm
@[go_sem] theorem idsL_insC (p : Nat → Prop) (l : List GI) : PV.idsL p (insC l) = True := by
  induction l with
  | nil => simp [insC, insR, PV.idsL]
  | cons x l ih => simp only [insC, insR, List.map_cons, List.flatten_cons, GI.cs, List.cons_append, List.nil_append, PV.idsL, PV.ids, true_and] at ih ⊢; exact ih
@[go_sem] theorem renL_insC (p : Nat → Nat) (l : List GI) : PV.renL p (insC l) = insC l := by
  induction l with
  | nil => rfl
  | cons x l ih => simp only [insC, insR, List.map_cons, List.flatten_cons, GI.cs, List.cons_append, List.nil_append, PV.renL, PV.ren] at ih ⊢; rw [ih]
@[go_sem] theorem insC_nil : insC [] = [] := rfl
@[go_sem] theorem cell_insC (l : List GI) : (insC l).all PV.cell = true := by
  induction l with
  | nil => rfl
  | cons x l ih => simp only [insC, insR, List.map_cons, List.flatten_cons, GI.cs, List.cons_append, List.nil_append, List.all_cons, PV.cell, Bool.true_and] at ih ⊢; exact ih
@[go_sem] theorem insC_all (l : List GI) : List.take (l.length * 4) (insC l) = insC l := List.take_of_length_le (by rw [insC_len]; omega)
theorem rowsOf_insC {f : Nat → Option AObj} {id n : Nat} {T : TypeId} {l : List GI} (h : f id = some (.cells T (insC l))) (hn : l.length = n) : RowsOf Tryz.prog f 81 id 0 n (insR l) := by
  subst hn
  refine ⟨by rw [cellsOf81]; omega, by simp [insR], ?_, T, _, h, ?_, ?_⟩
  · intro c hc
    simp only [insR, List.mem_map] at hc
    obtain ⟨x, _, rfl⟩ := hc
    rw [cellsOf81]; exact ⟨rfl, rfl⟩
  · rw [cellsOf81, insC_len]; omega
  · rw [cellsOf81, insR_flat, List.drop_zero, List.take_of_length_le (by rw [insC_len]; omega)]
theorem insC_set (l : List GI) (k : Nat) (x : Int) (h : k < l.length) : splice (insC l) (k * 4 + 1) [.int .i64 x] = insC (l.set k { l.getD k default with n := x }) := by
  induction l generalizing k with
  | nil => simp at h
  | cons i l ih =>
    cases k with
    | zero => simp [insC, insR, splice, GI.cs, List.getD]
    | succ k =>
      have h' : k < l.length := by simpa using h
      have := ih k h'
      simp only [splice, List.length_cons, List.length_nil] at this ⊢
      have e1 : insC (i :: l) = i.cs ++ insC l := by rw [← insC_one i, ← insC_app]; rfl
      have e2 : (k + 1) * 4 + 1 = i.cs.length + (k * 4 + 1) := by show _ = 4 + _; omega
      have e3 : (k + 1) * 4 + 1 + (0 + 1) = i.cs.length + (k * 4 + 1 + (0 + 1)) := by show _ = 4 + _; omega
      rw [e1, e3, e2, List.take_length_add_append, List.drop_length_add_append, List.append_assoc, List.append_assoc]
      rw [List.append_assoc] at this
      rw [this]
      simp only [List.getD_cons_succ, List.set_cons_succ]
      rw [← insC_one i, ← insC_app]; rfl
def A0 : AD := ⟨0, 0⟩
@[go_sem] theorem A0_kind : A0.kind = 0 := rfl
@[go_sem] theorem A0_at : A0.at' = 0 := rfl
@[go_sem] theorem cast_pred (n : Nat) : ((n + 1 : Nat) : Int) - 1 = n := by omega
def lastI (e : Ex) : GI := if e.kind == 1 then ⟨1, e.n, A0⟩ else if e.kind == 2 then ⟨2, 0, e.a⟩ else if e.kind == 10 then ⟨5, 0, A0⟩ else ⟨4, e.kind, A0⟩
mutual
def Ex.cd : Ex → List GI
  | .mk k n a l => Ex.cdL l ++ [lastI (.mk k n a l)]
def Ex.cdL : List Ex → List GI
  | [] => []
  | e :: l => e.cd ++ Ex.cdL l
end
theorem Ex.cd_eq (e : Ex) : e.cd = Ex.cdL e.kids ++ [lastI e] := by cases e; simp only [Ex.cd, Ex.kids]
theorem Ex.cdL_app (l r : List Ex) : Ex.cdL (l ++ r) = Ex.cdL l ++ Ex.cdL r := by
  induction l with
  | nil => rfl
  | cons e l ih => simp only [List.cons_append, Ex.cdL, ih, List.append_assoc]
theorem Ex.cdL_take (l : List Ex) (i : Nat) (h : i < l.length) : Ex.cdL (l.take (i + 1)) = Ex.cdL (l.take i) ++ (l.getD i default).cd := by
  rw [List.take_succ_eq_append_getElem h, Ex.cdL_app]
  simp [Ex.cdL, List.getD, h]
mutual
theorem Ex.cd_len : (e : Ex) → e.cd.length = e.sz
  | .mk k n a l => by simp only [Ex.cd, Ex.sz, List.length_append, List.length_cons, List.length_nil, Ex.cdL_len l]; omega
theorem Ex.cdL_len : (l : List Ex) → (Ex.cdL l).length = Ex.szL l
  | [] => rfl
  | e :: l => by simp only [Ex.cdL, Ex.szL, List.length_append, Ex.cd_len e, Ex.cdL_len l]
end
mutual
def Sm.cd : Sm → Nat → List GI
  | .mk k a e th el, at' =>
    let E := e.cd
    let A := Sm.cdL th (at' + E.length + 1)
    if k == 1 then E ++ [⟨3, 0, a⟩]
    else if k == 2 then
      let B := Sm.cdL el (at' + E.length + 1 + A.length + 1)
      E ++ [⟨6, (at' + E.length + 1 + A.length + 1 : Nat), A0⟩] ++ A ++ [⟨7, (at' + E.length + 1 + A.length + 1 + B.length : Nat), A0⟩] ++ B
    else if k == 3 then E ++ [⟨6, (at' + E.length + 1 + A.length + 1 : Nat), A0⟩] ++ A ++ [⟨8, (at' : Nat), A0⟩]
    else E
def Sm.cdL : List Sm → Nat → List GI
  | [], _ => []
  | s :: l, at' => s.cd at' ++ Sm.cdL l (at' + (s.cd at').length)
end
theorem Sm.cdL_app (l r : List Sm) (k : Nat) : Sm.cdL (l ++ r) k = Sm.cdL l k ++ Sm.cdL r (k + (Sm.cdL l k).length) := by
  induction l generalizing k with
  | nil => rfl
  | cons s l ih => simp only [List.cons_append, Sm.cdL, ih, List.append_assoc, List.length_append, Nat.add_assoc]
theorem Sm.cdL_take (l : List Sm) (k i : Nat) (h : i < l.length) : Sm.cdL (l.take (i + 1)) k = Sm.cdL (l.take i) k ++ (l.getD i default).cd (k + (Sm.cdL (l.take i) k).length) := by
  rw [List.take_succ_eq_append_getElem h, Sm.cdL_app]
  simp [Sm.cdL, List.getD, h]
theorem Sm.cd_eq (s : Sm) (k : Nat) : s.cd k =
    if s.kind == 1 then s.e.cd ++ [⟨3, 0, s.to'⟩]
    else if s.kind == 2 then s.e.cd ++ [⟨6, (k + s.e.cd.length + 1 + (Sm.cdL s.th (k + s.e.cd.length + 1)).length + 1 : Nat), A0⟩] ++ Sm.cdL s.th (k + s.e.cd.length + 1) ++ [⟨7, (k + s.e.cd.length + 1 + (Sm.cdL s.th (k + s.e.cd.length + 1)).length + 1 + (Sm.cdL s.el (k + s.e.cd.length + 1 + (Sm.cdL s.th (k + s.e.cd.length + 1)).length + 1)).length : Nat), A0⟩] ++ Sm.cdL s.el (k + s.e.cd.length + 1 + (Sm.cdL s.th (k + s.e.cd.length + 1)).length + 1)
    else if s.kind == 3 then s.e.cd ++ [⟨6, (k + s.e.cd.length + 1 + (Sm.cdL s.th (k + s.e.cd.length + 1)).length + 1 : Nat), A0⟩] ++ Sm.cdL s.th (k + s.e.cd.length + 1) ++ [⟨8, (k : Nat), A0⟩]
    else s.e.cd := by cases s; simp only [Sm.cd, Sm.kind, Sm.to', Sm.e, Sm.th, Sm.el] <;> rfl
mutual
theorem Sm.cd_len : (s : Sm) → (k : Nat) → (s.cd k).length ≤ 2 * s.sz
  | .mk k a e th el, at' => by
    simp only [Sm.cd, Sm.sz]
    have h1 := Ex.cd_len e
    have h2 := Sm.cdL_len th (at' + e.cd.length + 1)
    have h3 := Sm.cdL_len el (at' + e.cd.length + 1 + (Sm.cdL th (at' + e.cd.length + 1)).length + 1)
    split
    · simp; omega
    · split
      · simp; omega
      · split
        · simp; omega
        · omega
theorem Sm.cdL_len : (l : List Sm) → (k : Nat) → (Sm.cdL l k).length ≤ 2 * Sm.szL l
  | [], k => by simp [Sm.cdL]
  | s :: l, k => by
    simp only [Sm.cdL, Sm.szL, List.length_append]
    have h1 := Sm.cd_len s k
    have h2 := Sm.cdL_len l (k + (s.cd k).length)
    omega
end
def landL (l : List GI) (k : Nat) : List GI := l.set k ⟨(l.getD k default).op, l.length, (l.getD k default).a⟩
@[go_sem] theorem landL_len (l : List GI) (k : Nat) : (landL l k).length = l.length := by simp [landL]
def cobj (y : Nat) (n : Nat) : AObj := .cells 78 [.sl 81 y 0 n]
@[go_sem] theorem cobj_eq (y n : Nat) : cobj y n = .cells 78 [.sl 81 y 0 n] := rfl
def cfoot (c y : Nat) (l : List GI) : List (Nat × AObj) := [(c, cobj y l.length), (y, .cells 81 (insC l))]
@[go_sem] theorem cfoot_eq (c y : Nat) (l : List GI) : cfoot c y l = [(c, cobj y l.length), (y, .cells 81 (insC l))] := rfl
def COk (c y : Nat) (l' : List GI) (rs : List PV) (ns : List Nat) (o : COut) : Prop := ∃ z, ns = [z] ∧ o = { rs := rs, u := [(c, some (cobj z l'.length)), (y, none)], nw := [(z, .cells 81 (insC l'))] }
theorem cadd_ok (c y : Nat) (hcy : c ≠ y) (l : List GI) (i : GI) (hl : l.length ≤ 1099511627776) : CallF Tryz.prog 86 [.ptr c 0, .agg i.cs] (cfoot c y l) 1 (COk c y (l ++ [i]) [.int .i64 (l.length : Nat)]) := by
  refine callF_ofC' Tryz.func86 rfl Tryz.ntmps86 (by simp) ?_
  intro f0 B ns Q hB hns hQ
  have hc : c < B := hB c (by simp [hasKey, lk, cfoot])
  have hy : y < B := hB y (by simp [hasKey, lk, cfoot, hcy])
  obtain ⟨z, rfl⟩ : ∃ z, ns = [z] := by
    match ns, hns with
    | [x], _ => exact ⟨x, rfl⟩
  refine g_ [0,3] ?_
  refine n_ ?_
  refine dr_ mixed [0] 2 3 [B, c, y, B + 1, B + 2] [⟨[0],[],[],[],false⟩,⟨[0],[],[],[],false⟩,⟨[6],[],[],[],false⟩,⟨[7],[],[],[],false⟩,⟨[8],[1],[],[],false⟩,⟨[3],[0],[],[],false⟩,⟨[10],[],[],[3],false⟩,⟨[9,11],[2,3],[2],[4],false⟩,⟨[5],[],[],[],false⟩,⟨[13],[],[],[],false⟩,⟨[12,14],[1],[1],[],false⟩] [0,1,2,3,4,5,6,7,8,9,10] [[],[],[1],[1,2],[1,2,3],[],[5],[1,2,3,4,5,6],[0,1,2,3,4,5,6,7],[0,1,2,3,4,5,6,7,8],[0,1,2,3,4,5,6,7,8,9]] 5 (htbl := by simp; omega) (hnm := by simp) ?_
  intro O A K hO hA hK;simp only [atL_cons,atL_nil,Nat.reduceAdd,Nat.zero_add] at hO hA
  refine SO_ ?_
  refine hK _ (S_ ?_);clear hK K hO hA O A
  refine g_ [4] ?_
  refine wpM_ret ?_
  try refine S_ ?_
  refine hQ _ _ (retK [B + 2] [(c, some (cobj z (l.length + 1))), (y, none)] [(z, .cells 81 (insC (l ++ [i])))] rfl rfl rfl (by rw [Tryz.results86] <;> simp (maxSteps := 1000000) -implicitDefEqProofs (disch := omega) only [go_sem] <;> rfl) ?_ ⟨z, rfl, by rw [List.length_append]; rfl⟩ ?_ ?_ ?_ ?_ ?_ ?_)
  all_goals (first | (simp -implicitDefEqProofs (disch := omega) only [go_sem, List.nodup_cons, List.nodup_nil, true_or, or_true, List.mem_cons, List.not_mem_nil, if_true]; done) | (simp -implicitDefEqProofs (disch := omega) only [go_sem, List.nodup_cons, List.nodup_nil, true_or, or_true, List.mem_cons, List.not_mem_nil]; omega))
theorem land_ok (c y : Nat) (hcy : c ≠ y) (l : List GI) (k : Nat) (hk : k < l.length) (hl : l.length ≤ 1099511627776) : CallF Tryz.prog 87 [.ptr c 0, .int .i64 (k : Nat)] (cfoot c y l) 0 (fun _ o => o = { rs := [], u := [(y, some (.cells 81 (insC (landL l k))))] }) := by
  refine callF_of' Tryz.func87 rfl Tryz.ntmps87 (by simp) ?_
  intro f0 B ns Q hB hns hQ
  have hc : c < B := hB c (by simp [hasKey, lk, cfoot])
  have hy : y < B := hB y (by simp [hasKey, lk, cfoot, hcy])
  obtain rfl : ns = [] := List.eq_nil_of_length_eq_zero hns
  refine n_ ?_
  refine dr_ mixed [] 0 2 [c, y] [⟨[0],[],[],[],false⟩,⟨[4],[],[],[],false⟩,⟨[5],[],[],[],false⟩,⟨[6],[0],[],[],false⟩,⟨[1],[],[],[],false⟩,⟨[0],[],[],[],false⟩,⟨[9],[],[],[],false⟩,⟨[10],[],[],[],false⟩,⟨[11],[0],[],[],false⟩,⟨[12],[],[],[],false⟩,⟨[7,8],[],[],[],false⟩,⟨[14],[],[],[],false⟩,⟨[13,15],[1],[1],[],false⟩] [0,1,2,3,4,5,6,7,8,9,10,11,12] [[],[0],[0,1],[0,1,2],[],[],[5],[5,6],[5,6,7],[5,6,7,8],[0,1,2,3,4,5,6,7,8,9],[0,1,2,3,4,5,6,7,8,9,10],[0,1,2,3,4,5,6,7,8,9,10,11]] 2 (htbl := by simp; omega) (hnm := by simp) ?_
  intro O A K hO hA hK;simp only [atL_cons,atL_nil,Nat.reduceAdd,Nat.zero_add] at hO hA
  simp -implicitDefEqProofs (disch := omega) only [go_sem, insC_set l k l.length hk, hO, hA]
  refine hK _ (S_ ?_);clear hK K hO hA O A
  refine hQ _ _ (ret0n [(y, some (.cells 81 (insC (landL l k))))] rfl rfl rfl (by rw [Tryz.results87] <;> simp (maxSteps := 1000000) -implicitDefEqProofs (disch := omega) only [go_sem] <;> rfl) rfl ?_ ?_ ?_ ?_)
  all_goals simp -implicitDefEqProofs (disch := omega) only [go_sem, true_or, or_true]
  all_goals rfl
end Go.Proofs.YtmicbfojofcigaaGreatDoor
namespace Go.Proofs.YtmicbfojofcigaaGreatDoor
open Go Sg
set_option linter.unusedSectionVars false
variable [Glob]
set_option maxRecDepth 100000
set_option linter.unusedSimpArgs false
set_option linter.unusedVariables false
set_option linter.unusedSectionVars false
set_option maxHeartbeats 4000000
theorem Ex.cdL_pre (l : List Ex) (i : Nat) : (Ex.cdL (l.take i)).length ≤ Ex.szL l := by
  have h1 := Ex.cdL_app (l.take i) (l.drop i)
  rw [List.take_append_drop] at h1
  have h2 := Ex.cdL_len l
  rw [h1, List.length_append] at h2; omega
theorem cexpr_ok : ∀ (N : Nat) (e : Ex), e.sz ≤ N → e.sz ≤ 1000000000 → ∀ (c y : Nat) (l : List GI), c ≠ y → l.length + e.sz ≤ 1099511627776 → CallF Tryz.prog 85 [.ptr c 0, .agg e.cs] (cfoot c y l) 1 (COk c y (l ++ e.cd) []) := by
  intro N
  induction N with
  | zero => intro e h; have := e.sz_eq; omega
  | succ N ih =>
    intro e hN hs c y l hcy hl
    have hsz := e.sz_eq
    have hlen := Ex.len_szL e.kids
    have hcd : l ++ e.cd = l ++ Ex.cdL e.kids ++ [lastI e] := by rw [Ex.cd_eq, List.append_assoc]
    refine callF_ofC' Tryz.func85 rfl Tryz.ntmps85 (by simp) ?_
    intro f0 B ns Q hB hns hQ
    have hc : c < B := hB c (by simp [hasKey, lk, cfoot])
    have hy : y < B := hB y (by simp [hasKey, lk, cfoot, hcy])
    obtain ⟨z, rfl⟩ : ∃ z, ns = [z] := by
      match ns, hns with
      | [x], _ => exact ⟨x, rfl⟩
    refine n_ ?_
    refine wpM_ren y (.cells 81 (insC l)) T_ T_ (Nat.le_refl _) rfl ?_
    refine S_ ?_
    refine g_ [0,3] ?_
    refine g_ [0,3,7,8,9] ?_
    refine n_ ?_
    refine wpM_loopS (fun q n s' => ∃ (i M Y : Nat), i + n = e.kids.length ∧ B + 2 ≤ M ∧ B ≤ Y ∧ Y < M ∧ Y ≠ B + 1 ∧ s' = { q with env := setE 9 (.int .i64 (i : Nat)) q.env, l := [(B + 1, .cells 50 e.cs)] ++ cfoot c Y (l ++ Ex.cdL (e.kids.take i)), M := M }) (e.kids.length) ?_ ?_
    ·
      refine .of' _ _ ⟨0, _, B, by omega, Nat.le_refl _, Nat.le_refl _, by omega, by omega, rfl⟩ ?_ ?_ ?_
      all_goals simp only [List.take_zero, Ex.cdL, List.append_nil]
      all_goals exact L_
    rintro n s' ⟨i, M, Y, hi, hM, hBY, hYM, hY1, rfl⟩
    have hcY : c ≠ Y := by omega
    try refine S_ ?_
    refine g_ [0,3,7,8,9,10] ?_
    refine c_ (fun hc0 => ?_) fun hc0 => ?_
    ·
      have hi2 : i < e.kids.length := by omega
      have hget := Ex.get_szL e.kids i hi2
      have htk := Ex.cdL_take e.kids i hi2
      have hln := Ex.cdL_pre e.kids (i + 1)
      rw [htk, List.length_append, Ex.cd_len] at hln
      have htk' : l ++ Ex.cdL (e.kids.take (i + 1)) = l ++ Ex.cdL (e.kids.take i) ++ (e.kids.getD i default).cd := by rw [htk, List.append_assoc]
      have hll : (l ++ Ex.cdL (e.kids.take i)).length + (e.kids.getD i default).sz ≤ 1099511627776 := by rw [List.length_append]; omega
      refine g_ [0,3,5,7,8,9] ?_
      refine wpM_regionK [0,3,7,8,9] rfl fun Q1 hQ1 => ?_
      refine S_ ?_
      refine call_fn (l := cfoot c Y (l ++ Ex.cdL (e.kids.take i))) (first := []) (cap := []) (ps := [.ptr c 0, .agg (e.kids.getD i default).cs]) (ih (e.kids.getD i default) (by omega) (by omega) c Y (l ++ Ex.cdL (e.kids.take i)) hcY hll) Tryz.call85 rfl rfl rfl G_ T_ ?_
      rintro out ⟨z', ⟨⟩, rfl⟩
      refine S_ ?_
      refine hQ1 _ _ (S_ ?_);clear hQ1 Q1
      refine g_ [0,3,7,8,9] ?_
      refine .of' _ _ ⟨n - 1, by omega, i + 1, _, M + 1, by omega, M_, M_, M_, M_, rfl⟩ ?_ ?_ ?_
      all_goals (try rw [htk'])
      all_goals exact L_
    refine n_ ?_
    have hie : i = e.kids.length := by omega
    rw [hie, List.take_of_length_le (Nat.le_refl _)]
    have hLl := Ex.cdL_len e.kids
    have hL2 : (l ++ Ex.cdL e.kids).length ≤ 1099511627776 := by rw [List.length_append]; omega
    generalize hL : l ++ Ex.cdL e.kids = L at *
    have key : ∀ i, lastI e = i → l ++ e.cd = L ++ [i] := by rintro i rfl; rw [hcd]
    refine g_ [0,3,18] ?_
    refine g_ [0,3,18,24] ?_
    refine c_ (fun hc1 => ?_) fun hc1 => ?_
    ·
      refine wpM_regionK [] rfl fun Q1 hQ1 => ?_
      refine S_ ?_
      refine call_fn (l := cfoot c Y L) (first := []) (cap := []) (ps := [.ptr c 0, .agg (GI.cs ⟨1, e.n, A0⟩)]) (cadd_ok c Y hcY L ⟨1, e.n, A0⟩ hL2) Tryz.call86 rfl rfl rfl G_ T_ ?_
      rintro out ⟨z', ⟨⟩, rfl⟩
      refine S_ ?_
      refine hQ1 _ _ (S_ ?_);clear hQ1 Q1
      refine hQ _ _ (retKn [M] [(c, some (cobj z (L ++ [(⟨1, e.n, A0⟩ : GI)]).length)), (y, none)] [(z, .cells 81 (insC (L ++ [(⟨1, e.n, A0⟩ : GI)])))] rfl rfl rfl (by rw [Tryz.results85] <;> simp (maxSteps := 1000000) -implicitDefEqProofs (disch := omega) only [go_sem] <;> rfl) ?_ ⟨z, rfl, by rw [key ⟨1, e.n, A0⟩ (by rw [lastI, if_pos hc1])]⟩ ?_ ?_ ?_ ?_ ?_ ?_)
      all_goals (first | (simp -implicitDefEqProofs (disch := omega) only [go_sem, List.nodup_cons, List.nodup_nil, true_or, or_true, List.mem_cons, List.not_mem_nil, if_true]; done) | (simp -implicitDefEqProofs (disch := omega) only [go_sem, List.nodup_cons, List.nodup_nil, true_or, or_true, List.mem_cons, List.not_mem_nil]; omega))
    refine g_ [0,3,18,31] ?_
    refine c_ (fun hc2 => ?_) fun hc2 => ?_
    ·
      refine wpM_regionK [] rfl fun Q1 hQ1 => ?_
      refine S_ ?_
      refine call_fn (l := cfoot c Y L) (first := []) (cap := []) (ps := [.ptr c 0, .agg (GI.cs ⟨2, 0, e.a⟩)]) (cadd_ok c Y hcY L ⟨2, 0, e.a⟩ hL2) Tryz.call86 rfl rfl rfl G_ T_ ?_
      rintro out ⟨z', ⟨⟩, rfl⟩
      refine S_ ?_
      refine hQ1 _ _ (S_ ?_);clear hQ1 Q1
      refine hQ _ _ (retKn [M] [(c, some (cobj z (L ++ [(⟨2, 0, e.a⟩ : GI)]).length)), (y, none)] [(z, .cells 81 (insC (L ++ [(⟨2, 0, e.a⟩ : GI)])))] rfl rfl rfl (by rw [Tryz.results85] <;> simp (maxSteps := 1000000) -implicitDefEqProofs (disch := omega) only [go_sem] <;> rfl) ?_ ⟨z, rfl, by rw [key ⟨2, 0, e.a⟩ (by rw [lastI, if_neg (by rw [hc1]; simp), if_pos hc2])]⟩ ?_ ?_ ?_ ?_ ?_ ?_)
      all_goals (first | (simp -implicitDefEqProofs (disch := omega) only [go_sem, List.nodup_cons, List.nodup_nil, true_or, or_true, List.mem_cons, List.not_mem_nil, if_true]; done) | (simp -implicitDefEqProofs (disch := omega) only [go_sem, List.nodup_cons, List.nodup_nil, true_or, or_true, List.mem_cons, List.not_mem_nil]; omega))
    refine g_ [0,3,38] ?_
    refine c_ (fun hc3 => ?_) fun hc3 => ?_
    ·
      refine wpM_regionK [] rfl fun Q1 hQ1 => ?_
      refine S_ ?_
      refine call_fn (l := cfoot c Y L) (first := []) (cap := []) (ps := [.ptr c 0, .agg (GI.cs ⟨5, 0, A0⟩)]) (cadd_ok c Y hcY L ⟨5, 0, A0⟩ hL2) Tryz.call86 rfl rfl rfl G_ T_ ?_
      rintro out ⟨z', ⟨⟩, rfl⟩
      refine S_ ?_
      refine hQ1 _ _ (S_ ?_);clear hQ1 Q1
      refine hQ _ _ (retKn [M] [(c, some (cobj z (L ++ [(⟨5, 0, A0⟩ : GI)]).length)), (y, none)] [(z, .cells 81 (insC (L ++ [(⟨5, 0, A0⟩ : GI)])))] rfl rfl rfl (by rw [Tryz.results85] <;> simp (maxSteps := 1000000) -implicitDefEqProofs (disch := omega) only [go_sem] <;> rfl) ?_ ⟨z, rfl, by rw [key ⟨5, 0, A0⟩ (by rw [lastI, if_neg (by rw [hc1]; simp), if_neg (by rw [hc2]; simp), if_pos hc3])]⟩ ?_ ?_ ?_ ?_ ?_ ?_)
      all_goals (first | (simp -implicitDefEqProofs (disch := omega) only [go_sem, List.nodup_cons, List.nodup_nil, true_or, or_true, List.mem_cons, List.not_mem_nil, if_true]; done) | (simp -implicitDefEqProofs (disch := omega) only [go_sem, List.nodup_cons, List.nodup_nil, true_or, or_true, List.mem_cons, List.not_mem_nil]; omega))
    refine wpM_regionK [] rfl fun Q1 hQ1 => ?_
    refine S_ ?_
    refine call_fn (l := cfoot c Y L) (first := []) (cap := []) (ps := [.ptr c 0, .agg (GI.cs ⟨4, e.kind, A0⟩)]) (cadd_ok c Y hcY L ⟨4, e.kind, A0⟩ hL2) Tryz.call86 rfl rfl rfl G_ T_ ?_
    rintro out ⟨z', ⟨⟩, rfl⟩
    refine S_ ?_
    refine hQ1 _ _ (S_ ?_);clear hQ1 Q1
    refine hQ _ _ (retKn [M] [(c, some (cobj z (L ++ [(⟨4, e.kind, A0⟩ : GI)]).length)), (y, none)] [(z, .cells 81 (insC (L ++ [(⟨4, e.kind, A0⟩ : GI)])))] rfl rfl rfl (by rw [Tryz.results85] <;> simp (maxSteps := 1000000) -implicitDefEqProofs (disch := omega) only [go_sem] <;> rfl) ?_ ⟨z, rfl, by rw [key ⟨4, e.kind, A0⟩ (by rw [lastI, if_neg (by rw [hc1]; simp), if_neg (by rw [hc2]; simp), if_neg (by rw [hc3]; simp)])]⟩ ?_ ?_ ?_ ?_ ?_ ?_)
    all_goals (first | (simp -implicitDefEqProofs (disch := omega) only [go_sem, List.nodup_cons, List.nodup_nil, true_or, or_true, List.mem_cons, List.not_mem_nil, if_true]; done) | (simp -implicitDefEqProofs (disch := omega) only [go_sem, List.nodup_cons, List.nodup_nil, true_or, or_true, List.mem_cons, List.not_mem_nil]; omega))
end Go.Proofs.YtmicbfojofcigaaGreatDoor
namespace Go.Proofs.YtmicbfojofcigaaGreatDoor
open Go Sg
set_option linter.unusedSectionVars false
variable [Glob]
set_option maxRecDepth 100000
set_option linter.unusedSimpArgs false
set_option linter.unusedVariables false
set_option linter.unusedSectionVars false
set_option maxHeartbeats 4000000
theorem landL_mid (X Y : List GI) (i : GI) : landL (X ++ i :: Y) X.length = X ++ ⟨i.op, ((X.length + 1 + Y.length : Nat) : Int), i.a⟩ :: Y := by
  unfold landL
  rw [List.set_append_right _ _ (Nat.le_refl _), Nat.sub_self, List.set_cons_zero]
  have : (X ++ i :: Y).getD X.length default = i := by simp [List.getD]
  rw [this]
  have h2 : (X ++ i :: Y).length = X.length + 1 + Y.length := by simp; omega
  rw [h2]
theorem Sm.szL_take (l : List Sm) (i : Nat) (h : i < l.length) : Sm.szL (l.take i) + (l.getD i default).sz ≤ Sm.szL l := by
  induction l generalizing i with
  | nil => simp at h
  | cons s l ih =>
    cases i with
    | zero => simp [Sm.szL]
    | succ i =>
      have := ih i (by simpa using h)
      simp only [List.take_succ_cons, Sm.szL, List.getD_cons_succ]; omega
theorem cstmts_ok : ∀ (N : Nat) (list : List Sm), Sm.szL list ≤ N → Sm.szL list ≤ 1000000000 → ∀ (c y : Nat) (l : List GI), c ≠ y → l.length + 2 * Sm.szL list ≤ 1099511627776 →
    CallF Tryz.prog 47 [.ptr c 0, .rows 52 (Sm.csL list)] (cfoot c y l) 1 (COk c y (l ++ Sm.cdL list l.length) []) := by
  intro N
  induction N with
  | zero =>
    intro list hN hs c y l hcy hl
    have h0 : list.length = 0 := by have := Sm.len_szL list; omega
    obtain rfl : list = [] := List.eq_nil_of_length_eq_zero h0
    refine callF_ofC' Tryz.func47 rfl Tryz.ntmps47 (by simp) ?_
    intro f0 B ns Q hB hns hQ
    have hc : c < B := hB c (by simp [hasKey, lk, cfoot])
    have hy : y < B := hB y (by simp [hasKey, lk, cfoot, hcy])
    obtain ⟨z, rfl⟩ : ∃ z, ns = [z] := by
      match ns, hns with
      | [x], _ => exact ⟨x, rfl⟩
    refine n_ ?_
    refine wpM_ren y (.cells 81 (insC l)) T_ T_ (Nat.le_refl _) rfl ?_
    refine S_ ?_
    refine g_ [0,10,11,12] ?_
    refine n_ ?_
    refine wpM_loopS (fun s n s' => s' = s) (0) ?_ ?_
    ·
      exact .here rfl
    rintro n s' rfl
    try refine S_ ?_
    refine g_ [0,10,11,12,13] ?_
    refine c_ (fun hc0 => ?_) fun hc0 => ?_
    · simp at hc0
    refine n_ ?_
    have hnil : l ++ Sm.cdL [] l.length = l := by simp [Sm.cdL]
    refine hQ _ _ (retKn [B] [(c, some (cobj z l.length)), (y, none)] [(z, .cells 81 (insC l))] rfl rfl rfl (by rw [Tryz.results47] <;> simp (maxSteps := 1000000) -implicitDefEqProofs (disch := omega) only [go_sem] <;> rfl) ?_ ⟨z, rfl, by rw [hnil]⟩ ?_ ?_ ?_ ?_ ?_ ?_)
    all_goals (first | (simp -implicitDefEqProofs (disch := omega) only [go_sem, List.nodup_cons, List.nodup_nil, true_or, or_true, List.mem_cons, List.not_mem_nil, if_true]; done) | (simp -implicitDefEqProofs (disch := omega) only [go_sem, List.nodup_cons, List.nodup_nil, true_or, or_true, List.mem_cons, List.not_mem_nil]; omega))
  | succ N ih =>
    intro list hN hs c y l hcy hl
    have hlen := Sm.len_szL list
    refine callF_ofC' Tryz.func47 rfl Tryz.ntmps47 (by simp) ?_
    intro f0 B ns Q hB hns hQ
    have hc : c < B := hB c (by simp [hasKey, lk, cfoot])
    have hy : y < B := hB y (by simp [hasKey, lk, cfoot, hcy])
    obtain ⟨z, rfl⟩ : ∃ z, ns = [z] := by
      match ns, hns with
      | [x], _ => exact ⟨x, rfl⟩
    refine n_ ?_
    refine wpM_ren y (.cells 81 (insC l)) T_ T_ (Nat.le_refl _) rfl ?_
    refine S_ ?_
    refine g_ [0,10,11,12] ?_
    refine n_ ?_
    refine wpM_loopS (fun q n s' => ∃ (i M Y : Nat) (L : List GI), i + n = list.length ∧ B + 1 ≤ M ∧ B ≤ Y ∧ Y < M ∧ L = l ++ Sm.cdL (list.take i) l.length ∧ s' = { q with env := setE 12 (.int .i64 (i : Nat)) q.env, l := cfoot c Y L, M := M }) (list.length) ?_ ?_
    ·
      refine .of' _ _ ⟨0, _, B, l, by omega, Nat.le_refl _, Nat.le_refl _, by omega, by simp [Sm.cdL], rfl⟩ ?_ ?_ ?_
      all_goals exact L_
    rintro n s' ⟨i, M, Y, L, hi, hM, hBY, hYM, hL, rfl⟩
    have hcY : c ≠ Y := by omega
    try refine S_ ?_
    refine g_ [0,10,11,12,13] ?_
    refine c_ (fun hc0 => ?_) fun hc0 => ?_
    ·
      have hi2 : i < list.length := by omega
      have hin := Sm.get_in hi2
      have htk := Sm.cdL_take list l.length i hi2
      have hst := Sm.szL_take list i hi2
      have hcl := Sm.cdL_len (list.take i) l.length
      have hLl : L.length = l.length + (Sm.cdL (list.take i) l.length).length := by rw [hL, List.length_append]
      have hsz := (list.getD i default).sz_eq
      have hE := Ex.cd_len (list.getD i default).e
      have hce := Sm.cd_eq (list.getD i default) L.length
      rw [← hLl] at htk
      have htk' : l ++ Sm.cdL (list.take (i + 1)) l.length = L ++ (list.getD i default).cd L.length := by rw [htk, hL, List.append_assoc]
      have hA1 := Sm.cdL_len (list.getD i default).th (L.length + (list.getD i default).e.cd.length + 1)
      have hLb : L.length + 2 * (list.getD i default).sz ≤ 1099511627776 := by omega
      clear hL htk hcl hLl
      refine g_ [0,5,10,11,12] ?_
      generalize hs' : list.getD i default = s at *
      refine g_ [0,5,6,10,11,12] ?_
      refine n_ ?_
      refine wpM_regionK [0,5,6,10,11,12] rfl fun Q1 hQ1 => ?_
      refine S_ ?_
      refine call_fn (l := cfoot c Y L) (first := []) (cap := []) (ps := [.ptr c 0, .agg s.e.cs]) (cexpr_ok _ s.e (Nat.le_refl _) (by omega) c Y L hcY (by omega)) Tryz.call85 rfl rfl rfl G_ T_ ?_
      rintro out ⟨z', ⟨⟩, rfl⟩
      refine S_ ?_
      refine hQ1 _ _ (S_ ?_);clear hQ1 Q1
      refine n_ ?_
      have hL1 : (L ++ s.e.cd).length = L.length + s.e.cd.length := List.length_append
      generalize hq1 : L ++ s.e.cd = L1 at *
      refine g_ [0,5,6,10,11,12,26] ?_
      refine g_ [0,5,6,10,11,12,26,27] ?_
      refine c_ (fun hc1 => ?_) fun hc1 => ?_
      ·
        refine wpM_regionK [0,10,11,12] rfl fun Q1 hQ1 => ?_
        refine S_ ?_
        refine call_fn (l := cfoot c (M + 1) L1) (first := []) (cap := []) (ps := [.ptr c 0, .agg (GI.cs ⟨3, 0, s.to'⟩)]) (cadd_ok c (M + 1) (by omega) L1 ⟨3, 0, s.to'⟩ (by omega)) Tryz.call86 rfl rfl rfl G_ T_ ?_
        rintro out ⟨z', ⟨⟩, rfl⟩
        refine S_ ?_
        refine hQ1 _ _ (S_ ?_);clear hQ1 Q1
        refine g_ [0,10,11,12] ?_
        have hnew : L ++ s.cd L.length = L1 ++ [(⟨3, 0, s.to'⟩ : GI)] := by rw [hce, if_pos hc1, ← hq1, List.append_assoc]
        refine .of' _ _ ⟨n - 1, by omega, i + 1, _, M + 2, L1 ++ [(⟨3, 0, s.to'⟩ : GI)], by omega, M_, M_, M_, by rw [← hnew, htk'], rfl⟩ L_ L_ L_
      refine g_ [0,5,6,10,11,12,26,34] ?_
      refine c_ (fun hc2 => ?_) fun hc2 => ?_
      ·
        refine n_ ?_
        refine wpM_regionK [0,5,7,10,11,12] rfl fun Q1 hQ1 => ?_
        refine S_ ?_
        refine call_fn (l := cfoot c (M + 1) L1) (first := []) (cap := []) (ps := [.ptr c 0, .agg (GI.cs ⟨6, 0, A0⟩)]) (cadd_ok c (M + 1) (by omega) L1 ⟨6, 0, A0⟩ (by omega)) Tryz.call86 rfl rfl rfl G_ T_ ?_
        rintro out ⟨z', ⟨⟩, rfl⟩
        refine S_ ?_
        refine hQ1 _ _ (S_ ?_);clear hQ1 Q1
        refine n_ ?_
        have hL2 : (L1 ++ [(⟨6, 0, A0⟩ : GI)]).length = L.length + s.e.cd.length + 1 := by rw [List.length_append, hL1]; rfl
        have hq2 : ∃ L2, L2 = L1 ++ [(⟨6, 0, A0⟩ : GI)] := ⟨_, rfl⟩
        obtain ⟨L2, hq2⟩ := hq2
        rw [← hq2] at hL2 ⊢
        refine wpM_regionK [0,5,7,10,11,12] rfl fun Q1 hQ1 => ?_
        refine S_ ?_
        refine call_fn (l := cfoot c (M + 2) L2) (first := []) (cap := []) (ps := [.ptr c 0, .rows 52 (Sm.csL s.th)]) (ih s.th (by omega) (by omega) c (M + 2) L2 (by omega) (by omega)) Tryz.call47 rfl rfl rfl G_ T_ ?_
        rintro out ⟨z', ⟨⟩, rfl⟩
        refine S_ ?_
        refine hQ1 _ _ (S_ ?_);clear hQ1 Q1
        refine n_ ?_
        rw [hL2]
        generalize hA : Sm.cdL s.th (L.length + s.e.cd.length + 1) = A at *
        refine wpM_regionK [0,5,7,8,10,11,12] rfl fun Q1 hQ1 => ?_
        refine S_ ?_
        refine call_fn (l := cfoot c (M + 3) (L2 ++ A)) (first := []) (cap := []) (ps := [.ptr c 0, .agg (GI.cs ⟨7, 0, A0⟩)]) (cadd_ok c (M + 3) (by omega) (L2 ++ A) ⟨7, 0, A0⟩ (by rw [List.length_append]; omega)) Tryz.call86 rfl rfl rfl G_ T_ ?_
        rintro out ⟨z', ⟨⟩, rfl⟩
        refine S_ ?_
        refine hQ1 _ _ (S_ ?_);clear hQ1 Q1
        refine n_ ?_
        have hK : L2 ++ A ++ [(⟨7, 0, A0⟩ : GI)] = L1 ++ (⟨6, 0, A0⟩ : GI) :: (A ++ [⟨7, 0, A0⟩]) := by rw [hq2]; simp
        have hland := landL_mid L1 (A ++ [(⟨7, 0, A0⟩ : GI)]) ⟨6, 0, A0⟩
        rw [← hK] at hland
        have hK3 : (L2 ++ A ++ [(⟨7, 0, A0⟩ : GI)]).length = L1.length + 1 + A.length + 1 := by rw [hK]; simp; omega
        generalize hL3 : L2 ++ A ++ [(⟨7, 0, A0⟩ : GI)] = L3 at *
        refine wpM_regionK [0,5,8,10,11,12] rfl fun Q1 hQ1 => ?_
        refine S_ ?_
        refine call_fn (l := cfoot c (M + 4) L3) (first := []) (cap := []) (ps := [.ptr c 0, .int .i64 (L1.length : Nat)]) (land_ok c (M + 4) (by omega) L3 L1.length (by omega) (by omega)) Tryz.call87 rfl rfl rfl G_ T_ ?_
        rintro out rfl
        refine S_ ?_
        refine hQ1 _ _ (S_ ?_);clear hQ1 Q1
        refine n_ ?_
        rw [hland]
        have hL4 : (L1 ++ (⟨6, ((L1.length + 1 + (A ++ [(⟨7, 0, A0⟩ : GI)]).length : Nat) : Int), A0⟩ : GI) :: (A ++ [⟨7, 0, A0⟩])).length = L.length + s.e.cd.length + 1 + A.length + 1 := by simp; omega
        have hA2 := Sm.cdL_len s.el (L.length + s.e.cd.length + 1 + A.length + 1)
        have hq4 : ∃ L4, L4 = L1 ++ (⟨6, ((L1.length + 1 + (A ++ [(⟨7, 0, A0⟩ : GI)]).length : Nat) : Int), A0⟩ : GI) :: (A ++ [⟨7, 0, A0⟩]) := ⟨_, rfl⟩
        obtain ⟨L4, hq4⟩ := hq4
        rw [← hq4] at hL4 ⊢
        have hL3l : L3.length = L4.length := by omega
        have h7 : (L2 ++ A).length = L.length + s.e.cd.length + 1 + A.length := by rw [List.length_append]; omega
        rw [hL3l]
        refine wpM_regionK [0,8,10,11,12] rfl fun Q1 hQ1 => ?_
        refine S_ ?_
        refine call_fn (l := cfoot c (M + 4) L4) (first := []) (cap := []) (ps := [.ptr c 0, .rows 52 (Sm.csL s.el)]) (ih s.el (by omega) (by omega) c (M + 4) L4 (by omega) (by omega)) Tryz.call47 rfl rfl rfl G_ T_ ?_
        rintro out ⟨z', ⟨⟩, rfl⟩
        refine S_ ?_
        refine hQ1 _ _ (S_ ?_);clear hQ1 Q1
        rw [hL4, h7]
        generalize hBc : Sm.cdL s.el (L.length + s.e.cd.length + 1 + A.length + 1) = Bc at *
        have hX : (L1 ++ (⟨6, ((L1.length + 1 + (A ++ [(⟨7, 0, A0⟩ : GI)]).length : Nat) : Int), A0⟩ : GI) :: A).length = L.length + s.e.cd.length + 1 + A.length := by simp; omega
        have hland2 := landL_mid (L1 ++ (⟨6, ((L1.length + 1 + (A ++ [(⟨7, 0, A0⟩ : GI)]).length : Nat) : Int), A0⟩ : GI) :: A) Bc ⟨7, 0, A0⟩
        have hL5 : L4 ++ Bc = (L1 ++ (⟨6, ((L1.length + 1 + (A ++ [(⟨7, 0, A0⟩ : GI)]).length : Nat) : Int), A0⟩ : GI) :: A) ++ (⟨7, 0, A0⟩ : GI) :: Bc := by rw [hq4]; simp
        have hL5l : (L4 ++ Bc).length = L4.length + Bc.length := List.length_append
        rw [← hL5, hX] at hland2
        generalize hq5 : L4 ++ Bc = L5 at *
        refine wpM_regionK [0,10,11,12] rfl fun Q1 hQ1 => ?_
        refine S_ ?_
        refine call_fn (l := cfoot c (M + 5) L5) (first := []) (cap := []) (ps := [.ptr c 0, .int .i64 ((L.length + s.e.cd.length + 1 + A.length : Nat) : Int)]) (land_ok c (M + 5) (by omega) L5 (L.length + s.e.cd.length + 1 + A.length) (by omega) (by omega)) Tryz.call87 rfl rfl rfl G_ T_ ?_
        rintro out rfl
        refine S_ ?_
        refine hQ1 _ _ (S_ ?_);clear hQ1 Q1
        refine g_ [0,10,11,12] ?_
        have hnew : L ++ s.cd L.length = landL L5 (L.length + s.e.cd.length + 1 + A.length) := by
          rw [hce, if_neg (by rw [hc1]; simp), if_pos hc2, hland2, ← hq1]
          simp [hL1]
          omega
        refine .of' _ _ ⟨n - 1, by omega, i + 1, _, M + 5, landL L5 (L.length + s.e.cd.length + 1 + A.length), by omega, M_, M_, M_, by rw [← hnew, htk'], rfl⟩ L_ L_ L_
      refine g_ [0,5,6,10,11,12,56] ?_
      refine c_ (fun hc3 => ?_) fun hc3 => ?_
      ·
        refine n_ ?_
        refine wpM_regionK [0,5,6,9,10,11,12] rfl fun Q1 hQ1 => ?_
        refine S_ ?_
        refine call_fn (l := cfoot c (M + 1) L1) (first := []) (cap := []) (ps := [.ptr c 0, .agg (GI.cs ⟨6, 0, A0⟩)]) (cadd_ok c (M + 1) (by omega) L1 ⟨6, 0, A0⟩ (by omega)) Tryz.call86 rfl rfl rfl G_ T_ ?_
        rintro out ⟨z', ⟨⟩, rfl⟩
        refine S_ ?_
        refine hQ1 _ _ (S_ ?_);clear hQ1 Q1
        refine n_ ?_
        have hL2 : (L1 ++ [(⟨6, 0, A0⟩ : GI)]).length = L.length + s.e.cd.length + 1 := by rw [List.length_append, hL1]; rfl
        have hq2 : ∃ L2, L2 = L1 ++ [(⟨6, 0, A0⟩ : GI)] := ⟨_, rfl⟩
        obtain ⟨L2, hq2⟩ := hq2
        rw [← hq2] at hL2 ⊢
        refine wpM_regionK [0,6,9,10,11,12] rfl fun Q1 hQ1 => ?_
        refine S_ ?_
        refine call_fn (l := cfoot c (M + 2) L2) (first := []) (cap := []) (ps := [.ptr c 0, .rows 52 (Sm.csL s.th)]) (ih s.th (by omega) (by omega) c (M + 2) L2 (by omega) (by omega)) Tryz.call47 rfl rfl rfl G_ T_ ?_
        rintro out ⟨z', ⟨⟩, rfl⟩
        refine S_ ?_
        refine hQ1 _ _ (S_ ?_);clear hQ1 Q1
        refine n_ ?_
        rw [hL2]
        generalize hA : Sm.cdL s.th (L.length + s.e.cd.length + 1) = A at *
        refine wpM_regionK [0,9,10,11,12] rfl fun Q1 hQ1 => ?_
        refine S_ ?_
        refine call_fn (l := cfoot c (M + 3) (L2 ++ A)) (first := []) (cap := []) (ps := [.ptr c 0, .agg (GI.cs ⟨8, (L.length : Nat), A0⟩)]) (cadd_ok c (M + 3) (by omega) (L2 ++ A) ⟨8, (L.length : Nat), A0⟩ (by rw [List.length_append]; omega)) Tryz.call86 rfl rfl rfl G_ T_ ?_
        rintro out ⟨z', ⟨⟩, rfl⟩
        refine S_ ?_
        refine hQ1 _ _ (S_ ?_);clear hQ1 Q1
        have hK : L2 ++ A ++ [(⟨8, (L.length : Nat), A0⟩ : GI)] = L1 ++ (⟨6, 0, A0⟩ : GI) :: (A ++ [⟨8, (L.length : Nat), A0⟩]) := by rw [hq2]; simp
        have hland := landL_mid L1 (A ++ [(⟨8, (L.length : Nat), A0⟩ : GI)]) ⟨6, 0, A0⟩
        rw [← hK] at hland
        have hK3 : (L2 ++ A ++ [(⟨8, (L.length : Nat), A0⟩ : GI)]).length = L1.length + 1 + A.length + 1 := by rw [hK]; simp; omega
        generalize hL3 : L2 ++ A ++ [(⟨8, (L.length : Nat), A0⟩ : GI)] = L3 at *
        refine wpM_regionK [0,10,11,12] rfl fun Q1 hQ1 => ?_
        refine S_ ?_
        refine call_fn (l := cfoot c (M + 4) L3) (first := []) (cap := []) (ps := [.ptr c 0, .int .i64 (L1.length : Nat)]) (land_ok c (M + 4) (by omega) L3 L1.length (by omega) (by omega)) Tryz.call87 rfl rfl rfl G_ T_ ?_
        rintro out rfl
        refine S_ ?_
        refine hQ1 _ _ (S_ ?_);clear hQ1 Q1
        refine g_ [0,10,11,12] ?_
        have hnew : L ++ s.cd L.length = landL L3 L1.length := by
          rw [hce, if_neg (by rw [hc1]; simp), if_neg (by rw [hc2]; simp), if_pos hc3, hland, ← hq1]
          simp [hL1]
          omega
        refine .of' _ _ ⟨n - 1, by omega, i + 1, _, M + 4, landL L3 L1.length, by omega, M_, M_, M_, by rw [← hnew, htk'], rfl⟩ L_ L_ L_
      refine g_ [0,10,11,12] ?_
      have hnew : L ++ s.cd L.length = L1 := by
        rw [hce, if_neg (by rw [hc1]; simp), if_neg (by rw [hc2]; simp), if_neg (by rw [hc3]; simp), hq1]
      refine .of' _ _ ⟨n - 1, by omega, i + 1, _, M + 1, L1, by omega, M_, M_, M_, by rw [← hnew, htk'], rfl⟩ L_ L_ L_
    refine n_ ?_
    obtain rfl : i = list.length := by omega
    rw [List.take_of_length_le (Nat.le_refl _)] at hL
    refine hQ _ _ (retKn [Y] [(c, some (cobj z L.length)), (y, none)] [(z, .cells 81 (insC L))] rfl rfl rfl (by rw [Tryz.results47] <;> simp (maxSteps := 1000000) -implicitDefEqProofs (disch := omega) only [go_sem] <;> rfl) ?_ ⟨z, rfl, by rw [hL]⟩ ?_ ?_ ?_ ?_ ?_ ?_)
    all_goals (first | (simp -implicitDefEqProofs (disch := omega) only [go_sem, List.nodup_cons, List.nodup_nil, true_or, or_true, List.mem_cons, List.not_mem_nil, if_true]; done) | (simp -implicitDefEqProofs (disch := omega) only [go_sem, List.nodup_cons, List.nodup_nil, true_or, or_true, List.mem_cons, List.not_mem_nil]; omega))
end Go.Proofs.YtmicbfojofcigaaGreatDoor
namespace Go.Proofs.YtmicbfojofcigaaGreatDoor
open Go Sg
set_option maxRecDepth 100000
set_option linter.unusedSimpArgs false
set_option linter.unusedVariables false
set_option linter.unusedSectionVars false
set_option maxHeartbeats 4000000
variable [ErrL]
def codeOf (l : List Sm) : List GI := if okS l then Sm.cdL l 0 else []
theorem icodeOf_ok (l : List Sm) (hs : Sm.szL l ≤ 1000000000) : PureF Tryz.prog 19 [.rows 52 (Sm.csL l)] [.rows 81 (insR (codeOf l))] := by
  refine pureF_of Tryz.func19 rfl Tryz.ntmps19 (by simp) T_ ?_
  intro f0 B Q hQ
  refine g_ [0] ?_
  refine n_ ?_
  refine wpM_regionK [0,6] rfl fun Q1 hQ1 => ?_
  refine S_ ?_
  refine cp_ (istmtsOk_ok l (by omega)) Tryz.call24 ?_
  refine hQ1 _ _ (S_ ?_);clear hQ1 Q1
  refine c_ (fun hc0 => ?_) fun hc0 => ?_
  ·
    refine g_ [2] ?_
    have hcs : codeOf l = [] := by rw [codeOf, if_neg]; intro h; rw [h] at hc0; cases hc0
    refine wpM_le [(2, .rows 81 [])] [] T_ T_ T_ ?_
    refine e_ Tryz.results19 ?_
    first
    | exact True.intro
    | rw [hcs]
      try rfl
  refine g_ [0,3] ?_
  have hok : okS l = true := by simpa using hc0
  have hcs : codeOf l = Sm.cdL l 0 := by rw [codeOf, if_pos hok]
  refine wpM_nil 81 [(0, .rows 52 (Sm.csL l)), (3, .ptr B 0)] [(B, .cells 78 [.sl 81 (B + 1) 0 0])] T_ T_ T_ ?_
  refine S_ ?_
  refine n_ ?_
  refine wpM_regionK [3] rfl fun Q1 hQ1 => ?_
  refine S_ ?_
  refine call_fn (l := cfoot B (B + 1) []) (first := []) (cap := []) (ps := [.ptr B 0, .rows 52 (Sm.csL l)]) (cstmts_ok _ l (Nat.le_refl _) hs B (B + 1) [] (by omega) (by simp; omega)) Tryz.call47 rfl rfl rfl G_ (by simp -implicitDefEqProofs (disch := omega) only [go_sem, List.length_nil]) ?_
  rintro out ⟨z', ⟨⟩, rfl⟩
  refine S_ ?_
  refine hQ1 _ _ (S_ ?_);clear hQ1 Q1
  refine g_ [2] ?_
  refine wpM_frz [B + 2] [(81, B + 2, 0, (Sm.cdL l 0).length, insR (Sm.cdL l 0))] (by intro q hq; simp at hq; subst hq; simp -implicitDefEqProofs (disch := omega) only [go_sem]) (by intro q hq; simp only [List.mem_cons, List.not_mem_nil, or_false] at hq; subst hq; exact ⟨by simp, rowsOf_insC (T := 81) T_ rfl⟩) ?_
  refine S_ ?_
  refine e_ Tryz.results19 ?_
  first
  | exact True.intro
  | rw [hcs]
    try rfl
theorem l5Expr_ok (d : Nat) : ∀ (e : Ex), formD d e = true → e.sz ≤ 1000000000 → CallF Tryz.prog 118 [.agg e.cs] [] 1 (fun ns o => ∃ z, ns = [z] ∧ o = { rs := [.sl 81 z 0 e.cd.length], nw := [(z, .cells 81 (insC e.cd))] }) := by
  induction d with
  | zero => intro e h; cases h
  | succ d ih =>
    intro e he hs
    obtain ⟨hk, ha, hkids⟩ := form_inv he
    have hsz := e.sz_eq
    have hcd := e.cd_eq
    refine callF_of' Tryz.func118 rfl Tryz.ntmps118 (by simp) ?_
    intro f0 B ns Q hB hns hQ
    obtain ⟨z, rfl⟩ : ∃ z, ns = [z] := by
      match ns, hns with
      | [x], _ => exact ⟨x, rfl⟩
    refine g_ [1] ?_
    refine g_ [1,4] ?_
    refine g_ [1,4,5] ?_
    refine c_ (fun hc0 => ?_) fun hc0 => ?_
    ·
      have h1 : e.kind = 1 := by simpa using hc0
      have hk0 : e.kids = [] := List.eq_nil_of_length_eq_zero (by rw [h1] at hk; simp [kidsN] at hk; omega)
      have hcd' : e.cd = [⟨1, e.n, A0⟩] := by rw [hcd, hk0, lastI, if_pos hc0]; rfl
      refine g_ [2] ?_
      refine wpM_ret ?_
      try refine S_ ?_
      rw [hcd'] at hQ
      refine hQ _ _ (retK [B + 1] [] [(z, .cells 81 (insC ([(⟨1, e.n, A0⟩ : GI)])))] rfl rfl rfl (by rw [Tryz.results118] <;> simp (maxSteps := 1000000) -implicitDefEqProofs (disch := omega) only [go_sem] <;> rfl) ?_ ⟨z, rfl, rfl⟩ ?_ ?_ ?_ ?_ ?_ ?_)
      all_goals (first | (simp -implicitDefEqProofs (disch := omega) only [go_sem, List.nodup_cons, List.nodup_nil, true_or, or_true, List.mem_cons, List.not_mem_nil, if_true, List.length_append]; done) | (simp -implicitDefEqProofs (disch := omega) only [go_sem, List.nodup_cons, List.nodup_nil, true_or, or_true, List.mem_cons, List.not_mem_nil, List.length_append]; first | rfl | omega))
    refine g_ [1,4,11] ?_
    refine c_ (fun hc1 => ?_) fun hc1 => ?_
    ·
      have h1 : e.kind = 2 := by simpa using hc1
      have hk0 : e.kids = [] := List.eq_nil_of_length_eq_zero (by rw [h1] at hk; simp [kidsN] at hk; omega)
      have hcd' : e.cd = [⟨2, 0, e.a⟩] := by rw [hcd, hk0, lastI, if_neg (by rw [hc0]; simp), if_pos hc1]; rfl
      refine g_ [2] ?_
      refine wpM_ret ?_
      try refine S_ ?_
      rw [hcd'] at hQ
      refine hQ _ _ (retK [B + 1] [] [(z, .cells 81 (insC ([(⟨2, 0, e.a⟩ : GI)])))] rfl rfl rfl (by rw [Tryz.results118] <;> simp (maxSteps := 1000000) -implicitDefEqProofs (disch := omega) only [go_sem] <;> rfl) ?_ ⟨z, rfl, rfl⟩ ?_ ?_ ?_ ?_ ?_ ?_)
      all_goals (first | (simp -implicitDefEqProofs (disch := omega) only [go_sem, List.nodup_cons, List.nodup_nil, true_or, or_true, List.mem_cons, List.not_mem_nil, if_true, List.length_append]; done) | (simp -implicitDefEqProofs (disch := omega) only [go_sem, List.nodup_cons, List.nodup_nil, true_or, or_true, List.mem_cons, List.not_mem_nil, List.length_append]; first | rfl | omega))
    refine g_ [1,17] ?_
    refine c_ (fun hc2 => ?_) fun hc2 => ?_
    ·
      have h1 : e.kind = 10 := by simpa using hc2
      have hk0 : e.kids.length = 1 := by rw [h1] at hk; simp [kidsN] at hk; omega
      have hg0 : 0 < e.kids.length := by omega
      have hs0 := Ex.get_szL e.kids 0 hg0
      have hb0 : (e.kids.getD 0 default).cd.length ≤ 1000000000 := by rw [Ex.cd_len]; omega
      have hcd' : e.cd = (e.kids.getD 0 default).cd ++ [⟨5, 0, A0⟩] := by
        rw [hcd, lastI, if_neg (by rw [hc0]; simp), if_neg (by rw [hc1]; simp), if_pos hc2]
        congr 1
        match hkk : e.kids, hk0 with
        | [x], _ => simp [Ex.cdL]
      refine n_ ?_
      refine wpM_regionK [2] rfl fun Q1 hQ1 => ?_
      refine S_ ?_
      refine call_fn (l := []) (first := []) (cap := []) (ps := [.agg (e.kids.getD 0 default).cs]) (ih (e.kids.getD 0 default) (hkids 0 hg0) (by omega)) Tryz.call118 rfl rfl rfl G_ T_ ?_
      rintro out ⟨z', ⟨⟩, rfl⟩
      refine S_ ?_
      refine hQ1 _ _ (S_ ?_);clear hQ1 Q1
      refine wpM_ret ?_
      try refine S_ ?_
      rw [hcd'] at hQ
      refine hQ _ _ (retK [B + 3] [] [(z, .cells 81 (insC ((e.kids.getD 0 default).cd ++ [(⟨5, 0, A0⟩ : GI)])))] rfl rfl rfl (by rw [Tryz.results118] <;> simp (maxSteps := 1000000) -implicitDefEqProofs (disch := omega) only [go_sem] <;> rfl) ?_ ⟨z, rfl, rfl⟩ ?_ ?_ ?_ ?_ ?_ ?_)
      all_goals (first | (simp -implicitDefEqProofs (disch := omega) only [go_sem, List.nodup_cons, List.nodup_nil, true_or, or_true, List.mem_cons, List.not_mem_nil, if_true, List.length_append]; done) | (simp -implicitDefEqProofs (disch := omega) only [go_sem, List.nodup_cons, List.nodup_nil, true_or, or_true, List.mem_cons, List.not_mem_nil, List.length_append]; first | rfl | omega))
    have h2' := kidsN_two hc0 hc1 hc2 (by omega)
    have hk2 : e.kids.length = 2 := by omega
    have hg0 : 0 < e.kids.length := by omega
    have hg1 : 1 < e.kids.length := by omega
    have hs0 := Ex.get_szL e.kids 0 hg0
    have hs1 := Ex.get_szL e.kids 1 hg1
    have hcd' : e.cd = (e.kids.getD 0 default).cd ++ (e.kids.getD 1 default).cd ++ [⟨4, e.kind, A0⟩] := by
      rw [hcd, lastI, if_neg (by rw [hc0]; simp), if_neg (by rw [hc1]; simp), if_neg (by rw [hc2]; simp)]
      congr 1
      match hkk : e.kids, hk2 with
      | [x, y], _ => simp [Ex.cdL]
    have hcl : (e.kids.getD 0 default).cd.length + (e.kids.getD 1 default).cd.length ≤ 2000000000 := by rw [Ex.cd_len, Ex.cd_len]; omega
    refine n_ ?_
    refine dr_ mixed [2] 5 1 [B, B + 1, B + 2, B + 3, B + 4, B + 5] [⟨[1],[],[],[],false⟩,⟨[27],[0],[],[],false⟩,⟨[28],[],[],[],false⟩,⟨[29],[],[],[],false⟩,⟨[30],[],[],[1],true⟩,⟨[1],[],[],[],false⟩,⟨[32],[0],[],[],false⟩,⟨[33],[],[],[],false⟩,⟨[34],[],[],[],false⟩,⟨[35],[],[],[2],true⟩,⟨[31,36],[1,2],[1],[3],false⟩,⟨[1],[],[],[],false⟩,⟨[38],[0],[],[],false⟩,⟨[39],[],[],[],false⟩,⟨[40],[],[],[4],false⟩,⟨[37,41],[3,4],[3],[5],false⟩,⟨[42],[],[],[],false⟩] [0,1,2,3,5,6,7,8,11,12,13,14,4,9,10,15,16] [[],[0],[0,1],[0,1,2],[0,1,2,3],[],[5],[5,6],[5,6,7],[0,1,2,3,4,5,6,7,8],[0,1,2,3,4,5,6,7,8,9],[],[11],[11,12],[11,12,13],[0,1,2,3,4,5,6,7,8,9,10,11,12,13,14],[0,1,2,3,4,5,6,7,8,9,10,11,12,13,14,15]] 6 ?_
    intro O A K hO hA hK;simp only [atL_cons,atL_nil,Nat.reduceAdd,Nat.zero_add] at hO hA
    simp -implicitDefEqProofs (disch := omega) only [go_sem, List.length_append, hO, hA]
    refine loud_fn (first := []) (cap := []) (ps := [.agg (e.kids.getD 0 default).cs]) (l := []) (ih (e.kids.getD 0 default) (hkids 0 hg0) (by omega)) Tryz.call118 rfl rfl F_ (subG_spec T_) rfl ?_
    rintro out ⟨z', ⟨⟩, rfl⟩
    refine ⟨rfl, ?_⟩
    simp -implicitDefEqProofs (disch := omega) only [go_sem, List.length_append, hO, hA]
    refine loud_fn (first := []) (cap := []) (ps := [.agg (e.kids.getD 1 default).cs]) (l := []) (ih (e.kids.getD 1 default) (hkids 1 hg1) (by omega)) Tryz.call118 rfl rfl F_ (subG_spec T_) rfl ?_
    rintro out ⟨z', ⟨⟩, rfl⟩
    refine ⟨rfl, ?_⟩
    simp -implicitDefEqProofs (disch := omega) only [go_sem, List.length_append, hO, hA]
    refine hK _ (S_ ?_);clear hK K hO hA O A
    refine wpM_ret ?_
    try refine S_ ?_
    rw [hcd'] at hQ
    refine hQ _ _ (retK [B + 5] [] [(z, .cells 81 (insC ((e.kids.getD 0 default).cd ++ (e.kids.getD 1 default).cd ++ [(⟨4, e.kind, A0⟩ : GI)])))] rfl rfl rfl (by rw [Tryz.results118] <;> simp (maxSteps := 1000000) -implicitDefEqProofs (disch := omega) only [go_sem] <;> rfl) ?_ ⟨z, rfl, rfl⟩ ?_ ?_ ?_ ?_ ?_ ?_)
    all_goals (first | (simp -implicitDefEqProofs (disch := omega) only [go_sem, List.nodup_cons, List.nodup_nil, true_or, or_true, List.mem_cons, List.not_mem_nil, if_true, List.length_append]; done) | (simp -implicitDefEqProofs (disch := omega) only [go_sem, List.nodup_cons, List.nodup_nil, true_or, or_true, List.mem_cons, List.not_mem_nil, List.length_append]; first | rfl | omega))
end Go.Proofs.YtmicbfojofcigaaGreatDoor
namespace Go.Proofs.YtmicbfojofcigaaGreatDoor
open Go Sg
set_option maxRecDepth 100000
set_option linter.unusedSimpArgs false
set_option linter.unusedVariables false
set_option linter.unusedSectionVars false
set_option maxHeartbeats 4000000
variable [ErrL]
mutual
def Sm.cln : Sm → Nat
  | .mk k _ e th el => if k == 1 then e.sz + 1 else if k == 2 then e.sz + 1 + Sm.clnL th + 1 + Sm.clnL el else if k == 3 then e.sz + 1 + Sm.clnL th + 1 else e.sz
def Sm.clnL : List Sm → Nat | [] => 0 | s :: l => s.cln + Sm.clnL l
end
theorem Sm.cln_eq (s : Sm) : s.cln = if s.kind == 1 then s.e.sz + 1 else if s.kind == 2 then s.e.sz + 1 + Sm.clnL s.th + 1 + Sm.clnL s.el else if s.kind == 3 then s.e.sz + 1 + Sm.clnL s.th + 1 else s.e.sz := by cases s; simp only [Sm.cln, Sm.kind, Sm.e, Sm.th, Sm.el] <;> rfl
theorem Sm.clnL_app (l r : List Sm) : Sm.clnL (l ++ r) = Sm.clnL l + Sm.clnL r := by
  induction l with
  | nil => simp [Sm.clnL]
  | cons s l ih => simp only [List.cons_append, Sm.clnL, ih]; omega
mutual
theorem Sm.cd_cln : (s : Sm) → (k : Nat) → (s.cd k).length = s.cln
  | .mk kd a e th el, k => by
    simp only [Sm.cd, Sm.cln]
    repeat' split
    all_goals simp only [List.length_append, List.length_cons, List.length_nil, Ex.cd_len, Sm.cdL_cln th, Sm.cdL_cln el]
theorem Sm.cdL_cln : (l : List Sm) → (k : Nat) → (Sm.cdL l k).length = Sm.clnL l
  | [], k => rfl
  | s :: l, k => by simp only [Sm.cdL, Sm.clnL, List.length_append, Sm.cd_cln s, Sm.cdL_cln l]
end
theorem rb_cln (s : Sm) : Sm.clnL (rb s) ≤ s.cln := by
  have := s.cln_eq
  unfold rb
  split
  · simp [Sm.clnL]
  · split
    · rename_i h
      simp only [Bool.and_eq_true] at h
      have h1 : s.kind = 2 := by simpa using h.1.1
      rw [this, if_neg (by simp [h1]), if_pos (by simp [h1])]; omega
    · split
      · rename_i h
        simp only [Bool.and_eq_true] at h
        have h1 : s.kind = 2 := by simpa using h.1
        rw [this, if_neg (by simp [h1]), if_pos (by simp [h1])]; omega
      · simp [Sm.clnL]
mutual
theorem Sm.sl_cln : (s : Sm) → Sm.clnL s.sl ≤ s.cln
  | .mk k a e th el => by
    rw [Sm.sl]
    refine Nat.le_trans (rb_cln _) ?_
    simp only [Sm.cln]
    have := Sm.slL_cln th
    have := Sm.slL_cln el
    have := e.slim_sz
    repeat' split
    all_goals omega
theorem Sm.slL_cln : (l : List Sm) → Sm.clnL (Sm.slL l) ≤ Sm.clnL l
  | [] => Nat.le_refl _
  | s :: l => by
    simp only [Sm.slL, Sm.clnL_app, Sm.clnL]
    have := Sm.sl_cln s
    have := Sm.slL_cln l
    omega
end
theorem codeOf_slL {l : List Sm} (h : okS l = true) : (codeOf (Sm.slL l)).length ≤ (codeOf l).length := by
  rw [codeOf, codeOf, if_pos h, if_pos (slL_ok h), Sm.cdL_cln, Sm.cdL_cln]
  exact Sm.slL_cln l
end Go.Proofs.YtmicbfojofcigaaGreatDoor
namespace Go.Proofs.YtmicbfojofcigaaGreatDoor
open Go Sg
set_option maxRecDepth 100000
set_option linter.unusedSimpArgs false
set_option linter.unusedVariables false
set_option linter.unusedSectionVars false
set_option maxHeartbeats 4000000
variable [ErrL]
theorem lawStmts_ok (code more : List Nat) (hcode : ∀ x ∈ code, x < 256) (hmore : ∀ x ∈ more, x < 256) : PureF Tryz.prog 6 [.rows 5 (u8s code), .rows 5 (u8s more)] [.bool true] := by
  refine pureF_of Tryz.func6 rfl Tryz.ntmps6 (by simp) T_ ?_
  intro f0 B Q hQ
  refine g_ [0,1] ?_
  refine gD_ [0,1,23] ?_
  refine c_ (fun hc0 => ?_) fun hc0 => ?_
  ·
    refine g_ [4] ?_
    refine e_ Tryz.results6 ?_
    first
    | exact True.intro
    | trivial
  have hl2 : code.length ≤ 1099511627776 ∧ more.length ≤ 1099511627776 := by
    have := hc0
    simp at this
    omega
  refine n_ ?_
  refine wpM_regionK [1,5] rfl fun Q1 hQ1 => ?_
  refine S_ ?_
  refine call_fn (l := []) (first := []) (cap := []) (ps := [.rows 5 (u8s code)]) (drawSlim_ok code hcode hl2.1) Tryz.call9 rfl rfl rfl G_ T_ ?_
  rintro out ⟨l, hsz, rfl⟩
  refine S_ ?_
  refine hQ1 _ _ (S_ ?_);clear hQ1 Q1
  refine n_ ?_
  have hz1 := slimT_sz l
  refine wpM_regionK [1,5,6] rfl fun Q1 hQ1 => ?_
  refine S_ ?_
  refine cp_ (islimS_ok l (by omega)) Tryz.call10 ?_
  refine hQ1 _ _ (S_ ?_);clear hQ1 Q1
  refine n_ ?_
  refine wpM_regionK [1,5,6,32] rfl fun Q1 hQ1 => ?_
  simp -implicitDefEqProofs (disch := omega) only [go_sem, same_self]
  refine call_p (sslimS_ok l (by omega)) Tryz.call12 rfl rfl rfl (by first | rfl | (simp -implicitDefEqProofs (disch := omega) only [go_sem] <;> rfl)) ?_
  simp -implicitDefEqProofs (disch := omega) only [go_sem, same_self]
  refine call_p (smSame_ok _ (slimT l) (slimT l) rfl (by omega)) Tryz.call11 rfl rfl rfl (by first | rfl | (simp -implicitDefEqProofs (disch := omega) only [go_sem] <;> rfl)) ?_
  simp -implicitDefEqProofs (disch := omega) only [go_sem, same_self]
  refine hQ1 _ _ (S_ ?_);clear hQ1 Q1
  refine c1_ ?_
  refine n_ ?_
  refine wpM_regionK [1,5,6,35] rfl fun Q1 hQ1 => ?_
  refine S_ ?_
  refine cp_ (stmtsOk_ok l (by omega)) Tryz.call13 ?_
  refine hQ1 _ _ (S_ ?_);clear hQ1 Q1
  refine c_ (fun hc2 => ?_) fun hc2 => ?_
  ·
    refine g_ [4] ?_
    refine e_ Tryz.results6 ?_
    first
    | exact True.intro
    | have : slimT l = [] := by rw [slimT, if_neg]; intro h; simp [h] at hc2
      rw [this]; rfl
  have hok : okS l = true := by simpa using hc2
  have hT := slimT_ok hok
  have hokT : okS (slimT l) = true := by rw [hT]; exact slL_ok hok
  have hr : ∀ m F, runS m (slimT l) F = runS m l F := by
    intro m F
    rw [hT, runS_slL m hok]
  have hmn : manyOk (slimT l) ≤ manyOk l := by rw [hT]; exact manyOk_slL hok
  have hcl : (codeOf (slimT l)).length ≤ (codeOf l).length := by rw [hT]; exact codeOf_slL hok
  refine n_ ?_
  refine wpM_regionK [5,6,7,9] rfl fun Q1 hQ1 => ?_
  refine S_ ?_
  refine call_fn (l := []) (first := []) (cap := []) (ps := [.rows 5 (u8s more)]) (drawRun_ok more hmore hl2.2) Tryz.call15 rfl rfl rfl G_ T_ ?_
  rintro out ⟨m, l9, F, ⟨hm, hsz9, hF0, hF1⟩, rfl⟩
  refine S_ ?_
  refine hQ1 _ _ (S_ ?_);clear hQ1 Q1
  refine n_ ?_
  refine wpM_regionK [5,6,7,9,10,11,12] rfl fun Q1 hQ1 => ?_
  refine S_ ?_
  refine cp_ (isrun_ok m l F hm (by omega)) Tryz.call16 ?_
  refine hQ1 _ _ (S_ ?_);clear hQ1 Q1
  refine n_ ?_
  refine wpM_regionK [5,6,10,11,12,13,14,15] rfl fun Q1 hQ1 => ?_
  refine S_ ?_
  refine cp_ (isrun_ok m (slimT l) F hm (by omega)) Tryz.call16 ?_
  refine hQ1 _ _ (S_ ?_);clear hQ1 Q1
  rw [hr]
  refine n_ ?_
  refine wpM_regionK [4] rfl fun Q1 hQ1 => ?_
  refine SD_ ?_
  refine cpD_ (istmtsOk_ok (slimT l) (by omega)) Tryz.call24 ?_
  first | refine cg_ (fun hb => imany_ok (slimT l) (by omega)) Tryz.call18 ?_ | refine cpD_ (imany_ok (slimT l) (by omega)) Tryz.call18 ?_
  first | refine cg_ (fun hb => imany_ok l (by omega)) Tryz.call18 ?_ | refine cpD_ (imany_ok l (by omega)) Tryz.call18 ?_
  first | refine cg_ (fun hb => icodeOf_ok (slimT l) (by omega)) Tryz.call19 ?_ | refine cpD_ (icodeOf_ok (slimT l) (by omega)) Tryz.call19 ?_
  first | refine cg_ (fun hb => icodeOf_ok l (by omega)) Tryz.call19 ?_ | refine cpD_ (icodeOf_ok l (by omega)) Tryz.call19 ?_
  first | refine cg_ (fun hb => memSame_ok (runS m l F).1 (runS m l F).1 (runS_Sm2 m l F)) Tryz.call17 ?_ | refine cpD_ (memSame_ok (runS m l F).1 (runS m l F).1 (runS_Sm2 m l F)) Tryz.call17 ?_
  refine hQ1 _ _ (S_ ?_);clear hQ1 Q1
  refine e_ Tryz.results6 ?_
  first
  | exact True.intro
  | rw [beq_self_eq_true, beq_self_eq_true, memSame_self, hokT]
    simp; omega
end Go.Proofs.YtmicbfojofcigaaGreatDoor
