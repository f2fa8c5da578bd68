/- A part of a proof: lemmas and contracts of functions; the last text of the claim says what is proved. -/
import Derived.Test.YtmicbfojofcigaaGreatDoorX8c10820c55
set_option linter.unusedSectionVars false
set_option linter.unusedSimpArgs false
set_option linter.unusedVariables false
namespace Go.Proofs.YtmicbfojofcigaaGreatDoor
open Go Sg
set_option maxRecDepth 100000
set_option linter.unusedSimpArgs false
set_option linter.unusedVariables false
set_option linter.unusedSectionVars false
set_option maxHeartbeats 4000000
variable [ErrL]
theorem l10List_ok (id : Nat) (bs : List Nat) (q : Int) (hbs : Bs bs) (hq0 : 0 ≤ q) (hq : q + 200000 ≤ 1000000000000) : SomeP 27 1000000 200000 id bs q := by
  refine callF_of' Tryz.func27 rfl Tryz.ntmps27 (by simp) ?_
  intro f0 B ns Q hB hns hQ
  have hid : id < B := hB id (by simp [hasKey, lk])
  obtain ⟨z, rfl⟩ : ∃ z, ns = [z] := by
    match ns, hns with
    | [z], _ => exact ⟨z, rfl⟩
  have b1 : lb 1 = 1477 := rfl
  have s1 : ls 1 = 1428 := rfl
  refine g_ [0] ?_
  refine n_ ?_
  refine wpM_regionK [0,3] rfl fun Q1 hQ1 => ?_
  refine S_ ?_
  refine call_fn (l := [(id, rdObj bs q)]) (first := []) (cap := []) (ps := [.ptr id 0]) (l4Some_ok id bs q hbs (by omega) (by omega)) Tryz.call57 rfl rfl rfl G_ T_ ?_
  rintro out ⟨z', l, q1, ⟨⟩, hsz, hqa, hqb, rfl⟩
  refine S_ ?_
  refine hQ1 _ _ (S_ ?_);clear hQ1 Q1
  refine n_ ?_
  have hll := Sm.len_szL l
  refine wpM_regionK [0,3,8] rfl fun Q1 hQ1 => ?_
  refine S_ ?_
  refine call_fn (l := [(id, rdObj bs q1)]) (first := []) (cap := []) (ps := [.ptr id 0, .int .i64 6]) (pick_ok id bs q1 6 hbs (by omega) (by omega) (by omega)) Tryz.call58 rfl rfl rfl G_ T_ ?_
  rintro out ⟨k0, rfl, h01, h02, h03⟩
  refine S_ ?_
  refine hQ1 _ _ (S_ ?_);clear hQ1 Q1
  refine g_ [0,3,8,9] ?_
  refine c_ (fun hc0 => ?_) fun hc0 => ?_
  ·
    refine n_ ?_
    refine wpM_regionK [0,3,4] rfl fun Q1 hQ1 => ?_
    refine S_ ?_
    refine call_fn (l := [(id, rdObj bs (q1 + 1))]) (first := []) (cap := []) (ps := [.ptr id 0]) (l2To_ok id bs (q1 + 1) hbs (by omega) (by omega)) Tryz.call59 rfl rfl rfl G_ T_ ?_
    rintro out ⟨_, q2, ⟨a, rfl⟩, hqc, hqd, rfl⟩
    refine S_ ?_
    refine hQ1 _ _ (S_ ?_);clear hQ1 Q1
    refine g_ [0,3] ?_
    have hLz : Sm.szL (l ++ [(Sm.mk 1 a (Ex.mk 2 0 a []) [] [])]) ≤ 1000000 := by
      rw [Sm.szL_app]; simp only [Sm.sz, Sm.szL, Ex.sz, Ex.szL]; omega
    have hqn1 : q ≤ q2 := by omega
    have hqn2 : q2 ≤ q + 100000 := by omega
    have hYB : B ≤ B + 2 + 1 := by omega
    refine wpM_le [(0, .ptr id 0), (3, .sl 52 (B + 2 + 1) 0 (l.length + 1))] [(B + 2 + 1, .cells 52 (smc (l ++ [(Sm.mk 1 a (Ex.mk 2 0 a []) [] [])]))), (id, rdObj bs q2)] T_ T_ T_ ?_
    rw [show l.length + 1 = (l ++ [(Sm.mk 1 a (Ex.mk 2 0 a []) [] [])]).length from by simp]
    generalize hln : l ++ [(Sm.mk 1 a (Ex.mk 2 0 a []) [] [])] = L at *
    generalize hqn : q2 = qq at *
    obtain ⟨MM, hMM⟩ : ∃ MM, MM = B + 2 + 1 + 1 := ⟨_, rfl⟩
    have hYM : B + 2 + 1 < MM := by omega
    rw [← hMM]
    generalize hYn : B + 2 + 1 = Y at *
    refine n_ ?_
    refine wpM_regionK [0,3,46] rfl fun Q1 hQ1 => ?_
    refine S_ ?_
    refine call_fn (l := [(Y, .cells 52 (smc L))]) (first := []) (cap := []) (ps := [.sl 52 Y 0 L.length]) (stmtsOk_sl Y L (by omega)) Tryz.call13 rfl rfl rfl G_ T_ ?_
    rintro out rfl
    refine S_ ?_
    refine hQ1 _ _ (S_ ?_);clear hQ1 Q1
    refine c_ (fun hc1 => ?_) fun hc1 => ?_
    ·
      refine n_ ?_
      refine wpM_regionK [2] rfl fun Q1 hQ1 => ?_
      refine S_ ?_
      refine call_fn (l := [(id, rdObj bs qq)]) (first := []) (cap := []) (ps := [.ptr id 0]) (l4Some_ok id bs qq hbs (by omega) (by omega)) Tryz.call57 rfl rfl rfl G_ T_ ?_
      rintro out ⟨z9, l9, q9, ⟨⟩, hsz9, hqa9, hqb9, rfl⟩
      refine S_ ?_
      refine hQ1 _ _ (S_ ?_);clear hQ1 Q1
      refine wpM_ret ?_
      try refine S_ ?_
      refine hQ _ _ (retK [MM] [(id, some (rdObj bs q9))] [(z, .cells 52 (smc l9))] rfl rfl rfl (by rw [Tryz.results27] <;> simp (maxSteps := 1000000) -implicitDefEqProofs (disch := omega) only [go_sem] <;> rfl) ?_ ⟨z, l9, q9, rfl, by omega, by omega, by omega, rfl⟩ ?_ ?_ ?_ ?_ ?_ ?_)
      all_goals (first | (simp -implicitDefEqProofs (disch := omega) only [go_sem, rdObj, List.nodup_cons, List.nodup_nil, true_or, or_true, List.mem_cons, List.not_mem_nil]; done) | (simp -implicitDefEqProofs (disch := omega) only [go_sem, rdObj, List.nodup_cons, List.nodup_nil, true_or, or_true, List.mem_cons, List.not_mem_nil]; first | omega | rfl))
    refine g_ [2] ?_
    refine wpM_ret ?_
    try refine S_ ?_
    refine hQ _ _ (retK [Y] [(id, some (rdObj bs qq))] [(z, .cells 52 (smc L))] rfl rfl rfl (by rw [Tryz.results27] <;> simp (maxSteps := 1000000) -implicitDefEqProofs (disch := omega) only [go_sem] <;> rfl) ?_ ⟨z, L, qq, rfl, by omega, by omega, by omega, rfl⟩ ?_ ?_ ?_ ?_ ?_ ?_)
    all_goals (first | (simp -implicitDefEqProofs (disch := omega) only [go_sem, rdObj, List.nodup_cons, List.nodup_nil, true_or, or_true, List.mem_cons, List.not_mem_nil]; done) | (simp -implicitDefEqProofs (disch := omega) only [go_sem, rdObj, List.nodup_cons, List.nodup_nil, true_or, or_true, List.mem_cons, List.not_mem_nil]; first | omega | rfl))
  refine g_ [0,3,8,20] ?_
  refine c_ (fun hc2 => ?_) fun hc2 => ?_
  ·
    refine wpM_regionK [0,3] rfl fun Q1 hQ1 => ?_
    refine S_ ?_
    refine call_fn (l := [(id, rdObj bs (q1 + 1))]) (first := []) (cap := []) (ps := [.ptr id 0, .int .i64 2]) (pick_ok id bs (q1 + 1) 2 hbs (by omega) (by omega) (by omega)) Tryz.call58 rfl rfl rfl G_ T_ ?_
    rintro out ⟨k1, rfl, h11, h12, h13⟩
    refine S_ ?_
    refine cp_ (snum_ok k1) Tryz.call60 ?_
    refine OpM_frz [B] [(52, B, 0, l.length, Sm.csL l)] (by intro q hq; simp at hq; subst hq; simp -implicitDefEqProofs (disch := omega) only [go_sem]) (by intro q hq; simp only [List.mem_cons, List.not_mem_nil, or_false] at hq; subst hq; exact ⟨by simp, rowsOf_smc (T := 52) T_ rfl⟩) ?_
    simp -implicitDefEqProofs (disch := omega) only [go_sem]
    refine call_p (scopyS_ok _ l rfl (by omega)) Tryz.call34 rfl rfl rfl F_ ?_
    refine S_ ?_
    refine call_fn (l := [(id, rdObj bs (q1 + 1 + 1))]) (first := []) (cap := []) (ps := [.ptr id 0, .int .i64 1]) (l4List_ok id bs hbs 1 (by omega) (q1 + 1 + 1) 1 (by omega) (by omega) (by omega) (by omega)) Tryz.call61 rfl rfl rfl G_ T_ ?_
    rintro out ⟨z1, l1, q2, ⟨⟩, hsz1, hqe, hqf, rfl⟩
    refine S_ ?_
    refine hQ1 _ _ (S_ ?_);clear hQ1 Q1
    have hLz : Sm.szL [(Sm.mk 2 ⟨0, 0⟩ (numX k1) l l1)] ≤ 1000000 := by
      simp only [Sm.sz, Sm.szL, numX, Ex.sz, Ex.szL]; omega
    have hqn1 : q ≤ q2 := by omega
    have hqn2 : q2 ≤ q + 100000 := by omega
    have hYB : B ≤ B + 1 + 1 := by omega
    refine wpM_frz [B + 1] [(52, B + 1, 0, l1.length, Sm.csL l1)] (by intro q hq; simp at hq; subst hq; simp -implicitDefEqProofs (disch := omega) only [go_sem]) (by intro q hq; simp only [List.mem_cons, List.not_mem_nil, or_false] at hq; subst hq; exact ⟨by simp, rowsOf_smc (T := 52) T_ rfl⟩) ?_
    refine S_ ?_
    have e1 : [PV.int .i64 2, .int .i64 0, .int .i64 0, .int .i64 1, .int .i64 k1, .int .i64 0, .int .i64 0, .rows 50 [], .rows 52 (Sm.csL l), .rows 52 (Sm.csL l1)] = smc [(Sm.mk 2 ⟨0, 0⟩ (numX k1) l l1)] := by rw [← smc_one, Sm.cs_eq]; rfl
    rw [e1]
    refine wpM_le [(0, .ptr id 0), (3, .sl 52 (B + 1 + 1) 0 [(Sm.mk 2 ⟨0, 0⟩ (numX k1) l l1)].length)] [(B + 1 + 1, .cells 52 (smc [(Sm.mk 2 ⟨0, 0⟩ (numX k1) l l1)])), (id, rdObj bs q2)] T_ T_ T_ ?_
    generalize hln : [(Sm.mk 2 ⟨0, 0⟩ (numX k1) l l1)] = L at *
    generalize hqn : q2 = qq at *
    obtain ⟨MM, hMM⟩ : ∃ MM, MM = B + 1 + 1 + 1 := ⟨_, rfl⟩
    have hYM : B + 1 + 1 < MM := by omega
    rw [← hMM]
    generalize hYn : B + 1 + 1 = Y at *
    refine n_ ?_
    refine wpM_regionK [0,3,46] rfl fun Q1 hQ1 => ?_
    refine S_ ?_
    refine call_fn (l := [(Y, .cells 52 (smc L))]) (first := []) (cap := []) (ps := [.sl 52 Y 0 L.length]) (stmtsOk_sl Y L (by omega)) Tryz.call13 rfl rfl rfl G_ T_ ?_
    rintro out rfl
    refine S_ ?_
    refine hQ1 _ _ (S_ ?_);clear hQ1 Q1
    refine c_ (fun hc3 => ?_) fun hc3 => ?_
    ·
      refine n_ ?_
      refine wpM_regionK [2] rfl fun Q1 hQ1 => ?_
      refine S_ ?_
      refine call_fn (l := [(id, rdObj bs qq)]) (first := []) (cap := []) (ps := [.ptr id 0]) (l4Some_ok id bs qq hbs (by omega) (by omega)) Tryz.call57 rfl rfl rfl G_ T_ ?_
      rintro out ⟨z9, l9, q9, ⟨⟩, hsz9, hqa9, hqb9, rfl⟩
      refine S_ ?_
      refine hQ1 _ _ (S_ ?_);clear hQ1 Q1
      refine wpM_ret ?_
      try refine S_ ?_
      refine hQ _ _ (retK [MM] [(id, some (rdObj bs q9))] [(z, .cells 52 (smc l9))] rfl rfl rfl (by rw [Tryz.results27] <;> simp (maxSteps := 1000000) -implicitDefEqProofs (disch := omega) only [go_sem] <;> rfl) ?_ ⟨z, l9, q9, rfl, by omega, by omega, by omega, rfl⟩ ?_ ?_ ?_ ?_ ?_ ?_)
      all_goals (first | (simp -implicitDefEqProofs (disch := omega) only [go_sem, rdObj, List.nodup_cons, List.nodup_nil, true_or, or_true, List.mem_cons, List.not_mem_nil]; done) | (simp -implicitDefEqProofs (disch := omega) only [go_sem, rdObj, List.nodup_cons, List.nodup_nil, true_or, or_true, List.mem_cons, List.not_mem_nil]; first | omega | rfl))
    refine g_ [2] ?_
    refine wpM_ret ?_
    try refine S_ ?_
    refine hQ _ _ (retK [Y] [(id, some (rdObj bs qq))] [(z, .cells 52 (smc L))] rfl rfl rfl (by rw [Tryz.results27] <;> simp (maxSteps := 1000000) -implicitDefEqProofs (disch := omega) only [go_sem] <;> rfl) ?_ ⟨z, L, qq, rfl, by omega, by omega, by omega, rfl⟩ ?_ ?_ ?_ ?_ ?_ ?_)
    all_goals (first | (simp -implicitDefEqProofs (disch := omega) only [go_sem, rdObj, List.nodup_cons, List.nodup_nil, true_or, or_true, List.mem_cons, List.not_mem_nil]; done) | (simp -implicitDefEqProofs (disch := omega) only [go_sem, rdObj, List.nodup_cons, List.nodup_nil, true_or, or_true, List.mem_cons, List.not_mem_nil]; first | omega | rfl))
  refine g_ [0,3,8,31] ?_
  refine c_ (fun hc4 => ?_) fun hc4 => ?_
  ·
    refine wpM_regionK [0,3] rfl fun Q1 hQ1 => ?_
    refine S_ ?_
    refine cp_ (snum_ok 0) Tryz.call60 ?_
    refine call_fn (l := [(id, rdObj bs (q1 + 1))]) (first := []) (cap := []) (ps := [.ptr id 0, .int .i64 1]) (l4List_ok id bs hbs 1 (by omega) (q1 + 1) 1 (by omega) (by omega) (by omega) (by omega)) Tryz.call61 rfl rfl rfl G_ T_ ?_
    rintro out ⟨z1, l1, q2, ⟨⟩, hsz1, hqe, hqf, rfl⟩
    refine S_ ?_
    refine hQ1 _ _ (S_ ?_);clear hQ1 Q1
    have hLz : Sm.szL (l ++ [(Sm.mk 3 ⟨0, 0⟩ (numX 0) l1 [])]) ≤ 1000000 := by
      rw [Sm.szL_app]; simp only [Sm.sz, Sm.szL, numX, Ex.sz, Ex.szL]; omega
    have hqn1 : q ≤ q2 := by omega
    have hqn2 : q2 ≤ q + 100000 := by omega
    have hYB : B ≤ B + 1 + 1 + 1 := by omega
    refine wpM_frz [B + 1] [(52, B + 1, 0, l1.length, Sm.csL l1)] (by intro q hq; simp at hq; subst hq; simp -implicitDefEqProofs (disch := omega) only [go_sem]) (by intro q hq; simp only [List.mem_cons, List.not_mem_nil, or_false] at hq; subst hq; exact ⟨by simp, rowsOf_smc (T := 52) T_ rfl⟩) ?_
    refine S_ ?_
    refine wpM_le [(0, .ptr id 0), (3, .sl 52 (B + 1 + 1 + 1) 0 (l.length + 1))] [(B + 1 + 1 + 1, .cells 52 (smc (l ++ [(Sm.mk 3 ⟨0, 0⟩ (numX 0) l1 [])]))), (id, rdObj bs q2)] T_ (by simp -implicitDefEqProofs (disch := omega) only [go_sem, numX]) T_ ?_
    rw [show l.length + 1 = (l ++ [(Sm.mk 3 ⟨0, 0⟩ (numX 0) l1 [])]).length from by simp]
    generalize hln : l ++ [(Sm.mk 3 ⟨0, 0⟩ (numX 0) l1 [])] = L at *
    generalize hqn : q2 = qq at *
    obtain ⟨MM, hMM⟩ : ∃ MM, MM = B + 1 + 1 + 1 + 1 := ⟨_, rfl⟩
    have hYM : B + 1 + 1 + 1 < MM := by omega
    rw [← hMM]
    generalize hYn : B + 1 + 1 + 1 = Y at *
    refine n_ ?_
    refine wpM_regionK [0,3,46] rfl fun Q1 hQ1 => ?_
    refine S_ ?_
    refine call_fn (l := [(Y, .cells 52 (smc L))]) (first := []) (cap := []) (ps := [.sl 52 Y 0 L.length]) (stmtsOk_sl Y L (by omega)) Tryz.call13 rfl rfl rfl G_ T_ ?_
    rintro out rfl
    refine S_ ?_
    refine hQ1 _ _ (S_ ?_);clear hQ1 Q1
    refine c_ (fun hc5 => ?_) fun hc5 => ?_
    ·
      refine n_ ?_
      refine wpM_regionK [2] rfl fun Q1 hQ1 => ?_
      refine S_ ?_
      refine call_fn (l := [(id, rdObj bs qq)]) (first := []) (cap := []) (ps := [.ptr id 0]) (l4Some_ok id bs qq hbs (by omega) (by omega)) Tryz.call57 rfl rfl rfl G_ T_ ?_
      rintro out ⟨z9, l9, q9, ⟨⟩, hsz9, hqa9, hqb9, rfl⟩
      refine S_ ?_
      refine hQ1 _ _ (S_ ?_);clear hQ1 Q1
      refine wpM_ret ?_
      try refine S_ ?_
      refine hQ _ _ (retK [MM] [(id, some (rdObj bs q9))] [(z, .cells 52 (smc l9))] rfl rfl rfl (by rw [Tryz.results27] <;> simp (maxSteps := 1000000) -implicitDefEqProofs (disch := omega) only [go_sem] <;> rfl) ?_ ⟨z, l9, q9, rfl, by omega, by omega, by omega, rfl⟩ ?_ ?_ ?_ ?_ ?_ ?_)
      all_goals (first | (simp -implicitDefEqProofs (disch := omega) only [go_sem, rdObj, List.nodup_cons, List.nodup_nil, true_or, or_true, List.mem_cons, List.not_mem_nil]; done) | (simp -implicitDefEqProofs (disch := omega) only [go_sem, rdObj, List.nodup_cons, List.nodup_nil, true_or, or_true, List.mem_cons, List.not_mem_nil]; first | omega | rfl))
    refine g_ [2] ?_
    refine wpM_ret ?_
    try refine S_ ?_
    refine hQ _ _ (retK [Y] [(id, some (rdObj bs qq))] [(z, .cells 52 (smc L))] rfl rfl rfl (by rw [Tryz.results27] <;> simp (maxSteps := 1000000) -implicitDefEqProofs (disch := omega) only [go_sem] <;> rfl) ?_ ⟨z, L, qq, rfl, by omega, by omega, by omega, rfl⟩ ?_ ?_ ?_ ?_ ?_ ?_)
    all_goals (first | (simp -implicitDefEqProofs (disch := omega) only [go_sem, rdObj, List.nodup_cons, List.nodup_nil, true_or, or_true, List.mem_cons, List.not_mem_nil]; done) | (simp -implicitDefEqProofs (disch := omega) only [go_sem, rdObj, List.nodup_cons, List.nodup_nil, true_or, or_true, List.mem_cons, List.not_mem_nil]; first | omega | rfl))
  refine g_ [0,3,40] ?_
  refine c_ (fun hc6 => ?_) fun hc6 => ?_
  ·
    refine n_ ?_
    refine wpM_regionK [2] rfl fun Q1 hQ1 => ?_
    refine S_ ?_
    refine call_fn (l := [(id, rdObj bs (q1 + 1))]) (first := []) (cap := []) (ps := [.ptr id 0]) (l4Bent_ok id bs (q1 + 1) hbs (by omega) (by omega)) Tryz.call39 rfl rfl rfl G_ T_ ?_
    rintro out ⟨z1, l1, q2, ⟨⟩, hsz1, hqe, hqf, rfl⟩
    refine S_ ?_
    refine hQ1 _ _ (S_ ?_);clear hQ1 Q1
    refine wpM_ret ?_
    try refine S_ ?_
    refine hQ _ _ (retK [B + 1] [(id, some (rdObj bs q2))] [(z, .cells 52 (smc l1))] rfl rfl rfl (by rw [Tryz.results27] <;> simp (maxSteps := 1000000) -implicitDefEqProofs (disch := omega) only [go_sem] <;> rfl) ?_ ⟨z, l1, q2, rfl, by omega, by omega, by omega, rfl⟩ ?_ ?_ ?_ ?_ ?_ ?_)
    all_goals (first | (simp -implicitDefEqProofs (disch := omega) only [go_sem, rdObj, List.nodup_cons, List.nodup_nil, true_or, or_true, List.mem_cons, List.not_mem_nil]; done) | (simp -implicitDefEqProofs (disch := omega) only [go_sem, rdObj, List.nodup_cons, List.nodup_nil, true_or, or_true, List.mem_cons, List.not_mem_nil]; first | omega | rfl))
  obtain ⟨Y, hY⟩ : ∃ Y, Y = B := ⟨_, rfl⟩
  obtain ⟨L, hL⟩ : ∃ L, L = l := ⟨_, rfl⟩
  obtain ⟨qq, hqq⟩ : ∃ qq, qq = q1 + 1 := ⟨_, rfl⟩
  have hLz : Sm.szL L ≤ 1000000 := by rw [hL]; omega
  have hqn1 : q ≤ qq := by omega
  have hqn2 : qq ≤ q + 100000 := by omega
  have hYB : B ≤ Y := by omega
  obtain ⟨MM, hMM⟩ : ∃ MM, MM = B + 1 := ⟨_, rfl⟩
  have hYM : Y < MM := by omega
  refine n_ ?_
  refine wpM_le [(0, .ptr id 0), (3, .sl 52 Y 0 L.length)] [(Y, .cells 52 (smc L)), (id, rdObj bs qq)] (by rw [hY, hL]; simp -implicitDefEqProofs (disch := omega) only [go_sem]) (by rw [hY, hL, hqq]; simp -implicitDefEqProofs (disch := omega) only [go_sem]) (by rw [hY]; simp -implicitDefEqProofs (disch := omega) only [go_sem]) ?_
  rw [← hMM]
  refine n_ ?_
  refine wpM_regionK [0,3,46] rfl fun Q1 hQ1 => ?_
  refine S_ ?_
  refine call_fn (l := [(Y, .cells 52 (smc L))]) (first := []) (cap := []) (ps := [.sl 52 Y 0 L.length]) (stmtsOk_sl Y L (by omega)) Tryz.call13 rfl rfl rfl G_ T_ ?_
  rintro out rfl
  refine S_ ?_
  refine hQ1 _ _ (S_ ?_);clear hQ1 Q1
  refine c_ (fun hc7 => ?_) fun hc7 => ?_
  ·
    refine n_ ?_
    refine wpM_regionK [2] rfl fun Q1 hQ1 => ?_
    refine S_ ?_
    refine call_fn (l := [(id, rdObj bs qq)]) (first := []) (cap := []) (ps := [.ptr id 0]) (l4Some_ok id bs qq hbs (by omega) (by omega)) Tryz.call57 rfl rfl rfl G_ T_ ?_
    rintro out ⟨z9, l9, q9, ⟨⟩, hsz9, hqa9, hqb9, rfl⟩
    refine S_ ?_
    refine hQ1 _ _ (S_ ?_);clear hQ1 Q1
    refine wpM_ret ?_
    try refine S_ ?_
    refine hQ _ _ (retK [MM] [(id, some (rdObj bs q9))] [(z, .cells 52 (smc l9))] rfl rfl rfl (by rw [Tryz.results27] <;> simp (maxSteps := 1000000) -implicitDefEqProofs (disch := omega) only [go_sem] <;> rfl) ?_ ⟨z, l9, q9, rfl, by omega, by omega, by omega, rfl⟩ ?_ ?_ ?_ ?_ ?_ ?_)
    all_goals (first | (simp -implicitDefEqProofs (disch := omega) only [go_sem, rdObj, List.nodup_cons, List.nodup_nil, true_or, or_true, List.mem_cons, List.not_mem_nil]; done) | (simp -implicitDefEqProofs (disch := omega) only [go_sem, rdObj, List.nodup_cons, List.nodup_nil, true_or, or_true, List.mem_cons, List.not_mem_nil]; first | omega | rfl))
  refine g_ [2] ?_
  refine wpM_ret ?_
  try refine S_ ?_
  refine hQ _ _ (retK [Y] [(id, some (rdObj bs qq))] [(z, .cells 52 (smc L))] rfl rfl rfl (by rw [Tryz.results27] <;> simp (maxSteps := 1000000) -implicitDefEqProofs (disch := omega) only [go_sem] <;> rfl) ?_ ⟨z, L, qq, rfl, by omega, by omega, by omega, rfl⟩ ?_ ?_ ?_ ?_ ?_ ?_)
  all_goals (first | (simp -implicitDefEqProofs (disch := omega) only [go_sem, rdObj, List.nodup_cons, List.nodup_nil, true_or, or_true, List.mem_cons, List.not_mem_nil]; done) | (simp -implicitDefEqProofs (disch := omega) only [go_sem, rdObj, List.nodup_cons, List.nodup_nil, true_or, or_true, List.mem_cons, List.not_mem_nil]; first | omega | rfl))
end Go.Proofs.YtmicbfojofcigaaGreatDoor
namespace Go.Proofs.YtmicbfojofcigaaGreatDoor
open Go Sg
set_option maxRecDepth 100000
set_option linter.unusedSimpArgs false
set_option linter.unusedVariables false
set_option linter.unusedSectionVars false
set_option maxHeartbeats 4000000
variable [ErrL]
theorem drawSlim_ok (code : List Nat) (hcode : ∀ x ∈ code, x < 256) (hl : code.length ≤ 1099511627776) :
    CallF Tryz.prog 9 [.rows 5 (u8s code)] [] 0 (fun _ o => ∃ l, Sm.szL l ≤ 1000000 ∧ o = { rs := [.rows 52 (Sm.csL l)] }) := by
  refine callF_of' Tryz.func9 rfl Tryz.ntmps9 (by simp) ?_
  intro f0 B ns Q hB hns hQ
  obtain rfl : ns = [] := List.eq_nil_of_length_eq_zero hns
  refine g_ [0] ?_
  refine n_ ?_
  refine wpM_regionK [2] rfl fun Q1 hQ1 => ?_
  refine S_ ?_
  refine call_fn (l := []) (first := []) (cap := []) (ps := [.rows 5 (u8s code)]) (open_ok code hcode hl) Tryz.call28 rfl rfl rfl G_ T_ ?_
  rintro out ⟨j, bs, ⟨⟩, hbs, rfl, hbe⟩
  refine S_ ?_
  refine call_fn (l := [(B, rdObj bs 0)]) (first := []) (cap := []) (ps := [.ptr B 0]) (l10List_ok B bs 0 hbs (by omega) (by omega)) Tryz.call27 rfl rfl rfl G_ T_ ?_
  rintro out ⟨z', l, q1, ⟨⟩, hsz, hqa, hqb, rfl⟩
  refine S_ ?_
  refine hQ1 _ _ (S_ ?_);clear hQ1 Q1
  refine wpM_frz [B + 1] [(52, B + 1, 0, l.length, Sm.csL l)] (by intro q hq; simp at hq; subst hq; simp -implicitDefEqProofs (disch := omega) only [go_sem]) (by intro q hq; simp only [List.mem_cons, List.not_mem_nil, or_false] at hq; subst hq; exact ⟨by simp, rowsOf_smc (T := 52) T_ rfl⟩) ?_
  refine S_ ?_
  refine wpM_ret ?_
  try refine S_ ?_
  refine hQ _ _ (ret0 [] rfl rfl rfl (by rw [Tryz.results9] <;> simp (maxSteps := 1000000) -implicitDefEqProofs (disch := omega) only [go_sem] <;> rfl) ⟨l, hsz, rfl⟩ ?_ ?_ ?_ ?_)
  all_goals simp -implicitDefEqProofs (disch := omega) only [go_sem, rdObj, true_or, or_true]
theorem runS_Sm2 (m : MM) (l : List Sm) (F : Int) : (runS m l F).1.Sm := by
  unfold runS
  split
  · rename_i h
    simp only [runOk, Bool.and_eq_true] at h
    exact MM.Six.sm (Sm.exL_six l m _ (MM.ok_six h.1.1.1))
  · exact ⟨by simp [noM], by simp [noM], by simp [noM]⟩
theorem slimT_sz (l : List Sm) : Sm.szL (slimT l) ≤ Sm.szL l := by
  unfold slimT
  split
  · exact Sm.slL_sz l
  · simp [Sm.szL]
theorem slimT_ok {l : List Sm} (h : okS l = true) : slimT l = Sm.slL l := by rw [slimT, if_pos h]
end Go.Proofs.YtmicbfojofcigaaGreatDoor
namespace Go.Proofs.YtmicbfojofcigaaGreatDoor
open Go Sg
set_option maxRecDepth 100000
set_option linter.unusedSimpArgs false
set_option linter.unusedVariables false
set_option linter.unusedSectionVars false
set_option maxHeartbeats 4000000
variable [ErrL]
def WP (l : List Sm) (k i : Nat) (b : Bool) : Prop := b = false → ∀ a : AD, ((2 ≤ a.kind ∧ a.kind < (k : Int) ∧ 0 ≤ a.at' ∧ a.at' < 6) ∨ (a.kind = (k : Int) ∧ 0 ≤ a.at' ∧ a.at' < (i : Int))) → Sm.wrL a l = false
theorem wp_step {l : List Sm} {k i : Nat} {b : Bool} (hok : okS l = true) (h : WP l k i b) : WP l k (i + 1) (b || (okS l && Sm.wrL ⟨(k : Int), (i : Int)⟩ l)) := by
  intro hb a ha
  simp only [Bool.or_eq_false_iff, hok, Bool.true_and] at hb
  rcases ha with ha | ⟨h1, h2, h3⟩
  · exact h hb.1 a (.inl ha)
  · by_cases he : a.at' = (i : Int)
    · have : a = ⟨(k : Int), (i : Int)⟩ := by
        cases a; simp only at h1 he; subst h1; subst he; rfl
      rw [this]; exact hb.2
    · exact h hb.1 a (.inr ⟨h1, h2, by omega⟩)
theorem wp_next {l : List Sm} {k : Nat} {b : Bool} (hk : 2 ≤ k) (h : WP l k 6 b) : WP l (k + 1) 0 b := by
  intro hb a ha
  rcases ha with ⟨h1, h2, h3, h4⟩ | ⟨h1, h2, h3⟩
  · by_cases he : a.kind = (k : Int)
    · exact h hb a (.inr ⟨he, h3, by omega⟩)
    · exact h hb a (.inl ⟨h1, by omega, h3, h4⟩)
  · omega
theorem wp_run {l : List Sm} {b : Bool} (h : WP l 4 0 b) (hok : okS l = true) (m : MM) : (b || ((runS m l 30).2.1 == 2) || memSame (runS m l 30).1 m) = true := by
  cases b
  · have hn : noWr l := fun a h1 h2 h3 => h rfl a (.inl ⟨by omega, by omega, h2, h3⟩)
    have h4 : formS 4 l = true := by simp only [okS, Bool.and_eq_true] at hok; exact hok.2
    unfold runS
    split
    · have := noWr_ex 4 l h4 hn m (30 : Int).toNat
      simp only [endO]
      rw [this, memSame_self]; simp
    · simp
  · simp
theorem lawWrites_ok (code more : List Nat) (hcode : ∀ x ∈ code, x < 256) (hmore : ∀ x ∈ more, x < 256) : PureF Tryz.prog 3 [.rows 5 (u8s code), .rows 5 (u8s more)] [.bool true] := by
  refine pureF_of Tryz.func3 rfl Tryz.ntmps3 (by simp) T_ ?_
  intro f0 B Q hQ
  refine g_ [0,1] ?_
  refine gD_ [0,1,24] ?_
  refine c_ (fun hc0 => ?_) fun hc0 => ?_
  ·
    refine g_ [4] ?_
    refine e_ Tryz.results3 ?_
    first
    | exact True.intro
    | first
      | trivial
      | exact same_self _
      | (have := wp_run hP hok m
         simpa using this)
  have hl2 : code.length ≤ 1099511627776 ∧ more.length ≤ 1099511627776 := by
    have := hc0
    simp at this
    omega
  refine n_ ?_
  refine wpM_regionK [1,5] rfl fun Q1 hQ1 => ?_
  refine S_ ?_
  refine call_fn (l := []) (first := []) (cap := []) (ps := [.rows 5 (u8s code)]) (drawSlim_ok code hcode hl2.1) Tryz.call9 rfl rfl rfl G_ T_ ?_
  rintro out ⟨l, hsz, rfl⟩
  refine S_ ?_
  refine hQ1 _ _ (S_ ?_);clear hQ1 Q1
  refine n_ ?_
  have hz1 := slimT_sz l
  refine wpM_regionK [1,5,6] rfl fun Q1 hQ1 => ?_
  refine S_ ?_
  refine cp_ (islimS_ok l (by omega)) Tryz.call10 ?_
  refine hQ1 _ _ (S_ ?_);clear hQ1 Q1
  refine n_ ?_
  refine wpM_regionK [1,5,6,38] rfl fun Q1 hQ1 => ?_
  simp (contextual := true) (maxSteps := 1000000) (implicitDefEqProofs := false) (disch := first | omega | (simp only [decide_eq_true_eq, decide_eq_false_iff_not, Bool.and_eq_true, Bool.or_eq_false_iff, Bool.not_eq_true'] at *; omega)) only [go_sem, same_self]
  refine call_p (sslimS_ok l (by omega)) Tryz.call12 rfl rfl rfl (by first | rfl | (simp -implicitDefEqProofs (disch := omega) only [go_sem] <;> rfl)) ?_
  simp (contextual := true) (maxSteps := 1000000) (implicitDefEqProofs := false) (disch := first | omega | (simp only [decide_eq_true_eq, decide_eq_false_iff_not, Bool.and_eq_true, Bool.or_eq_false_iff, Bool.not_eq_true'] at *; omega)) only [go_sem, same_self]
  refine call_p (smSame_ok _ (slimT l) (slimT l) rfl (by omega)) Tryz.call11 rfl rfl rfl (by first | rfl | (simp -implicitDefEqProofs (disch := omega) only [go_sem] <;> rfl)) ?_
  simp (contextual := true) (maxSteps := 1000000) (implicitDefEqProofs := false) (disch := first | omega | (simp only [decide_eq_true_eq, decide_eq_false_iff_not, Bool.and_eq_true, Bool.or_eq_false_iff, Bool.not_eq_true'] at *; omega)) only [go_sem, same_self]
  first | refine callG_p (fun hb => stmtsOk_ok l (by omega)) Tryz.call13 rfl rfl (fun hb => by simp -implicitDefEqProofs (disch := omega) only [go_sem]) (fun hb => by first | rfl | (simp -implicitDefEqProofs (disch := omega) only [go_sem, hb, gd_of hb] <;> rfl)) ?_ | refine call_p (stmtsOk_ok l (by omega)) Tryz.call13 rfl rfl rfl (by first | rfl | (simp -implicitDefEqProofs (disch := omega) only [go_sem] <;> rfl)) ?_
  simp (contextual := true) (maxSteps := 1000000) (implicitDefEqProofs := false) (disch := first | omega | (simp only [decide_eq_true_eq, decide_eq_false_iff_not, Bool.and_eq_true, Bool.or_eq_false_iff, Bool.not_eq_true'] at *; omega)) only [go_sem, same_self]
  refine hQ1 _ _ (S_ ?_);clear hQ1 Q1
  refine c_ (fun hc1 => ?_) fun hc1 => ?_
  ·
    refine n_ ?_
    refine wpM_regionK [4] rfl fun Q1 hQ1 => ?_
    refine S_ ?_
    refine cp_ (sslimS_ok l (by omega)) Tryz.call12 ?_
    refine cp_ (smSame_ok _ (slimT l) (slimT l) rfl (by omega)) Tryz.call11 ?_
    refine hQ1 _ _ (S_ ?_);clear hQ1 Q1
    refine e_ Tryz.results3 ?_
    first
    | exact True.intro
    | first
      | trivial
      | exact same_self _
      | (have := wp_run hP hok m
         simpa using this)
  have hok : okS l = true := by simpa using hc1
  have hT := slimT_ok hok
  refine g_ [1,5,6,7] ?_
  refine g_ [1,5,6,7,8] ?_
  refine n_ ?_
  refine wpM_loopS (fun q r s' => ∃ (k M : Nat) (b : Bool), k + r = 4 ∧ 2 ≤ k ∧ q.M ≤ M ∧ WP l k 0 b ∧ s' = { q with env := setE 8 (.int .i64 (k : Nat)) (setE 7 (.bool b) q.env), M := M }) (2) ?_ ?_
  ·
    refine .of' _ _ ⟨2, _, false, by omega, by omega, Nat.le_refl _, fun _ a ha => by exfalso; omega, rfl⟩ ?_ ?_ ?_ <;> exact L_
  rintro r s' ⟨k, M, b, hkr, hk2, hM, hP, rfl⟩
  dsimp only at hM
  try refine S_ ?_
  refine g_ [1,5,6,7,8,44] ?_
  refine c_ (fun hc2 => ?_) fun hc2 => ?_
  ·
    refine g_ [1,5,6,7,8,9] ?_
    refine n_ ?_
    refine wpM_loopS (fun q r s' => ∃ (i M : Nat) (b : Bool), i + r = 6 ∧ q.M ≤ M ∧ WP l k i b ∧ s' = { q with env := setE 9 (.int .i64 (i : Nat)) (setE 7 (.bool b) q.env), M := M }) (6) ?_ ?_
    ·
      refine .of' _ _ ⟨0, _, b, by omega, Nat.le_refl _, hP, rfl⟩ ?_ ?_ ?_ <;> exact L_
    rintro r1 s1 ⟨i, M1, b1, hir, hM1, hP1, rfl⟩
    dsimp only at hM1
    try refine S_ ?_
    refine g_ [1,5,6,7,8,9,48] ?_
    refine c_ (fun hc3 => ?_) fun hc3 => ?_
    ·
      refine g_ [1,5,6,7,8,9,10] ?_
      refine n_ ?_
      refine wpM_regionK [1,5,6,7,8,9,10] rfl fun Q1 hQ1 => ?_
      refine SD_ ?_
      first | refine cg_ (fun hb => iwrites_ok ⟨(k : Int), (i : Int)⟩ l (by omega)) Tryz.call14 ?_ | refine cpD_ (iwrites_ok ⟨(k : Int), (i : Int)⟩ l (by omega)) Tryz.call14 ?_
      refine hQ1 _ _ (S_ ?_);clear hQ1 Q1
      refine n_ ?_
      refine wpM_regionK [1,5,6,7,8,9,68] rfl fun Q1 hQ1 => ?_
      refine SD_ ?_
      refine cpD_ (iwrites_ok ⟨(k : Int), (i : Int)⟩ (slimT l) (by omega)) Tryz.call14 ?_
      first | refine cg_ (fun hb => iwrites_ok ⟨(k : Int), (i : Int)⟩ l (by omega)) Tryz.call14 ?_ | refine cpD_ (iwrites_ok ⟨(k : Int), (i : Int)⟩ l (by omega)) Tryz.call14 ?_
      refine hQ1 _ _ (S_ ?_);clear hQ1 Q1
      refine c_ (fun hc4 => ?_) fun hc4 => ?_
      · exfalso; rw [hT, hok, slL_ok hok] at hc4; simp only [Bool.true_and] at hc4; cases hw : Sm.wrL ⟨(k : Int), (i : Int)⟩ (Sm.slL l) <;> simp [hw] at hc4; rw [Sm.slL_wr _ l hw] at hc4; cases hc4
      refine g_ [1,5,6,7,8,9] ?_
      refine .of' _ _ ⟨r1 - 1, by omega, i + 1, _, b1 || (okS l && Sm.wrL ⟨(k : Int), (i : Int)⟩ l), by omega, ?_, wp_step hok hP1, rfl⟩ ?_ ?_ ?_
      · first | omega | (simp -implicitDefEqProofs (disch := omega) only [go_sem]; done) | (simp -implicitDefEqProofs (disch := omega) only [go_sem]; omega)
      all_goals exact L_
    refine g_ [1,5,6,7,8] ?_
    have hi6 : i = 6 := by omega
    subst hi6
    refine .of' _ _ ⟨r - 1, by omega, k + 1, _, b1, by omega, by omega, ?_, wp_next hk2 hP1, rfl⟩ ?_ ?_ ?_
    · first | omega | (simp -implicitDefEqProofs (disch := omega) only [go_sem]; done) | (simp -implicitDefEqProofs (disch := omega) only [go_sem]; omega)
    all_goals exact L_
  refine n_ ?_
  have hk4 : k = 4 := by omega
  subst hk4
  refine wpM_regionK [5,7,11] rfl fun Q1 hQ1 => ?_
  refine S_ ?_
  refine call_fn (l := []) (first := []) (cap := []) (ps := [.rows 5 (u8s more)]) (drawRun_ok more hmore hl2.2) Tryz.call15 rfl rfl rfl G_ T_ ?_
  rintro out ⟨m, l9, F, ⟨hm, hsz9, hF0, hF1⟩, rfl⟩
  refine S_ ?_
  refine hQ1 _ _ (S_ ?_);clear hQ1 Q1
  refine n_ ?_
  refine wpM_regionK [7,11,14,15] rfl fun Q1 hQ1 => ?_
  refine S_ ?_
  refine cp_ (isrun_ok m l 30 hm (by omega)) Tryz.call16 ?_
  refine hQ1 _ _ (S_ ?_);clear hQ1 Q1
  refine n_ ?_
  refine wpM_regionK [4] rfl fun Q1 hQ1 => ?_
  refine SD_ ?_
  first | refine cg_ (fun hb => memSame_ok (runS m l 30).1 m (runS_Sm2 m l 30)) Tryz.call17 ?_ | refine cpD_ (memSame_ok (runS m l 30).1 m (runS_Sm2 m l 30)) Tryz.call17 ?_
  refine hQ1 _ _ (S_ ?_);clear hQ1 Q1
  refine e_ Tryz.results3 ?_
  first
  | exact True.intro
  | first
    | trivial
    | exact same_self _
    | (have := wp_run hP hok m
       simpa using this)
end Go.Proofs.YtmicbfojofcigaaGreatDoor
