/- A part of a proof: lemmas and contracts of functions; the last text of the claim says what is proved. -/
import Derived.Test.YtnilkkcobeaglaaGreatX0ad725415d
set_option linter.unusedSectionVars false
set_option linter.unusedSimpArgs false
set_option linter.unusedVariables false
namespace Go.Proofs.YtnilkkcobeaglaaGreat
open Go Sg
set_option maxRecDepth 100000
set_option linter.unusedSimpArgs false
set_option linter.unusedVariables false
set_option maxHeartbeats 4000000
@[go_sem] theorem buildA_withActing : buildA Tryz.prog 186 [] = some (.agg []) := buildA_of (pl := []) (z := []) zeroA186 (placesA_struct Tryz.underlying186 rfl rfl) []
@[go_sem] theorem buildA_setActing : buildA Tryz.prog 187 [] = some (.agg []) := buildA_of (pl := []) (z := []) zeroA187 (placesA_struct Tryz.underlying187 rfl rfl) []
@[go_sem] theorem buildA_offActing : buildA Tryz.prog 188 [] = some (.agg []) := buildA_of (pl := []) (z := []) zeroA188 (placesA_struct Tryz.underlying188 rfl rfl) []
@[go_sem] theorem buildA_beginActing : buildA Tryz.prog 189 [] = some (.agg []) := buildA_of (pl := []) (z := []) zeroA189 (placesA_struct Tryz.underlying189 rfl rfl) []
def actL : List (PV × PV) := [(.int .i64 1, .iface 186 (.agg [])), (.int .i64 2, .iface 187 (.agg [])), (.int .i64 3, .iface 188 (.agg [])), (.int .i64 4, .iface 189 (.agg []))]
theorem actings_ok : CallF Tryz.prog 91 [] [] 1 (fun ns o => ∃ x, ns = [x] ∧ o = { rs := [.map x], nw := [(x, .map actL)] }) := by
  refine callF_of' Tryz.func91 rfl Tryz.ntmps91 (by simp) ?_
  intro f0 B ns Q hB hns hQ
  obtain ⟨x, rfl⟩ : ∃ x, ns = [x] := by
    match ns, hns with
    | [x], _ => exact ⟨x, rfl⟩
  refine wpM_seq ?_
  refine wpM_regionK [] rfl ?_; intro Q1 hQ1
  refine S_ ?_
  refine hQ1 _ _ ?_; clear hQ1 Q1
  refine S_ ?_
  refine wpM_seq ?_
  refine wpM_regionK [0] rfl ?_; intro Q1 hQ1
  refine S_ ?_
  refine hQ1 _ _ ?_; clear hQ1 Q1
  refine S_ ?_
  refine wpM_ret ?_
  try refine S_ ?_
  refine hQ _ _ (retK [B] [] [(x, .map actL)] rfl rfl rfl (by rw [Tryz.results91]; simp (maxSteps := 1000000) -implicitDefEqProofs (disch := omega) only [go_sem] <;> rfl) ?_ ⟨x, rfl, rfl⟩ ?_ ?_ ?_ ?_ ?_ ?_)
  all_goals (first | (simp -implicitDefEqProofs (disch := omega) only [go_sem, actL, List.nodup_cons, List.nodup_nil, true_or, or_true, List.mem_cons, List.not_mem_nil]; done) | (simp -implicitDefEqProofs (disch := omega) only [go_sem, actL, List.nodup_cons, List.nodup_nil, true_or, or_true, List.mem_cons, List.not_mem_nil]; rintro x (rfl | rfl | rfl | rfl) <;> simp [PV.ids, PV.idsL]))
def actO (k : Int) : PV := if k == 1 then .iface 186 (.agg []) else if k == 2 then .iface 187 (.agg []) else if k == 3 then .iface 188 (.agg []) else .iface 189 (.agg [])
@[go_sem] theorem find_act (k : Int) (h1 : 1 ≤ k) (h4 : k ≤ 4) : findA (.int .i64 k) actL = some (some (actO k)) := by
  have : k = 1 ∨ k = 2 ∨ k = 3 ∨ k = 4 := by omega
  rcases this with rfl | rfl | rfl | rfl <;> simp [findA, actL, actO]
def keepK (k : Int) (on : BitVec 64) (kp : List Bool) (a : GAct) : List Bool :=
  if k == 2 then kp.set a.to'.at'.toNat (kp.getD a.to'.at'.toNat false || on.getLsbD a.step.toNat) else if k == 3 then kp.set a.to'.at'.toNat (kp.getD a.to'.at'.toNat false && !on.getLsbD a.step.toNat) else kp
def drvK (k : Int) (on bg : BitVec 64) (a : GAct) : Bool := if k == 1 then on.getLsbD a.step.toNat else if k == 4 then bg.getLsbD a.step.toNat else false
def KeepF (f : Nat) (k : Int) : Prop := ∀ (id : Nat) (on bg : BitVec 64) (kp : List Bool) (a : GAct), kp.length = 6 → 0 ≤ a.step → (0 ≤ a.to'.at' ∧ a.to'.at' < 6) →
  CallF Tryz.prog f [.agg [], .ptr id 0, .agg a.cs] (tobj id on bg kp) 0 (fun _ o => o = { rs := [], u := [(id, some (.cells 93 (tcs on bg (keepK k on kp a))))] })
def DrvF (f : Nat) (k : Int) : Prop := ∀ (id : Nat) (on bg : BitVec 64) (kp : List Bool) (a : GAct), kp.length = 6 → 0 ≤ a.step →
  CallF Tryz.prog f [.agg [], .ptr id 0, .agg a.cs] (tobj id on bg kp) 0 (fun _ o => o = { rs := [.bool (drvK k on bg a)] })
theorem keep1_ok : KeepF 215 1 := by
  intro id on bg kp a hk hs ha
  refine callF_of' Tryz.func215 rfl Tryz.ntmps215 (by simp) ?_
  intro f0 B ns Q hB hns hQ
  have hid : id < B := hB id (by simp [hasKey, lk, tobj])
  obtain rfl : ns = [] := List.eq_nil_of_length_eq_zero hns
  refine wpM_regionK [] rfl ?_; intro Q1 hQ1
  refine S_ ?_
  refine hQ1 _ _ ?_; clear hQ1 Q1
  refine S_ ?_
  refine hQ _ _ (ret0n [(id, some (.cells 93 (tcs on bg kp)))] rfl rfl rfl (by rw [Tryz.results215]; simp (maxSteps := 1000000) -implicitDefEqProofs (disch := omega) only [go_sem] <;> rfl) rfl ?_ ?_ ?_ ?_)
  all_goals simp -implicitDefEqProofs (disch := omega) only [go_sem, true_or, or_true]
theorem keep4_ok : KeepF 221 4 := by
  intro id on bg kp a hk hs ha
  refine callF_of' Tryz.func221 rfl Tryz.ntmps221 (by simp) ?_
  intro f0 B ns Q hB hns hQ
  have hid : id < B := hB id (by simp [hasKey, lk, tobj])
  obtain rfl : ns = [] := List.eq_nil_of_length_eq_zero hns
  refine wpM_regionK [] rfl ?_; intro Q1 hQ1
  refine S_ ?_
  refine hQ1 _ _ ?_; clear hQ1 Q1
  refine S_ ?_
  refine hQ _ _ (ret0n [(id, some (.cells 93 (tcs on bg kp)))] rfl rfl rfl (by rw [Tryz.results221]; simp (maxSteps := 1000000) -implicitDefEqProofs (disch := omega) only [go_sem] <;> rfl) rfl ?_ ?_ ?_ ?_)
  all_goals simp -implicitDefEqProofs (disch := omega) only [go_sem, true_or, or_true]
theorem keep2_ok : KeepF 217 2 := by
  intro id on bg kp a hk hs ha
  refine callF_of' Tryz.func217 rfl Tryz.ntmps217 (by simp) ?_
  intro f0 B ns Q hB hns hQ
  have hid : id < B := hB id (by simp [hasKey, lk, tobj])
  obtain rfl : ns = [] := List.eq_nil_of_length_eq_zero hns
  refine wpM_seq ?_
  refine wpM_regionK [1, 5] rfl ?_; intro Q1 hQ1
  refine S_ ?_
  refine hQ1 _ _ ?_; clear hQ1 Q1
  refine S_ ?_
  refine wpM_keep [] (wpM_dr mixed 0 2 [B + 1, id] [⟨[1], [], [], [], false⟩, ⟨[5], [], [], [], false⟩, ⟨[7], [], [], [], false⟩, ⟨[8], [0], [], [], false⟩, ⟨[1], [], [], [], false⟩, ⟨[5], [], [], [], false⟩, ⟨[11], [], [], [], false⟩, ⟨[12], [0], [], [], false⟩, ⟨[10], [], [], [], false⟩, ⟨[14], [], [], [], false⟩, ⟨[13, 15], [], [], [], false⟩, ⟨[16], [1], [], [], false⟩, ⟨[17], [], [], [], false⟩, ⟨[1, 18], [], [], [], false⟩, ⟨[18, 19], [], [], [], false⟩, ⟨[18, 20], [], [], [], false⟩, ⟨[18, 21], [1], [], [], false⟩, ⟨[5, 18], [], [], [], false⟩, ⟨[18, 23], [0], [], [], false⟩, ⟨[18, 22, 24], [], [], [], true⟩, ⟨[18, 25], [], [], [], false⟩, ⟨[6], [], [], [], false⟩, ⟨[27], [], [], [], false⟩, ⟨[9, 28], [], [], [], false⟩, ⟨[26, 29], [1], [1], [], false⟩] [0, 1, 2, 3, 4, 5, 6, 7, 8, 9, 10, 11, 12, 13, 14, 15, 16, 17, 18, 21, 22, 19, 20, 23, 24] [[], [], [1], [1, 2], [], [], [5], [5, 6], [4], [4, 8], [4, 5, 6, 7, 8, 9], [4, 5, 6, 7, 8, 9, 10], [4, 5, 6, 7, 8, 9, 10, 11], [4, 5, 6, 7, 8, 9, 10, 11, 12], [4, 5, 6, 7, 8, 9, 10, 11, 12, 13], [4, 5, 6, 7, 8, 9, 10, 11, 12, 13, 14], [4, 5, 6, 7, 8, 9, 10, 11, 12, 13, 14, 15], [4, 5, 6, 7, 8, 9, 10, 11, 12], [4, 5, 6, 7, 8, 9, 10, 11, 12, 17], [4, 5, 6, 7, 8, 9, 10, 11, 12, 13, 14, 15, 16, 17, 18], [4, 5, 6, 7, 8, 9, 10, 11, 12, 13, 14, 15, 16, 17, 18, 19], [0], [0, 21], [0, 1, 2, 3, 4, 5, 6, 7, 8, 9, 10, 11, 12, 13, 14, 15, 16, 17, 18, 19, 20, 21, 22], [0, 1, 2, 3, 4, 5, 6, 7, 8, 9, 10, 11, 12, 13, 14, 15, 16, 17, 18, 19, 20, 21, 22, 23]] 2 rfl (by simp; omega) (by decide +kernel) (by simp) ?_)
  intro O A K hO hA hK; simp only [atL_cons, atL_nil, Nat.reduceAdd, Nat.zero_add] at hO hA
  refine SE_ ?_
  first | refine loudG_p (fun hb => has_ok on a.step hs) Tryz.call136 rfl (fun hb => by simp -implicitDefEqProofs (disch := omega) only [go_sem]) (fun hb => by first | rfl | (simp -implicitDefEqProofs (disch := omega) only [go_sem, hb, gd_of hb] <;> rfl)) rfl ?_ | refine loud_p (has_ok on a.step hs) Tryz.call136 rfl rfl (by first | rfl | (simp -implicitDefEqProofs (disch := omega) only [go_sem] <;> rfl)) rfl ?_
  refine SE_ ?_
  refine hK _ ?_; clear hK K hO hA O A
  refine S_ ?_
  refine hQ _ _ (ret0n [(id, some (.cells 93 (tcs on bg (kp.set a.to'.at'.toNat (kp.getD a.to'.at'.toNat false || on.getLsbD a.step.toNat)))))] rfl rfl rfl (by rw [Tryz.results217]; simp (maxSteps := 1000000) -implicitDefEqProofs (disch := omega) only [go_sem] <;> rfl) rfl ?_ ?_ ?_ ?_)
  all_goals simp -implicitDefEqProofs (disch := omega) only [go_sem, true_or, or_true]
theorem keep3_ok : KeepF 219 3 := by
  intro id on bg kp a hk hs ha
  refine callF_of' Tryz.func219 rfl Tryz.ntmps219 (by simp) ?_
  intro f0 B ns Q hB hns hQ
  have hid : id < B := hB id (by simp [hasKey, lk, tobj])
  obtain rfl : ns = [] := List.eq_nil_of_length_eq_zero hns
  refine wpM_seq ?_
  refine wpM_regionK [1, 5] rfl ?_; intro Q1 hQ1
  refine S_ ?_
  refine hQ1 _ _ ?_; clear hQ1 Q1
  refine S_ ?_
  refine wpM_keep [] (wpM_dr mixed 0 2 [B + 1, id] [⟨[1], [], [], [], false⟩, ⟨[5], [], [], [], false⟩, ⟨[7], [], [], [], false⟩, ⟨[8], [0], [], [], false⟩, ⟨[1], [], [], [], false⟩, ⟨[5], [], [], [], false⟩, ⟨[11], [], [], [], false⟩, ⟨[12], [0], [], [], false⟩, ⟨[10], [], [], [], false⟩, ⟨[14], [], [], [], false⟩, ⟨[13, 15], [], [], [], false⟩, ⟨[16], [1], [], [], false⟩, ⟨[17], [], [], [], false⟩, ⟨[1, 18], [], [], [], false⟩, ⟨[18, 19], [], [], [], false⟩, ⟨[18, 20], [], [], [], false⟩, ⟨[18, 21], [1], [], [], false⟩, ⟨[5, 18], [], [], [], false⟩, ⟨[18, 23], [0], [], [], false⟩, ⟨[18, 22, 24], [], [], [], true⟩, ⟨[18, 25], [], [], [], false⟩, ⟨[18, 26], [], [], [], false⟩, ⟨[6], [], [], [], false⟩, ⟨[28], [], [], [], false⟩, ⟨[9, 29], [], [], [], false⟩, ⟨[27, 30], [1], [1], [], false⟩] [0, 1, 2, 3, 4, 5, 6, 7, 8, 9, 10, 11, 12, 13, 14, 15, 16, 17, 18, 22, 23, 19, 20, 21, 24, 25] [[], [], [1], [1, 2], [], [], [5], [5, 6], [4], [4, 8], [4, 5, 6, 7, 8, 9], [4, 5, 6, 7, 8, 9, 10], [4, 5, 6, 7, 8, 9, 10, 11], [4, 5, 6, 7, 8, 9, 10, 11, 12], [4, 5, 6, 7, 8, 9, 10, 11, 12, 13], [4, 5, 6, 7, 8, 9, 10, 11, 12, 13, 14], [4, 5, 6, 7, 8, 9, 10, 11, 12, 13, 14, 15], [4, 5, 6, 7, 8, 9, 10, 11, 12], [4, 5, 6, 7, 8, 9, 10, 11, 12, 17], [4, 5, 6, 7, 8, 9, 10, 11, 12, 13, 14, 15, 16, 17, 18], [4, 5, 6, 7, 8, 9, 10, 11, 12, 13, 14, 15, 16, 17, 18, 19], [4, 5, 6, 7, 8, 9, 10, 11, 12, 13, 14, 15, 16, 17, 18, 19, 20], [0], [0, 22], [0, 1, 2, 3, 4, 5, 6, 7, 8, 9, 10, 11, 12, 13, 14, 15, 16, 17, 18, 19, 20, 21, 22, 23], [0, 1, 2, 3, 4, 5, 6, 7, 8, 9, 10, 11, 12, 13, 14, 15, 16, 17, 18, 19, 20, 21, 22, 23, 24]] 2 rfl (by simp; omega) (by decide +kernel) (by simp) ?_)
  intro O A K hO hA hK; simp only [atL_cons, atL_nil, Nat.reduceAdd, Nat.zero_add] at hO hA
  refine SE_ ?_
  first | refine loudG_p (fun hb => has_ok on a.step hs) Tryz.call136 rfl (fun hb => by simp -implicitDefEqProofs (disch := omega) only [go_sem]) (fun hb => by first | rfl | (simp -implicitDefEqProofs (disch := omega) only [go_sem, hb, gd_of hb] <;> rfl)) rfl ?_ | refine loud_p (has_ok on a.step hs) Tryz.call136 rfl rfl (by first | rfl | (simp -implicitDefEqProofs (disch := omega) only [go_sem] <;> rfl)) rfl ?_
  refine SE_ ?_
  refine hK _ ?_; clear hK K hO hA O A
  refine S_ ?_
  refine hQ _ _ (ret0n [(id, some (.cells 93 (tcs on bg (kp.set a.to'.at'.toNat (kp.getD a.to'.at'.toNat false && !on.getLsbD a.step.toNat)))))] rfl rfl rfl (by rw [Tryz.results219]; simp (maxSteps := 1000000) -implicitDefEqProofs (disch := omega) only [go_sem] <;> rfl) rfl ?_ ?_ ?_ ?_)
  all_goals simp -implicitDefEqProofs (disch := omega) only [go_sem, true_or, or_true]
theorem drv1_ok : DrvF 214 1 := by
  intro id on bg kp a hk hs
  refine callF_of' Tryz.func214 rfl Tryz.ntmps214 (by simp) ?_
  intro f0 B ns Q hB hns hQ
  have hid : id < B := hB id (by simp [hasKey, lk, tobj])
  obtain rfl : ns = [] := List.eq_nil_of_length_eq_zero hns
  refine wpM_seq ?_
  refine wpM_regionK [1, 5] rfl ?_; intro Q1 hQ1
  refine S_ ?_
  refine hQ1 _ _ ?_; clear hQ1 Q1
  refine S_ ?_
  refine wpM_seq ?_
  refine wpM_keep [6] (wpM_dr mixed 0 2 [B + 1, id] [⟨[1], [], [], [], false⟩, ⟨[7], [], [], [], false⟩, ⟨[8], [], [], [], false⟩, ⟨[9], [1], [], [], false⟩, ⟨[5], [], [], [], false⟩, ⟨[11], [0], [], [], false⟩, ⟨[10, 12], [], [], [], true⟩, ⟨[13], [], [], [], false⟩] [0, 1, 2, 3, 4, 5, 6, 7] [[], [0], [0, 1], [0, 1, 2], [], [4], [0, 1, 2, 3, 4, 5], [0, 1, 2, 3, 4, 5, 6]] 2 rfl (by simp; omega) (by decide +kernel) (by simp) ?_)
  intro O A K hO hA hK; simp only [atL_cons, atL_nil, Nat.reduceAdd, Nat.zero_add] at hO hA
  refine SO_ ?_
  refine loud_p (has_ok on a.step hs) Tryz.call136 rfl rfl (by first | rfl | (simp -implicitDefEqProofs (disch := omega) only [go_sem] <;> rfl)) rfl ?_
  refine SO_ ?_
  refine hK _ ?_; clear hK K hO hA O A
  refine S_ ?_
  refine wpM_ret ?_
  try refine S_ ?_
  refine hQ _ _ (ret0 [] rfl rfl rfl (by rw [Tryz.results214]; simp (maxSteps := 1000000) -implicitDefEqProofs (disch := omega) only [go_sem] <;> rfl) rfl ?_ ?_ ?_ ?_)
  all_goals simp -implicitDefEqProofs (disch := omega) only [go_sem, true_or, or_true]
theorem drv4_ok : DrvF 220 4 := by
  intro id on bg kp a hk hs
  refine callF_of' Tryz.func220 rfl Tryz.ntmps220 (by simp) ?_
  intro f0 B ns Q hB hns hQ
  have hid : id < B := hB id (by simp [hasKey, lk, tobj])
  obtain rfl : ns = [] := List.eq_nil_of_length_eq_zero hns
  refine wpM_seq ?_
  refine wpM_regionK [1, 5] rfl ?_; intro Q1 hQ1
  refine S_ ?_
  refine hQ1 _ _ ?_; clear hQ1 Q1
  refine S_ ?_
  refine wpM_seq ?_
  refine wpM_keep [6] (wpM_dr mixed 0 2 [B + 1, id] [⟨[1], [], [], [], false⟩, ⟨[7], [], [], [], false⟩, ⟨[8], [], [], [], false⟩, ⟨[9], [1], [], [], false⟩, ⟨[5], [], [], [], false⟩, ⟨[11], [0], [], [], false⟩, ⟨[10, 12], [], [], [], true⟩, ⟨[13], [], [], [], false⟩] [0, 1, 2, 3, 4, 5, 6, 7] [[], [0], [0, 1], [0, 1, 2], [], [4], [0, 1, 2, 3, 4, 5], [0, 1, 2, 3, 4, 5, 6]] 2 rfl (by simp; omega) (by decide +kernel) (by simp) ?_)
  intro O A K hO hA hK; simp only [atL_cons, atL_nil, Nat.reduceAdd, Nat.zero_add] at hO hA
  refine SO_ ?_
  refine loud_p (has_ok bg a.step hs) Tryz.call136 rfl rfl (by first | rfl | (simp -implicitDefEqProofs (disch := omega) only [go_sem] <;> rfl)) rfl ?_
  refine SO_ ?_
  refine hK _ ?_; clear hK K hO hA O A
  refine S_ ?_
  refine wpM_ret ?_
  try refine S_ ?_
  refine hQ _ _ (ret0 [] rfl rfl rfl (by rw [Tryz.results220]; simp (maxSteps := 1000000) -implicitDefEqProofs (disch := omega) only [go_sem] <;> rfl) rfl ?_ ?_ ?_ ?_)
  all_goals simp -implicitDefEqProofs (disch := omega) only [go_sem, true_or, or_true]
theorem drv2_ok : DrvF 216 2 := by
  intro id on bg kp a hk hs
  refine callF_of' Tryz.func216 rfl Tryz.ntmps216 (by simp) ?_
  intro f0 B ns Q hB hns hQ
  have hid : id < B := hB id (by simp [hasKey, lk, tobj])
  obtain rfl : ns = [] := List.eq_nil_of_length_eq_zero hns
  refine wpM_seq ?_
  refine wpM_regionK [] rfl ?_; intro Q1 hQ1
  refine S_ ?_
  refine hQ1 _ _ ?_; clear hQ1 Q1
  refine S_ ?_
  refine wpM_seq ?_
  refine wpM_regionK [6] rfl ?_; intro Q1 hQ1
  refine S_ ?_
  refine hQ1 _ _ ?_; clear hQ1 Q1
  refine S_ ?_
  refine wpM_ret ?_
  try refine S_ ?_
  refine hQ _ _ (ret0 [] rfl rfl rfl (by rw [Tryz.results216]; simp (maxSteps := 1000000) -implicitDefEqProofs (disch := omega) only [go_sem] <;> rfl) rfl ?_ ?_ ?_ ?_)
  all_goals simp -implicitDefEqProofs (disch := omega) only [go_sem, true_or, or_true]
theorem drv3_ok : DrvF 218 3 := by
  intro id on bg kp a hk hs
  refine callF_of' Tryz.func218 rfl Tryz.ntmps218 (by simp) ?_
  intro f0 B ns Q hB hns hQ
  have hid : id < B := hB id (by simp [hasKey, lk, tobj])
  obtain rfl : ns = [] := List.eq_nil_of_length_eq_zero hns
  refine wpM_seq ?_
  refine wpM_regionK [] rfl ?_; intro Q1 hQ1
  refine S_ ?_
  refine hQ1 _ _ ?_; clear hQ1 Q1
  refine S_ ?_
  refine wpM_seq ?_
  refine wpM_regionK [6] rfl ?_; intro Q1 hQ1
  refine S_ ?_
  refine hQ1 _ _ ?_; clear hQ1 Q1
  refine S_ ?_
  refine wpM_ret ?_
  try refine S_ ?_
  refine hQ _ _ (ret0 [] rfl rfl rfl (by rw [Tryz.results218]; simp (maxSteps := 1000000) -implicitDefEqProofs (disch := omega) only [go_sem] <;> rfl) rfl ?_ ?_ ?_ ?_)
  all_goals simp -implicitDefEqProofs (disch := omega) only [go_sem, true_or, or_true]
theorem act_meth (k : Int) (h1 : 1 ≤ k) (h4 : k ≤ 4) : ∃ t fk fd, actO k = .iface t (.agg []) ∧
    (∀ args w, (callFunc fk args).run Tryz.prog w = .ok (.enter fk args) w) ∧ (∀ (v : Value) w, (method (Tryz.prog.types.size + Made.depth) t v "loop.example/stopgate/impl.keep").run Tryz.prog w = .ok (fk, v) w) ∧ KeepF fk k ∧
    (∀ args w, (callFunc fd args).run Tryz.prog w = .ok (.enter fd args) w) ∧ (∀ (v : Value) w, (method (Tryz.prog.types.size + Made.depth) t v "loop.example/stopgate/impl.drives").run Tryz.prog w = .ok (fd, v) w) ∧ DrvF fd k := by
  have : k = 1 ∨ k = 2 ∨ k = 3 ∨ k = 4 := by omega
  rcases this with rfl | rfl | rfl | rfl
  · exact ⟨186, 215, 214, rfl, Tryz.call215, method_run info186 Tryz.underlying186 (by simp) (by rfl) rfl rfl, keep1_ok, Tryz.call214, method_run info186 Tryz.underlying186 (by simp) (by rfl) rfl rfl, drv1_ok⟩
  · exact ⟨187, 217, 216, rfl, Tryz.call217, method_run info187 Tryz.underlying187 (by simp) (by rfl) rfl rfl, keep2_ok, Tryz.call216, method_run info187 Tryz.underlying187 (by simp) (by rfl) rfl rfl, drv2_ok⟩
  · exact ⟨188, 219, 218, rfl, Tryz.call219, method_run info188 Tryz.underlying188 (by simp) (by rfl) rfl rfl, keep3_ok, Tryz.call218, method_run info188 Tryz.underlying188 (by simp) (by rfl) rfl rfl, drv3_ok⟩
  · exact ⟨189, 221, 220, rfl, Tryz.call221, method_run info189 Tryz.underlying189 (by simp) (by rfl) rfl rfl, keep4_ok, Tryz.call220, method_run info189 Tryz.underlying189 (by simp) (by rfl) rfl rfl, drv4_ok⟩
end Go.Proofs.YtnilkkcobeaglaaGreat
namespace Go.Proofs.YtnilkkcobeaglaaGreat
open Go Sg
set_option maxRecDepth 100000
set_option linter.unusedSimpArgs false
set_option linter.unusedVariables false
set_option maxHeartbeats 4000000
def drives (on bg : BitVec 64) (a b : GAct) : Bool := b.to' == a.to' && drvK b.kind on bg b
def StepF (p q tid : Nat) (on bg : BitVec 64) (kp : List Bool) (a b : GAct) : Prop :=
  CallF Tryz.prog 93 [.agg b.cs, .ptr p 0, .ptr q 0] [(p, .cells 41 a.cs), (q, .cells 94 [.ptr tid 0]), (tid, .cells 93 (tcs on bg kp))] 0 (fun _ o => o = { rs := [.bool (drives on bg a b)] })
theorem AD.beq (a b : AD) : (a == b) = ((a.kind == b.kind) && (a.at' == b.at')) := by
  rw [Bool.eq_iff_iff, beq_iff_eq]
  cases a; cases b; simp
theorem step1_no (p q tid : Nat) (on bg : BitVec 64) (kp : List Bool) (a b : GAct) (hpq : p ≠ q) (hpt : p ≠ tid) (hqt : q ≠ tid) (h : (b.to' == a.to') = false) : StepF p q tid on bg kp a b := by
  have hd : drives on bg a b = false := by simp [drives, h]
  unfold StepF; rw [hd]
  rw [AD.beq] at h
  refine callF_of' Tryz.func93 rfl Tryz.ntmps93 (by simp) ?_
  intro f0 B ns Q hB hns hQ
  have hp : p < B := hB p (by simp [hasKey, lk])
  have hq : q < B := hB q (by simp [hasKey, lk, hpq])
  have ht : tid < B := hB tid (by simp [hasKey, lk, hpt, hqt])
  obtain rfl : ns = [] := List.eq_nil_of_length_eq_zero hns
  refine wpM_seq ?_
  refine wpM_regionK [1, 2, 3] rfl ?_; intro Q1 hQ1
  refine S_ ?_
  refine hQ1 _ _ ?_; clear hQ1 Q1
  refine S_ ?_
  refine wpM_seq ?_
  refine wpM_keep [4] (wpM_dr mixed 0 2 [B, p] [⟨[3], [], [], [], false⟩, ⟨[5], [0], [], [], false⟩, ⟨[1], [], [], [], false⟩, ⟨[7], [1], [], [], false⟩, ⟨[6, 8], [], [], [], false⟩, ⟨[9], [], [], [], false⟩, ⟨[10], [], [], [], true⟩, ⟨[3, 10], [], [], [], false⟩, ⟨[10, 12], [0], [], [], false⟩, ⟨[10, 11, 13], [], [], [], false⟩, ⟨[2, 10], [], [], [], false⟩, ⟨[3, 10], [0], [], [], false⟩, ⟨[10, 14, 15, 16], [], [], [], true⟩, ⟨[10, 17], [], [], [], false⟩, ⟨[18], [], [], [], false⟩] [0, 1, 2, 3, 4, 5, 7, 8, 10, 11, 6, 9, 12, 13, 14] [[], [0], [], [2], [0, 1, 2, 3], [0, 1, 2, 3, 4], [0, 1, 2, 3, 4, 5], [0, 1, 2, 3, 4, 5], [0, 1, 2, 3, 4, 5, 7], [0, 1, 2, 3, 4, 5, 6, 7, 8], [0, 1, 2, 3, 4, 5], [0, 1, 2, 3, 4, 5], [0, 1, 2, 3, 4, 5, 6, 7, 8, 9, 10, 11], [0, 1, 2, 3, 4, 5, 6, 7, 8, 9, 10, 11, 12], [0, 1, 2, 3, 4, 5, 6, 7, 8, 9, 10, 11, 12, 13]] 2 rfl (by simp; omega) (by decide +kernel) (by simp) ?_)
  intro O A K hO hA hK; simp only [atL_cons, atL_nil, Nat.reduceAdd, Nat.zero_add] at hO hA
  simp -implicitDefEqProofs (disch := omega) only [go_sem, h, hO, hA]
  refine hK _ ?_; clear hK K hO hA O A
  refine S_ ?_
  refine wpM_ret ?_
  try refine S_ ?_
  refine hQ _ _ (ret0 [] rfl rfl rfl (by rw [Tryz.results93]; simp (maxSteps := 1000000) -implicitDefEqProofs (disch := omega) only [go_sem] <;> rfl) rfl ?_ ?_ ?_ ?_)
  all_goals simp -implicitDefEqProofs (disch := omega) only [go_sem, true_or, or_true]
theorem step1_yes (p q tid : Nat) (on bg : BitVec 64) (kp : List Bool) (a b : GAct) (hpq : p ≠ q) (hpt : p ≠ tid) (hqt : q ≠ tid) (hk : kp.length = 6) (hb : 0 ≤ b.step) (h1 : 1 ≤ b.kind) (h4 : b.kind ≤ 4) (h : (b.to' == a.to') = true) : StepF p q tid on bg kp a b := by
  have hd : drives on bg a b = drvK b.kind on bg b := by simp [drives, h]
  unfold StepF; rw [hd]
  rw [AD.beq] at h
  obtain ⟨t, fk, fd, hr, q1, q2, q3, q4, q5, q6⟩ := act_meth b.kind h1 h4
  refine callF_of' Tryz.func93 rfl Tryz.ntmps93 (by simp) ?_
  intro f0 B ns Q hB hns hQ
  have hp : p < B := hB p (by simp [hasKey, lk])
  have hq : q < B := hB q (by simp [hasKey, lk, hpq])
  have ht : tid < B := hB tid (by simp [hasKey, lk, hpt, hqt])
  obtain rfl : ns = [] := List.eq_nil_of_length_eq_zero hns
  refine wpM_seq ?_
  refine wpM_regionK [1, 2, 3] rfl ?_; intro Q1 hQ1
  refine S_ ?_
  refine hQ1 _ _ ?_; clear hQ1 Q1
  refine S_ ?_
  refine wpM_seq ?_
  refine wpM_keep [4] (wpM_dr mixed 1 4 [B, p, q, tid, B + 1] [⟨[3], [], [], [], false⟩, ⟨[5], [0], [], [], false⟩, ⟨[1], [], [], [], false⟩, ⟨[7], [1], [], [], false⟩, ⟨[6, 8], [], [], [], false⟩, ⟨[9], [], [], [], false⟩, ⟨[10], [], [], [4], true⟩, ⟨[3, 10], [], [], [], false⟩, ⟨[10, 12], [0], [], [], false⟩, ⟨[10, 11, 13], [4], [], [], false⟩, ⟨[2, 10], [2], [], [], false⟩, ⟨[3, 10], [0], [], [], false⟩, ⟨[10, 14, 15, 16], [3], [], [], true⟩, ⟨[10, 17], [], [], [], false⟩, ⟨[18], [], [], [], false⟩] [0, 1, 2, 3, 4, 5, 7, 8, 10, 11, 6, 9, 12, 13, 14] [[], [0], [], [2], [0, 1, 2, 3], [0, 1, 2, 3, 4], [0, 1, 2, 3, 4, 5], [0, 1, 2, 3, 4, 5], [0, 1, 2, 3, 4, 5, 7], [0, 1, 2, 3, 4, 5, 6, 7, 8], [0, 1, 2, 3, 4, 5], [0, 1, 2, 3, 4, 5], [0, 1, 2, 3, 4, 5, 6, 7, 8, 9, 10, 11], [0, 1, 2, 3, 4, 5, 6, 7, 8, 9, 10, 11, 12], [0, 1, 2, 3, 4, 5, 6, 7, 8, 9, 10, 11, 12, 13]] 5 rfl (by simp; omega) (by decide +kernel) (by simp) ?_)
  intro O A K hO hA hK; simp only [atL_cons, atL_nil, Nat.reduceAdd, Nat.zero_add] at hO hA
  simp -implicitDefEqProofs (disch := omega) only [go_sem, h, hO, hA]
  refine loud_fn (first := []) (cap := []) (ps := []) (l := []) actings_ok Tryz.call91 rfl rfl F_ (fun i o h => by simp [lk] at h) rfl ?_
  rintro out ⟨x', hns', rfl⟩
  injection hns' with hn1 hns'
  subst hn1
  refine ⟨rfl, ?_⟩
  simp -implicitDefEqProofs (disch := omega) only [go_sem, h, hO, hA]
  refine loud_inv (l := tobj tid on bg kp) (ps := [.ptr tid 0, .agg b.cs]) (k := 0) (q6 tid on bg kp b hk hb) q4 q5 rfl (by simp -implicitDefEqProofs (disch := omega) only [go_sem, hr]) F_ (subG_spec T_) rfl ?_
  rintro out rfl
  refine ⟨rfl, ?_⟩
  simp -implicitDefEqProofs (disch := omega) only [go_sem, h, hO, hA]
  refine hK _ ?_; clear hK K hO hA O A
  refine S_ ?_
  refine wpM_ret ?_
  try refine S_ ?_
  refine hQ _ _ (ret0 [] rfl rfl rfl (by rw [Tryz.results93]; simp (maxSteps := 1000000) -implicitDefEqProofs (disch := omega) only [go_sem] <;> rfl) rfl ?_ ?_ ?_ ?_)
  all_goals simp -implicitDefEqProofs (disch := omega) only [go_sem, true_or, or_true]
theorem step1_ok (p q tid : Nat) (on bg : BitVec 64) (kp : List Bool) (a b : GAct) (hpq : p ≠ q) (hpt : p ≠ tid) (hqt : q ≠ tid) (hk : kp.length = 6) (hb : 0 ≤ b.step) (h1 : 1 ≤ b.kind) (h4 : b.kind ≤ 4) : StepF p q tid on bg kp a b := by
  cases h : (b.to' == a.to')
  · exact step1_no p q tid on bg kp a b hpq hpt hqt h
  · exact step1_yes p q tid on bg kp a b hpq hpt hqt hk hb h1 h4 h
theorem ifires_ok (c : Cht) (on : BitVec 64) (mid : Nat) (o : AObj) : CallF Tryz.prog 48 [.agg c.cs, .int .u64 (on.toNat : Int), .ptr mid 0] [(mid, o)] 3 (fun ns out => ∃ x y z, ns = [x, y, z] ∧ out = { rs := [.fn (.func 102) [] [.ptr x 0, .ptr y 0, .ptr z 0]], nw := [(x, .cells 26 c.cs), (y, .cells 90 [.int .u64 (on.toNat : Int)]), (z, .cells 74 [.ptr mid 0])] }) := by
  refine callF_of' Tryz.func48 rfl Tryz.ntmps48 (by simp) ?_
  intro f0 B ns Q hB hns hQ
  have hid : mid < B := hB mid (by simp [hasKey, lk])
  obtain ⟨x, y, z, rfl⟩ : ∃ x y z, ns = [x, y, z] := by
    match ns, hns with
    | [x, y, z], _ => exact ⟨x, y, z, rfl⟩
  refine wpM_seq ?_
  refine wpM_regionK [3, 4, 5] rfl ?_; intro Q1 hQ1
  refine S_ ?_
  refine hQ1 _ _ ?_; clear hQ1 Q1
  refine S_ ?_
  refine wpM_seq ?_
  refine wpM_regionK [6] rfl ?_; intro Q1 hQ1
  refine S_ ?_
  refine hQ1 _ _ ?_; clear hQ1 Q1
  refine S_ ?_
  refine wpM_ret ?_
  try refine S_ ?_
  refine hQ _ _ (retK [B, B + 1, B + 2] [] [(x, .cells 26 c.cs), (y, .cells 90 [.int .u64 (on.toNat : Int)]), (z, .cells 74 [.ptr mid 0])] rfl rfl rfl (by rw [Tryz.results48]; simp (maxSteps := 1000000) -implicitDefEqProofs (disch := omega) only [go_sem] <;> rfl) ?_ ⟨x, y, z, rfl, rfl⟩ ?_ ?_ ?_ ?_ ?_ ?_)
  all_goals (first | (simp -implicitDefEqProofs (disch := omega) only [go_sem, List.nodup_cons, List.nodup_nil, true_or, or_true, List.mem_cons, List.not_mem_nil]; done) | (simp -implicitDefEqProofs (disch := omega) only [go_sem, List.nodup_cons, List.nodup_nil, true_or, or_true, List.mem_cons, List.not_mem_nil]; omega))
end Go.Proofs.YtnilkkcobeaglaaGreat
namespace Go.Proofs.YtnilkkcobeaglaaGreat
open Go Sg
set_option maxRecDepth 100000
set_option linter.unusedSimpArgs false
set_option linter.unusedVariables false
set_option maxHeartbeats 4000000
def fgd (m : MM) (on used : BitVec 64) (t : Trn) : Bool := bitsL t.fr &&& ~~~on != 0#64 || bitsL t.fr &&& used != 0#64 || !(t.w.of m != 0)
def fI (m : MM) (on : BitVec 64) (c : Cht) (n : Nat) : BitVec 64 × List Nat := (List.range n).foldl (fun s i => if fgd m on s.1 (c.ts.getD i default) then s else (s.1 ||| bitsL (c.ts.getD i default).fr, s.2 ++ [i])) (0#64, [])
@[go_sem] theorem fI_zero (m : MM) (on : BitVec 64) (c : Cht) : fI m on c 0 = (0#64, []) := rfl
theorem fI_yes {m : MM} {on : BitVec 64} {c : Cht} {n : Nat} (h : fgd m on (fI m on c n).1 (c.ts.getD n default) = true) : fI m on c (n + 1) = fI m on c n := by
  rw [fI, List.range_succ, List.foldl_append]
  show (if fgd m on (fI m on c n).1 (c.ts.getD n default) = true then _ else _) = _
  rw [if_pos h]; rfl
theorem fI_no {m : MM} {on : BitVec 64} {c : Cht} {n : Nat} (h : fgd m on (fI m on c n).1 (c.ts.getD n default) = false) : fI m on c (n + 1) = ((fI m on c n).1 ||| bitsL (c.ts.getD n default).fr, (fI m on c n).2 ++ [n]) := by
  rw [fI, List.range_succ, List.foldl_append]
  show (if fgd m on (fI m on c n).1 (c.ts.getD n default) = true then _ else _) = _
  rw [if_neg (by rw [h]; simp)]; rfl
def bgI (c : Cht) (l : List Nat) : BitVec 64 := l.foldl (fun b i => b ||| bitsL (c.ts.getD i default).to') 0#64
@[go_sem] theorem bgI_nil (c : Cht) : bgI c [] = 0#64 := rfl
theorem bgI_app (c : Cht) (l : List Nat) (n : Nat) : bgI c (l ++ [n]) = bgI c l ||| bitsL (c.ts.getD n default).to' := by simp [bgI]
def kfold (k : Int) (on : BitVec 64) (kp : List Bool) (l : List GAct) : List Bool := l.foldl (fun kp a => if a.kind == k then keepK k on kp a else kp) kp
@[go_sem] theorem kfold_nil (k : Int) (on : BitVec 64) (kp : List Bool) : kfold k on kp [] = kp := rfl
theorem kfold_take (k : Int) (on : BitVec 64) (kp : List Bool) (l : List GAct) (i : Nat) (h : i < l.length) : kfold k on kp (l.take (i + 1)) = if (l.getD i default).kind == k then keepK k on (kfold k on kp (l.take i)) (l.getD i default) else kfold k on kp (l.take i) := by
  rw [List.take_succ_eq_append_getElem h, kfold, List.foldl_append]
  simp [List.getD, h, kfold]
theorem keepK_len (k : Int) (on : BitVec 64) (kp : List Bool) (a : GAct) : (keepK k on kp a).length = kp.length := by
  unfold keepK; split
  · simp
  · split <;> simp
theorem kfold_len (k : Int) (on : BitVec 64) (l : List GAct) : ∀ kp : List Bool, (kfold k on kp l).length = kp.length := by
  induction l with
  | nil => intro kp; rfl
  | cons a l ih =>
    intro kp
    show (kfold k on (if a.kind == k then keepK k on kp a else kp) l).length = _
    rw [ih]; split
    · rw [keepK_len]
    · rfl
def kAll (on : BitVec 64) (acts : List GAct) (kp : List Bool) (l : List Int) : List Bool := l.foldl (fun kp k => kfold k on kp acts) kp
@[go_sem] theorem kAll_nil (on : BitVec 64) (acts : List GAct) (kp : List Bool) : kAll on acts kp [] = kp := rfl
theorem kAll_take (on : BitVec 64) (acts : List GAct) (kp : List Bool) (l : List Int) (i : Nat) (h : i < l.length) : kAll on acts kp (l.take (i + 1)) = kfold (l.getD i 0) on (kAll on acts kp (l.take i)) acts := by
  rw [List.take_succ_eq_append_getElem h, kAll, List.foldl_append]
  simp [List.getD, h, kAll]
theorem kAll_len (on : BitVec 64) (acts : List GAct) (l : List Int) : ∀ kp : List Bool, (kAll on acts kp l).length = kp.length := by
  induction l with
  | nil => intro kp; rfl
  | cons a l ih => intro kp; show (kAll on acts (kfold a on kp acts) l).length = _; rw [ih, kfold_len]
def imstep (c : Cht) (kp : List Bool) (on bg : BitVec 64) (m : MM) (a : GAct) : MM := m.put a.to' (numIs (kp.getD a.to'.at'.toNat false || c.as'.any (drives on bg a)))
def imfold (c : Cht) (kp : List Bool) (on bg : BitVec 64) (m : MM) (l : List GAct) : MM := l.foldl (imstep c kp on bg) m
@[go_sem] theorem imfold_nil (c : Cht) (kp : List Bool) (on bg : BitVec 64) (m : MM) : imfold c kp on bg m [] = m := rfl
theorem imfold_take (c : Cht) (kp : List Bool) (on bg : BitVec 64) (m : MM) (l : List GAct) (i : Nat) (h : i < l.length) : imfold c kp on bg m (l.take (i + 1)) = imstep c kp on bg (imfold c kp on bg m (l.take i)) (l.getD i default) := by
  rw [List.take_succ_eq_append_getElem h, imfold, List.foldl_append]
  simp [List.getD, h, imfold]
theorem imfold_six (c : Cht) (kp : List Bool) (on bg : BitVec 64) (l : List GAct) : ∀ m : MM, m.Six → (imfold c kp on bg m l).Six := by
  induction l with
  | nil => intro m h; exact h
  | cons a l ih => intro m h; exact ih _ (MM.put_six h _ _)
theorem flat_put {m : MM} (hm : m.Six) {a : AD} (ha : a.ok = true) (h2 : a.kind = 2) (n : Int) : (m.put a n).flat = m.flat.set (pos a) (cut n) := by
  have hk : 1 ≤ a.kind ∧ a.kind ≤ 3 ∧ 0 ≤ a.at' ∧ a.at' < 6 := by simp only [AD.ok, Bool.and_eq_true, decide_eq_true_eq] at ha; omega
  have e1 := hm.i
  have e2 := hm.o
  rw [MM.put2 (by rw [h2]; rfl)]
  unfold MM.flat pos
  rw [h2]
  show m.i ++ (m.o.set a.at'.toNat (cut n) ++ m.v) = (m.i ++ (m.o ++ m.v)).set (1 * 6 + a.at'.toNat) (cut n)
  rw [List.set_append_right _ _ (by omega), List.set_append_left _ _ (by omega)]
  congr 3; omega
def istep (c : Cht) (k : Mrk) (m : MM) : Mrk × MM :=
  let on0 := onBits k.on
  let f := fI m on0 c c.ts.length
  let bg := bgI c f.2
  let on := on0 &&& ~~~f.1 ||| bg
  let kp := kAll on c.as' k.kept [2, 3]
  (⟨hasL on c.steps.toNat, kp⟩, imfold c kp on bg m c.as')
def GAct.Fine (a : GAct) : Prop := 1 ≤ a.kind ∧ a.kind ≤ 4 ∧ 0 ≤ a.step ∧ a.to'.ok = true ∧ a.to'.kind = 2 ∧ 0 ≤ a.to'.at' ∧ a.to'.at' < 6
theorem istep_ok (c : Cht) (k : Mrk) (m : MM) (mid : Nat) (hm : m.Six) (hc : c.Sm) (hk : k.kept.length = 6) (hg : c.Go k.on.length) (hn : 0 < k.on.length) (hf : ∀ i, i < c.as'.length → (c.as'.getD i default).Fine) :
    CallF Tryz.prog 39 [.agg c.cs, .agg k.cs, .ptr mid 0] (mobj mid m) 0 (fun _ o => o = { rs := [.agg (istep c k m).1.cs], u := [(mid, some (.cells 151 (ints (istep c k m).2.flat)))] }) := by
  have hts := hc.ts
  have has := hc.as'
  have hon6 := hg.n6
  have hst := hg.st
  have hst2 := hg.steps
  refine callF_ofM Tryz.func39 rfl Tryz.ntmps39 (by simp) ?_
  intro f0 B ns Q hB hns hQ
  have hid : mid < B := hB mid (by simp [hasKey, lk, mobj])
  obtain rfl : ns = [] := List.eq_nil_of_length_eq_zero hns
  obtain ⟨asg, body, hcode⟩ : ∃ asg body, Tryz.f39.body.map rfs = some [(asg, body)] := ⟨_, _, rfl⟩
  refine wpM_seq ?_
  refine wpM_regionK [2, 3, 4, 6, 28] rfl ?_; intro Q1 hQ1
  refine S_ ?_
  refine hQ1 _ _ ?_; clear hQ1 Q1
  refine S_ ?_
  refine wpM_seq ?_
  refine wpM_regionK [2, 3, 6, 7, 28] rfl ?_; intro Q1 hQ1
  refine S_ ?_
  refine call_fn (l := []) (first := []) (cap := []) (ps := [.agg k.cs]) (turnOf_ok k (by omega) hk) Tryz.call49 rfl rfl rfl T_ T_ ?_
  rintro out ⟨x', hns', rfl⟩
  injection hns' with hn1 hns'
  subst hn1
  refine S_ ?_
  refine hQ1 _ _ ?_; clear hQ1 Q1
  refine S_ ?_
  refine wpM_seq ?_
  refine wpM_regionK [2, 3, 6, 7, 8, 28] rfl ?_; intro Q1 hQ1
  refine S_ ?_
  refine hQ1 _ _ ?_; clear hQ1 Q1
  refine S_ ?_
  refine wpM_seq ?_
  refine wpM_seq ?_
  refine wpM_keep [2, 3, 6, 7, 8, 26, 28] (wpM_dr mixed 3 4 [B, B + 4, B + 3, mid, B + 6, B + 7, B + 8] [⟨[3], [0], [], [], false⟩, ⟨[7], [1], [], [], false⟩, ⟨[21], [], [], [], false⟩, ⟨[22], [], [], [], false⟩, ⟨[23], [2], [], [], false⟩, ⟨[2], [], [], [], false⟩, ⟨[20, 24, 25], [3], [], [4, 5, 6], true⟩] [0, 1, 2, 3, 4, 5, 6] [[], [], [1], [1, 2], [1, 2, 3], [], [0, 1, 2, 3, 4, 5]] 7 rfl (by simp; omega) (by decide +kernel) (by simp) ?_)
  intro O A K hO hA hK; simp only [atL_cons, atL_nil, Nat.reduceAdd, Nat.zero_add] at hO hA
  refine SO_ ?_
  refine loud_fn (first := []) (cap := []) (ps := [.agg c.cs, .int .u64 ((onBits k.on).toNat : Int), .ptr mid 0]) (l := mobj mid m) (ifires_ok c (onBits k.on) mid _) Tryz.call48 rfl rfl F_ (subG_spec T_) rfl ?_
  rintro out ⟨x', y', z', hns', rfl⟩
  injection hns' with hn1 hns'
  injection hns' with hn2 hns'
  injection hns' with hn3 hns'
  subst hn1 hn2 hn3
  refine ⟨rfl, ?_⟩
  refine SO_ ?_
  refine hK _ ?_; clear hK K hO hA O A
  refine S_ ?_
  refine wpM_block ?_
  have hcode' := Option.some.inj hcode
  simp only [rfs, List.nil_append, List.append_nil, List.cons.injEq, Prod.mk.injEq, and_true] at hcode'
  obtain ⟨hasg, hbody⟩ := hcode'
  simp -implicitDefEqProofs (disch := omega) only [go_sem, Nat.add_assoc]
  refine wpM_code (c' := Code.rangeFunc (.tmp 26) #[27, 28] asg body) (by rw [← hasg, ← hbody]) ?_
  clear hasg hbody
  refine wpM_rangeFunc (first := []) (cap := [.ptr (B + 6) 0, .ptr (B + 7) 0, .ptr (B + 8) 0]) T_ Tryz.func102 rfl Tryz.ntmps102 (by simp) Tryz.call102 ?_
  intro fn b d
  refine wpM_seq ?_
  refine wpM_regionK [0, 1, 2, 3, 5] rfl ?_; intro Q1 hQ1
  refine S_ ?_
  refine hQ1 _ _ ?_; clear hQ1 Q1
  refine S_ ?_
  refine wpM_seq ?_
  refine wpM_regionK [0, 2, 3, 5, 10, 11, 12] rfl ?_; intro Q1 hQ1
  refine S_ ?_
  refine hQ1 _ _ ?_; clear hQ1 Q1
  refine S_ ?_
  refine wpM_block ?_
  refine wpM_loopS (fun s n s' => ∃ (i0 M0 : Nat) , i0 + n = c.ts.length ∧ s.M ≤ M0 ∧ (Tr i0) ∧ s' = { s with env := setE 5 (.int .u64 ((fI m (onBits k.on) c i0).1.toNat : Int)) (setE 12 (.int .i64 (i0 : Nat)) s.env), l := setl (B + 5) (.cells 90 [.int .u64 ((fI m (onBits k.on) c i0).1.toNat : Int)]) (setl (B + 3) (.cells 93 (tcs (onBits k.on) (bgI c (fI m (onBits k.on) c i0).2) k.kept)) s.l), M := M0 }) (c.ts.length) ?_ ?_
  ·
    refine .of' _ _ ⟨0, _, by omega, Nat.le_refl _, trivial, rfl⟩ ?_ ?_ ?_ <;> (first | (simp -implicitDefEqProofs (disch := omega) only [go_sem, PV.int.injEq, Int.natCast_add, Int.natCast_one, Int.natCast_zero, true_or, le_yes]; done) | rfl | trivial | (simp -implicitDefEqProofs (disch := omega) only [go_sem, PV.int.injEq, Int.natCast_add, Int.natCast_one, Int.natCast_zero, true_or]; simp; done) | (simp; done))
  rintro n0 s' ⟨i0, M0, hi0, hM0, hv0, rfl⟩
  try dsimp only at hM0
  try refine S_ ?_
  refine wpM_seq ?_
  refine wpM_regionK [0, 2, 3, 5, 10, 11, 12, 13] rfl ?_; intro Q1 hQ1
  refine S_ ?_
  refine hQ1 _ _ ?_; clear hQ1 Q1
  refine S_ ?_
  refine wpM_seq ?_
  refine wpM_condK ?_
  refine S_ ?_
  refine ⟨fun hc0 => ?_, fun hc0 => ?_⟩
  ·
    have hl0 : i0 < c.ts.length := by omega
    have ht := hc.t i0 hl0
    have hgo := hg.t i0 hl0
    have htf := ht.fr
    have htt := ht.to'
    refine wpM_skip ?_
    refine S_ ?_
    refine wpM_seq ?_
    refine wpM_block ?_
    refine wpM_seq ?_
    refine wpM_regionK [0, 2, 3, 5, 6, 7, 10, 11, 12] rfl ?_; intro Q1 hQ1
    refine S_ ?_
    refine hQ1 _ _ ?_; clear hQ1 Q1
    refine S_ ?_
    refine wpM_seq ?_
    refine wpM_regionK [0, 2, 3, 5, 6, 7, 8, 10, 11, 12] rfl ?_; intro Q1 hQ1
    refine S_ ?_
    refine call_p (bitsOf_ok (c.ts.getD i0 default).fr htf (fun j hj => (hgo.fr j hj).1)) Tryz.call90 rfl rfl rfl (by first | rfl | (simp -implicitDefEqProofs (disch := omega) only [go_sem] <;> rfl)) ?_
    refine S_ ?_
    refine hQ1 _ _ ?_; clear hQ1 Q1
    refine S_ ?_
    refine wpM_seq ?_
    refine wpM_seq ?_
    refine wpM_regionK [0, 2, 3, 5, 6, 7, 8, 10, 11, 12, 37] rfl ?_; intro Q1 hQ1
    refine SD_ ?_
    refine callG_r (l := mobj mid m) (fun hb => reckon_ok m hm mid 6 (c.ts.getD i0 default).w hgo.w) (by refine subF_spec ?_; simp -implicitDefEqProofs (disch := omega) only [go_sem]) Tryz.call47 rfl rfl (fun hb => by simp -implicitDefEqProofs (disch := omega) only [go_sem]) (fun hb => by first | rfl | simp -implicitDefEqProofs (disch := omega) only [go_sem, hb, gd_of hb] | (simp -implicitDefEqProofs (disch := omega) only [go_sem, hb, gd_of hb]; rfl)) ?_
    refine SD_ ?_
    first | refine callG_p (fun hb => ion_ok ((c.ts.getD i0 default).w.of m)) Tryz.call12 rfl rfl (fun hb => by simp -implicitDefEqProofs (disch := omega) only [go_sem]) (fun hb => by first | rfl | (simp -implicitDefEqProofs (disch := omega) only [go_sem, hb, gd_of hb] <;> rfl)) ?_ | refine call_p (ion_ok ((c.ts.getD i0 default).w.of m)) Tryz.call12 rfl rfl rfl (by first | rfl | (simp -implicitDefEqProofs (disch := omega) only [go_sem] <;> rfl)) ?_
    refine SD_ ?_
    refine hQ1 _ _ ?_; clear hQ1 Q1
    refine S_ ?_
    refine wpM_condK ?_
    refine S_ ?_
    refine ⟨fun hc1 => ?_, fun hc1 => ?_⟩
    ·
      refine wpM_exit ?_
      refine S_ ?_
      refine wpM_regionK [0, 2, 3, 5, 10, 11, 12] rfl ?_; intro Q1 hQ1
      refine S_ ?_
      refine hQ1 _ _ ?_; clear hQ1 Q1
      refine S_ ?_
      first
      | (have hst := fI_yes (m := m) (on := onBits k.on) (c := c) (n := i0) hc1
         refine .of' _ _ ⟨n0 - 1, by omega, i0 + 1, _, by omega, ?_, trivial, rfl⟩ ?_ ?_ ?_
         · first | omega | (simp -implicitDefEqProofs (disch := omega) only [go_sem]; done) | (simp -implicitDefEqProofs (disch := omega) only [go_sem]; omega)
         all_goals (rw [hst]; (first | (simp -implicitDefEqProofs (disch := omega) only [go_sem, PV.int.injEq, Int.natCast_add, Int.natCast_one, Int.natCast_zero, true_or, le_yes]; done) | rfl | trivial | (simp -implicitDefEqProofs (disch := omega) only [go_sem, PV.int.injEq, Int.natCast_add, Int.natCast_one, Int.natCast_zero, true_or]; simp; done) | (simp; done))))
      | (have hst := fI_no (m := m) (on := onBits k.on) (c := c) (n := i0) hc1
         refine .of' _ _ ⟨n0 - 1, by omega, i0 + 1, _, by omega, ?_, trivial, rfl⟩ ?_ ?_ ?_
         · first | omega | (simp -implicitDefEqProofs (disch := omega) only [go_sem]; done) | (simp -implicitDefEqProofs (disch := omega) only [go_sem]; omega)
         all_goals (rw [hst]; simp only [bgI_app]; (first | (simp -implicitDefEqProofs (disch := omega) only [go_sem, PV.int.injEq, Int.natCast_add, Int.natCast_one, Int.natCast_zero, true_or, le_yes]; done) | rfl | trivial | (simp -implicitDefEqProofs (disch := omega) only [go_sem, PV.int.injEq, Int.natCast_add, Int.natCast_one, Int.natCast_zero, true_or]; simp; done) | (simp; done))))
    refine wpM_skip ?_
    refine S_ ?_
    refine wpM_seq ?_
    refine wpM_regionK [0, 2, 3, 5, 6, 7, 10, 11, 12] rfl ?_; intro Q1 hQ1
    refine S_ ?_
    refine hQ1 _ _ ?_; clear hQ1 Q1
    refine S_ ?_
    refine wpM_seq ?_
    refine wpM_regionK [0, 2, 3, 5, 10, 11, 12, 45] rfl ?_; intro Q1 hQ1
    refine S_ ?_
    refine OpM_roundK (B + 10) rfl rfl rfl rfl (by simp -implicitDefEqProofs (disch := omega) only [go_sem]; rfl) rfl rfl ?_
    intro K' hK'
    have hcode' := Option.some.inj hcode
    simp only [rfs, List.nil_append, List.append_nil, List.cons.injEq, Prod.mk.injEq, and_true] at hcode'
    obtain ⟨hasg, hbody⟩ := hcode'
    refine wpM_code hasg ?_
    clear hasg hbody
    simp -implicitDefEqProofs (disch := omega) only [go_sem]
    refine wpM_regionK [7, 8, 10] rfl ?_; intro Q1 hQ1
    refine S_ ?_
    refine hQ1 _ _ ?_; clear hQ1 Q1
    refine S_ ?_
    refine ⟨d, none, fn, 115, [(2, .ptr mid 0), (3, .ptr B 0), (6, .ptr (B + 2) 0), (7, .ptr (B + 4) 0), (8, .ptr (B + 5) 0), (26, .fn (.func 102) [] [.ptr (B + 6) 0, .ptr (B + 7) 0, .ptr (B + 8) 0])], #[27, 28], asg, body, by simp -implicitDefEqProofs (disch := omega) only [go_sem], ?_⟩
    have hcode' := Option.some.inj hcode
    simp only [rfs, List.nil_append, List.append_nil, List.cons.injEq, Prod.mk.injEq, and_true] at hcode'
    obtain ⟨hasg, hbody⟩ := hcode'
    refine wpM_code hbody ?_
    clear hasg hbody
    refine wpM_block ?_
    refine wpM_seq ?_
    refine wpM_keep [7, 10] (wpM_dr mixed 0 2 [B+5, M0+1] [⟨[8], [0], [], [], false⟩, ⟨[10], [], [], [], false⟩, ⟨[30], [1], [], [], false⟩, ⟨[31], [], [], [], true⟩, ⟨[29, 32], [], [], [], false⟩, ⟨[8, 33], [0], [0], [], false⟩] [0, 1, 2, 3, 4, 5] [[], [], [1], [1, 2], [0, 1, 2, 3], [0, 1, 2, 3, 4]] 2 rfl (by simp; omega) (by decide +kernel) (by simp) ?_)
    intro O A K hO hA hK; simp only [atL_cons, atL_nil, Nat.reduceAdd, Nat.zero_add] at hO hA
    refine SO_ ?_
    refine loud_p (bitsOf_ok (c.ts.getD i0 default).fr htf (fun j hj => (hgo.fr j hj).1)) Tryz.call90 rfl rfl (by first | rfl | (simp -implicitDefEqProofs (disch := omega) only [go_sem] <;> rfl)) rfl ?_
    refine SO_ ?_
    refine hK _ ?_; clear hK K hO hA O A
    refine S_ ?_
    refine wpM_keep [] (wpM_dr mixed 0 3 [B + 4, M0 + 1, B + 3] [⟨[7], [0], [], [], false⟩, ⟨[34], [], [], [], false⟩, ⟨[35], [], [], [], false⟩, ⟨[36], [2], [], [], false⟩, ⟨[10], [], [], [], false⟩, ⟨[38], [1], [], [], false⟩, ⟨[39], [], [], [], true⟩, ⟨[37, 40], [], [], [], false⟩, ⟨[34], [], [], [], false⟩, ⟨[42], [], [], [], false⟩, ⟨[41, 43], [2], [2], [], false⟩] [0, 1, 2, 3, 4, 5, 6, 7, 8, 9, 10] [[], [0], [0, 1], [0, 1, 2], [], [4], [4, 5], [0, 1, 2, 3, 4, 5, 6], [0, 1, 2, 3, 4, 5, 6, 7], [0, 1, 2, 3, 4, 5, 6, 7, 8], [0, 1, 2, 3, 4, 5, 6, 7, 8, 9]] 3 rfl (by simp; omega) (by decide +kernel) (by simp) ?_)
    intro O A K hO hA hK; simp only [atL_cons, atL_nil, Nat.reduceAdd, Nat.zero_add] at hO hA
    refine SO_ ?_
    refine loud_p (bitsOf_ok (c.ts.getD i0 default).to' htt (fun j hj => (hgo.to' j hj).1)) Tryz.call90 rfl rfl (by first | rfl | (simp -implicitDefEqProofs (disch := omega) only [go_sem] <;> rfl)) rfl ?_
    refine SO_ ?_
    refine hK _ ?_; clear hK K hO hA O A
    refine S_ ?_
    refine ⟨d, .busy, none, fn, 115, [(2, .ptr mid 0), (3, .ptr B 0), (6, .ptr (B + 2) 0), (7, .ptr (B + 4) 0), (8, .ptr (B + 5) 0), (26, .fn (.func 102) [] [.ptr (B + 6) 0, .ptr (B + 7) 0, .ptr (B + 8) 0])], #[27, 28], asg, body, by simp -implicitDefEqProofs (disch := omega) only [go_sem], ?_⟩
    refine hK' _ ?_; clear hK' K'
    refine S_ ?_
    refine hQ1 _ _ ?_; clear hQ1 Q1
    refine S_ ?_
    refine wpM_condK ?_
    refine S_ ?_
    refine wpM_skip ?_
    refine S_ ?_
    refine wpM_regionK [0, 2, 3, 5, 10, 11, 12] rfl ?_; intro Q1 hQ1
    refine S_ ?_
    refine hQ1 _ _ ?_; clear hQ1 Q1
    refine S_ ?_
    first
    | (have hst := fI_yes (m := m) (on := onBits k.on) (c := c) (n := i0) hc1
       refine .of' _ _ ⟨n0 - 1, by omega, i0 + 1, _, by omega, ?_, trivial, rfl⟩ ?_ ?_ ?_
       · first | omega | (simp -implicitDefEqProofs (disch := omega) only [go_sem]; done) | (simp -implicitDefEqProofs (disch := omega) only [go_sem]; omega)
       all_goals (rw [hst]; (first | (simp -implicitDefEqProofs (disch := omega) only [go_sem, PV.int.injEq, Int.natCast_add, Int.natCast_one, Int.natCast_zero, true_or, le_yes]; done) | rfl | trivial | (simp -implicitDefEqProofs (disch := omega) only [go_sem, PV.int.injEq, Int.natCast_add, Int.natCast_one, Int.natCast_zero, true_or]; simp; done) | (simp; done))))
    | (have hst := fI_no (m := m) (on := onBits k.on) (c := c) (n := i0) hc1
       refine .of' _ _ ⟨n0 - 1, by omega, i0 + 1, _, by omega, ?_, trivial, rfl⟩ ?_ ?_ ?_
       · first | omega | (simp -implicitDefEqProofs (disch := omega) only [go_sem]; done) | (simp -implicitDefEqProofs (disch := omega) only [go_sem]; omega)
       all_goals (rw [hst]; simp only [bgI_app]; (first | (simp -implicitDefEqProofs (disch := omega) only [go_sem, PV.int.injEq, Int.natCast_add, Int.natCast_one, Int.natCast_zero, true_or, le_yes]; done) | rfl | trivial | (simp -implicitDefEqProofs (disch := omega) only [go_sem, PV.int.injEq, Int.natCast_add, Int.natCast_one, Int.natCast_zero, true_or]; simp; done) | (simp; done))))
  refine wpM_exit ?_
  refine S_ ?_
  refine ⟨[], rfl, trivial, [], (by first | (rw [Tryz.results102]; done) | (rw [Tryz.results102]; simp -implicitDefEqProofs (disch := omega) only [go_sem])), ?_⟩
  refine ⟨d, .ready, none, fn, 115, [(2, .ptr mid 0), (3, .ptr B 0), (6, .ptr (B + 2) 0), (7, .ptr (B + 4) 0), (8, .ptr (B + 5) 0), (26, .fn (.func 102) [] [.ptr (B + 6) 0, .ptr (B + 7) 0, .ptr (B + 8) 0])], #[27, 28], asg, body, T_, (by simp), ?_⟩
  simp -implicitDefEqProofs (disch := omega) only [go_sem, Nat.add_assoc]
  have hie : i0 = c.ts.length := by omega
  rw [hie]
  generalize hF : fI m (onBits k.on) c c.ts.length = F
  generalize hG : bgI c F.2 = bg
  refine wpM_seq ?_
  refine wpM_keep [2, 3, 6, 7] (wpM_dr mixed 0 3 [B + 4, B + 5, B + 3] [⟨[7], [0], [], [], false⟩, ⟨[7], [0], [], [], false⟩, ⟨[45], [], [], [], false⟩, ⟨[46], [], [], [], false⟩, ⟨[47], [2], [], [], false⟩, ⟨[8], [1], [], [], false⟩, ⟨[48, 49], [], [], [], false⟩, ⟨[7], [0], [], [], false⟩, ⟨[51], [], [], [], false⟩, ⟨[52], [], [], [], false⟩, ⟨[53], [2], [], [], false⟩, ⟨[50, 54], [], [], [], false⟩, ⟨[44], [], [], [], false⟩, ⟨[56], [], [], [], false⟩, ⟨[55, 57], [2], [2], [], false⟩] [0, 1, 2, 3, 4, 5, 6, 7, 8, 9, 10, 11, 12, 13, 14] [[], [], [1], [1, 2], [1, 2, 3], [], [1, 2, 3, 4, 5], [], [7], [7, 8], [7, 8, 9], [1, 2, 3, 4, 5, 6, 7, 8, 9, 10], [0, 1, 2, 3, 4, 5, 6, 7, 8, 9, 10, 11], [0, 1, 2, 3, 4, 5, 6, 7, 8, 9, 10, 11, 12], [0, 1, 2, 3, 4, 5, 6, 7, 8, 9, 10, 11, 12, 13]] 3 rfl (by simp) (by decide +kernel) (by simp) ?_)
  intro O A K hO hA hK; simp only [atL_cons, atL_nil, Nat.reduceAdd, Nat.zero_add] at hO hA
  refine SO_ ?_
  refine hK _ ?_; clear hK K hO hA O A
  refine S_ ?_
  generalize hO : onBits k.on &&& ~~~F.1 ||| bg = on
  refine wpM_seq ?_
  refine wpM_seq ?_
  refine wpM_regionK [2, 3, 6, 7, 58, 59, 60] rfl ?_; intro Q1 hQ1
  refine S_ ?_
  refine hQ1 _ _ ?_; clear hQ1 Q1
  refine S_ ?_
  rw [show [PV.int .i64 2, PV.int .i64 3] = ints [2, 3] from rfl]
  have hcs : c.steps = (k.on.length : Int) := by omega
  refine wpM_block ?_
  refine wpM_loopS (fun s n s' => ∃ (i0 M0 : Nat) , i0 + n = 2 ∧ s.M ≤ M0 ∧ (Tr i0) ∧ s' = { s with env := setE 60 (.int .i64 (i0 : Nat)) s.env, l := setl (B + 3) (.cells 93 (tcs on bg (kAll on c.as' k.kept (([2, 3] : List Int).take i0)))) s.l, M := M0 }) (2) ?_ ?_
  ·
    refine .of' _ _ ⟨0, _, by omega, Nat.le_refl _, trivial, rfl⟩ ?_ ?_ ?_ <;> (first | (simp -implicitDefEqProofs (disch := omega) only [go_sem, PV.int.injEq, Int.natCast_add, Int.natCast_one, Int.natCast_zero, true_or, le_yes]; done) | rfl | trivial | (simp -implicitDefEqProofs (disch := omega) only [go_sem, PV.int.injEq, Int.natCast_add, Int.natCast_one, Int.natCast_zero, true_or]; simp; done) | (simp; done))
  rintro n0 s' ⟨i0, M0, hi0, hM0, hv0, rfl⟩
  try dsimp only at hM0
  try refine S_ ?_
  refine wpM_seq ?_
  refine wpM_regionK [2, 3, 6, 7, 58, 59, 60, 61] rfl ?_; intro Q1 hQ1
  refine S_ ?_
  refine hQ1 _ _ ?_; clear hQ1 Q1
  refine S_ ?_
  refine wpM_seq ?_
  refine wpM_condK ?_
  refine S_ ?_
  refine ⟨fun hc0 => ?_, fun hc0 => ?_⟩
  ·
    have hl0 : i0 < 2 := by omega
    have hkt0 := kAll_take on c.as' k.kept [2, 3] i0 hl0
    have hkd : 1 ≤ ([2, 3] : List Int).getD i0 0 ∧ ([2, 3] : List Int).getD i0 0 ≤ 4 := by
      have : i0 = 0 ∨ i0 = 1 := by omega
      rcases this with rfl | rfl <;> simp
    have hkp0 : (kAll on c.as' k.kept (([2, 3] : List Int).take i0)).length = 6 := by rw [kAll_len, hk]
    have hl2' : i0 < ([2, 3] : List Int).length := hl0
    refine wpM_skip ?_
    refine S_ ?_
    refine wpM_seq ?_
    refine wpM_block ?_
    refine wpM_seq ?_
    refine wpM_regionK [2, 3, 6, 7, 12, 58, 59, 60] rfl ?_; intro Q1 hQ1
    refine S_ ?_
    refine hQ1 _ _ ?_; clear hQ1 Q1
    refine S_ ?_
    generalize hK : ([2, 3] : List Int).getD i0 0 = kd at *
    generalize hP : kAll on c.as' k.kept (([2, 3] : List Int).take i0) = kp at *
    refine wpM_seq ?_
    refine wpM_regionK [2, 3, 6, 7, 12, 58, 59, 60, 65, 66, 67] rfl ?_; intro Q1 hQ1
    refine S_ ?_
    refine hQ1 _ _ ?_; clear hQ1 Q1
    refine S_ ?_
    refine wpM_block ?_
    refine wpM_loopS (fun s n s' => ∃ (i1 M1 : Nat) , i1 + n = c.as'.length ∧ s.M ≤ M1 ∧ (Tr i1) ∧ s' = { s with env := setE 67 (.int .i64 (i1 : Nat)) s.env, l := setl (B + 3) (.cells 93 (tcs on bg (kfold kd on kp (c.as'.take i1)))) s.l, M := M1 }) (c.as'.length) ?_ ?_
    ·
      refine .of' _ _ ⟨0, _, by omega, Nat.le_refl _, trivial, rfl⟩ ?_ ?_ ?_ <;> (first | (simp -implicitDefEqProofs (disch := omega) only [go_sem, PV.int.injEq, Int.natCast_add, Int.natCast_one, Int.natCast_zero, true_or, le_yes]; done) | rfl | trivial | (simp -implicitDefEqProofs (disch := omega) only [go_sem, PV.int.injEq, Int.natCast_add, Int.natCast_one, Int.natCast_zero, true_or]; simp; done) | (simp; done))
    rintro n1 s' ⟨i1, M1, hi1, hM1, hv1, rfl⟩
    try dsimp only at hM1
    try refine S_ ?_
    refine wpM_seq ?_
    refine wpM_regionK [2, 3, 6, 7, 12, 58, 59, 60, 65, 66, 67, 68] rfl ?_; intro Q1 hQ1
    refine S_ ?_
    refine hQ1 _ _ ?_; clear hQ1 Q1
    refine S_ ?_
    refine wpM_seq ?_
    refine wpM_condK ?_
    refine S_ ?_
    refine ⟨fun hc1 => ?_, fun hc1 => ?_⟩
    ·
      have hl1 : i1 < c.as'.length := by omega
      have hin := hf i1 hl1
      unfold GAct.Fine at hin
      have hkl : (kfold kd on kp (c.as'.take i1)).length = 6 := by rw [kfold_len, hkp0]
      have hkt := kfold_take kd on kp c.as' i1 hl1
      refine wpM_skip ?_
      refine S_ ?_
      refine wpM_seq ?_
      refine wpM_block ?_
      refine wpM_seq ?_
      refine wpM_regionK [2, 3, 6, 7, 12, 14, 58, 59, 60, 65, 66, 67] rfl ?_; intro Q1 hQ1
      refine S_ ?_
      refine hQ1 _ _ ?_; clear hQ1 Q1
      refine S_ ?_
      refine wpM_seq ?_
      refine wpM_regionK [2, 3, 6, 7, 12, 14, 58, 59, 60, 65, 66, 67, 74] rfl ?_; intro Q1 hQ1
      refine S_ ?_
      refine hQ1 _ _ ?_; clear hQ1 Q1
      refine S_ ?_
      refine wpM_condK ?_
      refine S_ ?_
      refine ⟨fun hc2 => ?_, fun hc2 => ?_⟩
      ·
        obtain ⟨t, fk, fd, hr, q1, q2, q3, q4, q5, q6⟩ := act_meth kd hkd.1 hkd.2
        refine wpM_keep [2, 3, 6, 7, 12, 58, 59, 60, 65, 66, 67] (wpM_dr mixed 1 3 [B + 4, M1, B + 3, M1 + 1] [⟨[], [], [], [3], true⟩, ⟨[12], [], [], [], false⟩, ⟨[75, 76], [3], [], [], false⟩, ⟨[7], [0], [], [], false⟩, ⟨[14], [1], [], [], false⟩, ⟨[77, 78, 79], [2], [2], [], true⟩] [1, 3, 4, 0, 2, 5] [[], [], [0, 1], [], [], [0, 1, 2, 3, 4]] 4 rfl (by simp; omega) (by decide +kernel) (by simp) ?_)
        intro O A K hO hA hK; simp only [atL_cons, atL_nil, Nat.reduceAdd, Nat.zero_add] at hO hA
        refine SO_ ?_
        refine loud_fn (first := []) (cap := []) (ps := []) (l := []) actings_ok Tryz.call91 rfl rfl F_ (fun i o h => by simp [lk] at h) rfl ?_
        rintro out ⟨x', hns', rfl⟩
        injection hns' with hn1 hns'
        subst hn1
        refine ⟨rfl, ?_⟩
        refine SO_ ?_
        refine loud_inv (l := tobj (B + 3) on bg (kfold kd on kp (c.as'.take i1))) (ps := [.ptr (B + 3) 0, .agg (c.as'.getD i1 default).cs]) (k := 0) (q3 (B + 3) on bg _ (c.as'.getD i1 default) hkl hin.2.2.1 hin.2.2.2.2.2) q1 q2 rfl (by simp -implicitDefEqProofs (disch := omega) only [go_sem, hr]) F_ (subG_spec T_) rfl ?_
        rintro out rfl
        refine ⟨rfl, ?_⟩
        refine SO_ ?_
        refine hK _ ?_; clear hK K hO hA O A
        refine S_ ?_
        refine wpM_regionK [2, 3, 6, 7, 12, 58, 59, 60, 65, 66, 67] rfl ?_; intro Q1 hQ1
        refine S_ ?_
        refine hQ1 _ _ ?_; clear hQ1 Q1
        refine S_ ?_
        first
        | (rw [hc2, if_pos rfl] at hkt; rw [← hkt])
        | (rw [hc2, if_neg (by simp)] at hkt; rw [← hkt])
        refine .of' _ _ ⟨n1 - 1, by omega, i1 + 1, _, by omega, ?_, ?_, rfl⟩ ?_ ?_ ?_
        · first | omega | (simp -implicitDefEqProofs (disch := omega) only [go_sem]; done) | (simp -implicitDefEqProofs (disch := omega) only [go_sem]; omega)
        · first | trivial | omega
        all_goals (first | (simp -implicitDefEqProofs (disch := omega) only [go_sem, PV.int.injEq, Int.natCast_add, Int.natCast_one, Int.natCast_zero, true_or, le_yes]; done) | rfl | trivial | (simp -implicitDefEqProofs (disch := omega) only [go_sem, PV.int.injEq, Int.natCast_add, Int.natCast_one, Int.natCast_zero, true_or]; simp; done) | (simp; done))
      refine wpM_skip ?_
      refine S_ ?_
      refine wpM_regionK [2, 3, 6, 7, 12, 58, 59, 60, 65, 66, 67] rfl ?_; intro Q1 hQ1
      refine S_ ?_
      refine hQ1 _ _ ?_; clear hQ1 Q1
      refine S_ ?_
      first
      | (rw [hc2, if_pos rfl] at hkt; rw [← hkt])
      | (rw [hc2, if_neg (by simp)] at hkt; rw [← hkt])
      refine .of' _ _ ⟨n1 - 1, by omega, i1 + 1, _, by omega, ?_, ?_, rfl⟩ ?_ ?_ ?_
      · first | omega | (simp -implicitDefEqProofs (disch := omega) only [go_sem]; done) | (simp -implicitDefEqProofs (disch := omega) only [go_sem]; omega)
      · first | trivial | omega
      all_goals (first | (simp -implicitDefEqProofs (disch := omega) only [go_sem, PV.int.injEq, Int.natCast_add, Int.natCast_one, Int.natCast_zero, true_or, le_yes]; done) | rfl | trivial | (simp -implicitDefEqProofs (disch := omega) only [go_sem, PV.int.injEq, Int.natCast_add, Int.natCast_one, Int.natCast_zero, true_or]; simp; done) | (simp; done))
    refine wpM_exit ?_
    refine S_ ?_
    have hie1 : i1 = c.as'.length := by omega
    rw [hie1, List.take_of_length_le (Nat.le_refl _), ← hkt0]
    refine wpM_regionK [2, 3, 6, 7, 58, 59, 60] rfl ?_; intro Q1 hQ1
    refine S_ ?_
    refine hQ1 _ _ ?_; clear hQ1 Q1
    refine S_ ?_
    refine .of' _ _ ⟨n0 - 1, by omega, i0 + 1, _, by omega, ?_, ?_, rfl⟩ ?_ ?_ ?_
    · first | omega | (simp -implicitDefEqProofs (disch := omega) only [go_sem]; done) | (simp -implicitDefEqProofs (disch := omega) only [go_sem]; omega)
    · first | trivial | omega
    all_goals (first | (simp -implicitDefEqProofs (disch := omega) only [go_sem, PV.int.injEq, Int.natCast_add, Int.natCast_one, Int.natCast_zero, true_or, le_yes]; done) | rfl | trivial | (simp -implicitDefEqProofs (disch := omega) only [go_sem, PV.int.injEq, Int.natCast_add, Int.natCast_one, Int.natCast_zero, true_or]; simp; done) | (simp; done))
  refine wpM_exit ?_
  refine S_ ?_
  refine wpM_seq ?_
  refine wpM_seq ?_
  have hie0 : i0 = 2 := by omega
  have hkp2 : (kAll on c.as' k.kept (([2, 3] : List Int).take i0)).length = 6 := by rw [kAll_len, hk]
  have hkq : kAll on c.as' k.kept (([2, 3] : List Int).take i0) = kAll on c.as' k.kept [2, 3] := by rw [hie0]; rfl
  generalize hP2 : kAll on c.as' k.kept (([2, 3] : List Int).take i0) = kp2 at *
  refine wpM_regionK [2, 3, 6, 7, 84, 85, 86] rfl ?_; intro Q1 hQ1
  refine S_ ?_
  refine hQ1 _ _ ?_; clear hQ1 Q1
  refine S_ ?_
  refine wpM_block ?_
  refine wpM_loopS (fun s n s' => ∃ (i2 M2 : Nat) , i2 + n = c.as'.length ∧ s.M ≤ M2 ∧ (Tr i2) ∧ s' = { s with env := setE 86 (.int .i64 (i2 : Nat)) s.env, l := setl mid (.cells 151 (ints (imfold c kp2 on bg m (c.as'.take i2)).flat)) s.l, M := M2 }) (c.as'.length) ?_ ?_
  ·
    refine .of' _ _ ⟨0, _, by omega, Nat.le_refl _, trivial, rfl⟩ ?_ ?_ ?_ <;> (first | (simp -implicitDefEqProofs (disch := omega) only [go_sem, PV.int.injEq, Int.natCast_add, Int.natCast_one, Int.natCast_zero, true_or, le_yes]; done) | rfl | trivial | (simp -implicitDefEqProofs (disch := omega) only [go_sem, PV.int.injEq, Int.natCast_add, Int.natCast_one, Int.natCast_zero, true_or]; simp; done) | (simp; done))
  rintro n2 s' ⟨i2, M2, hi2, hM2, hv2, rfl⟩
  try dsimp only at hM2
  try refine S_ ?_
  refine wpM_seq ?_
  refine wpM_regionK [2, 3, 6, 7, 84, 85, 86, 87] rfl ?_; intro Q1 hQ1
  refine S_ ?_
  refine hQ1 _ _ ?_; clear hQ1 Q1
  refine S_ ?_
  refine wpM_seq ?_
  refine wpM_condK ?_
  refine S_ ?_
  refine ⟨fun hc3 => ?_, fun hc3 => ?_⟩
  ·
    have hl2 : i2 < c.as'.length := by omega
    have hin := hf i2 hl2
    unfold GAct.Fine at hin
    obtain ⟨g1, g2, g3, g4, g5, g6, g7⟩ := hin
    have hms : (imfold c kp2 on bg m (c.as'.take i2)).Six := imfold_six _ _ _ _ _ _ hm
    have hmt := imfold_take c kp2 on bg m c.as' i2 hl2
    generalize hM : imfold c kp2 on bg m (c.as'.take i2) = mm at *
    refine wpM_skip ?_
    refine S_ ?_
    refine wpM_seq ?_
    refine wpM_block ?_
    refine wpM_seq ?_
    refine wpM_regionK [2, 3, 6, 7, 16, 84, 85, 86] rfl ?_; intro Q1 hQ1
    refine S_ ?_
    refine hQ1 _ _ ?_; clear hQ1 Q1
    refine S_ ?_
    refine wpM_seq ?_
    refine wpM_keep [2, 3, 6, 7, 16, 17, 84, 85, 86] (wpM_dr mixed 0 4 [B + 4, M2, B, B + 3] [⟨[7], [0], [], [], false⟩, ⟨[16], [], [], [], false⟩, ⟨[91], [], [], [], false⟩, ⟨[92], [1], [], [], false⟩, ⟨[90], [], [], [], false⟩, ⟨[94], [], [], [], false⟩, ⟨[93, 95], [], [], [], false⟩, ⟨[96], [3], [], [], false⟩, ⟨[97], [], [], [], false⟩, ⟨[3, 98], [], [], [], false⟩, ⟨[98, 99], [2], [], [], false⟩, ⟨[7, 16, 98], [], [], [], false⟩, ⟨[98, 100, 101], [0, 1, 3], [], [], true⟩, ⟨[98, 102], [], [], [], false⟩, ⟨[103], [], [], [], false⟩] [0, 1, 2, 3, 4, 5, 6, 7, 8, 9, 10, 11, 12, 13, 14] [[], [], [1], [1, 2], [0], [0, 4], [0, 1, 2, 3, 4, 5], [0, 1, 2, 3, 4, 5, 6], [0, 1, 2, 3, 4, 5, 6, 7], [0, 1, 2, 3, 4, 5, 6, 7, 8], [0, 1, 2, 3, 4, 5, 6, 7, 8, 9], [0, 1, 2, 3, 4, 5, 6, 7, 8], [0, 1, 2, 3, 4, 5, 6, 7, 8, 9, 10, 11], [0, 1, 2, 3, 4, 5, 6, 7, 8, 9, 10, 11, 12], [0, 1, 2, 3, 4, 5, 6, 7, 8, 9, 10, 11, 12, 13]] 4 rfl (by simp; omega) (by decide +kernel) (by simp) ?_)
    intro O A K hO hA hK; simp only [atL_cons, atL_nil, Nat.reduceAdd, Nat.zero_add] at hO hA
    refine SE_ ?_
    refine loudG_r (fun hb => hasA_ok c.as' 93 [.ptr M2 0, .ptr (B + 4) 0] (drives on bg (c.as'.getD i2 default)) [(M2, .cells 41 (c.as'.getD i2 default).cs), (B + 4, .cells 94 [.ptr (B + 3) 0]), (B + 3, .cells 93 (tcs on bg kp2))] has Tryz.call93 (fun j hj => by
      have hj2 := hf j hj
      unfold GAct.Fine at hj2
      exact step1_ok M2 (B + 4) (B + 3) on bg kp2 (c.as'.getD i2 default) (c.as'.getD j default) (by omega) (by omega) (by omega) hkp2 hj2.2.2.1 hj2.1 hj2.2.1)) (subG_spec T_) Tryz.call92 rfl (fun hb => by simp -implicitDefEqProofs (disch := omega) only [go_sem]) (fun hb => by first | rfl | simp -implicitDefEqProofs (disch := omega) only [go_sem, hb, gd_of hb] | (simp -implicitDefEqProofs (disch := omega) only [go_sem, hb, gd_of hb]; rfl)) rfl ?_
    refine SE_ ?_
    refine hK _ ?_; clear hK K hO hA O A
    refine S_ ?_
    refine wpM_keep [2, 3, 6, 7, 84, 85, 86] (wpM_dr mixed 0 2 [M2, mid] [⟨[2], [], [], [], false⟩, ⟨[16], [], [], [], false⟩, ⟨[105], [0], [], [], false⟩, ⟨[17], [], [], [], false⟩, ⟨[107], [], [], [], true⟩, ⟨[104, 106, 108], [1], [1], [], true⟩] [0, 1, 2, 3, 4, 5] [[], [], [1], [], [3], [0, 1, 2, 3, 4]] 2 rfl (by simp; omega) (by decide +kernel) (by simp) ?_)
    intro O A K hO hA hK; simp only [atL_cons, atL_nil, Nat.reduceAdd, Nat.zero_add] at hO hA
    refine SO_ ?_
    refine loud_p (iis_ok (kp2.getD (c.as'.getD i2 default).to'.at'.toNat false || c.as'.any (drives on bg (c.as'.getD i2 default)))) Tryz.call95 rfl rfl (by first | rfl | (simp -implicitDefEqProofs (disch := omega) only [go_sem] <;> rfl)) rfl ?_
    refine SO_ ?_
    refine loud_fn (first := []) (cap := []) (ps := [.ptr mid 0, .agg (c.as'.getD i2 default).to'.cs, .int .i64 (numIs (kp2.getD (c.as'.getD i2 default).to'.at'.toNat false || c.as'.any (drives on bg (c.as'.getD i2 default))))]) (l := [(mid, .cells 151 (ints mm.flat))]) (iput_ok mid mm.flat (c.as'.getD i2 default).to' (numIs (kp2.getD (c.as'.getD i2 default).to'.at'.toNat false || c.as'.any (drives on bg (c.as'.getD i2 default)))) g4 (by omega) (MM.flat_len hms)) Tryz.call94 rfl rfl F_ (subG_spec T_) rfl ?_
    rintro out rfl
    refine ⟨rfl, ?_⟩
    refine SO_ ?_
    refine hK _ ?_; clear hK K hO hA O A
    refine S_ ?_
    refine wpM_regionK [2, 3, 6, 7, 84, 85, 86] rfl ?_; intro Q1 hQ1
    refine S_ ?_
    refine hQ1 _ _ ?_; clear hQ1 Q1
    refine S_ ?_
    rw [← flat_put hms g4 g5]
    change imfold c kp2 on bg m (c.as'.take (i2 + 1)) = mm.put (c.as'.getD i2 default).to' (numIs (kp2.getD (c.as'.getD i2 default).to'.at'.toNat false || c.as'.any (drives on bg (c.as'.getD i2 default)))) at hmt
    rw [← hmt]
    refine .of' _ _ ⟨n2 - 1, by omega, i2 + 1, _, by omega, ?_, ?_, rfl⟩ ?_ ?_ ?_
    · first | omega | (simp -implicitDefEqProofs (disch := omega) only [go_sem]; done) | (simp -implicitDefEqProofs (disch := omega) only [go_sem]; omega)
    · first | trivial | omega
    all_goals (first | (simp -implicitDefEqProofs (disch := omega) only [go_sem, PV.int.injEq, Int.natCast_add, Int.natCast_one, Int.natCast_zero, true_or, le_yes]; done) | rfl | trivial | (simp -implicitDefEqProofs (disch := omega) only [go_sem, PV.int.injEq, Int.natCast_add, Int.natCast_one, Int.natCast_zero, true_or]; simp; done) | (simp; done))
  refine wpM_exit ?_
  refine S_ ?_
  refine wpM_seq ?_
  have hie2 : i2 = c.as'.length := by omega
  rw [hie2, List.take_of_length_le (Nat.le_refl _)]
  refine wpM_regionK [6] rfl ?_; intro Q1 hQ1
  refine S_ ?_
  refine call_rs (marks_ok (B + 3) on bg kp2 k.on.length hkp2 hn hon6) T_ Tryz.call96 rfl rfl rfl (by first | rfl | simp -implicitDefEqProofs (disch := omega) only [go_sem, hcs]) ?_
  refine S_ ?_
  refine hQ1 _ _ ?_; clear hQ1 Q1
  refine S_ ?_
  refine wpM_ret ?_
  try refine S_ ?_
  have hres : istep c k m = (⟨hasL on k.on.length, kp2⟩, imfold c kp2 on bg m c.as') := by
    rw [← hst2, hkq, ← hO, ← hG, ← hF]; rfl
  rw [hres] at hQ
  refine hQ _ _ ⟨[B + 9], rfl, ⟨⟨by simp (maxSteps := 1000000) -implicitDefEqProofs (disch := omega) only [go_sem], ⟨d, by simp (maxSteps := 1000000) -implicitDefEqProofs (disch := omega) only [go_sem]⟩, by simp⟩, trivial⟩, ret0 [(mid, some (.cells 151 (ints (imfold c kp2 on bg m c.as').flat)))] rfl rfl rfl (by rw [Tryz.results39]; simp (maxSteps := 1000000) -implicitDefEqProofs (disch := omega) only [go_sem] <;> rfl) rfl ?_ ?_ ?_ ?_⟩
  all_goals simp (maxSteps := 1000000) -implicitDefEqProofs (disch := omega) only [go_sem, true_or, or_true]
end Go.Proofs.YtnilkkcobeaglaaGreat
namespace Go.Proofs.YtnilkkcobeaglaaGreat
open Go Sg
set_option maxRecDepth 100000
theorem loc_eq (e : Ex) : (recNil e.kind || (e.kids.length : Int) != kidsR e.kind || !shapeR e) =
    (kidsN e.kind != (e.kids.length : Int) || ((e.kind == 1 && cut e.n != e.n) || (e.kind != 1 && e.n != 0)) || ((e.kind == 2 && !e.a.ok) || (e.kind != 2 && !(e.a.kind == 0 && e.a.at' == 0)))) := by
  unfold recNil kidsR shapeR kidsN noAddr isTwo
  simp only [isNum_cut]
  have hL : 0 ≤ (e.kids.length : Int) := by omega
  generalize (e.kids.length : Int) = L at *
  generalize cut e.n = cn
  generalize e.n = n
  generalize e.a.ok = ok
  generalize e.a.kind = ak
  generalize e.a.at' = aa
  generalize e.kind = k
  by_cases h1 : k = 1
  · subst h1
    rw [Bool.eq_iff_iff]
    cases ok <;> simp <;> omega
  by_cases h2 : k = 2
  · subst h2
    rw [Bool.eq_iff_iff]
    cases ok <;> simp <;> omega
  by_cases h10 : k = 10
  · subst h10
    rw [Bool.eq_iff_iff]
    cases ok <;> simp <;> omega
  have e1 : (k == 1) = false := by simpa using h1
  have e2 : (k == 2) = false := by simpa using h2
  have e3 : (k == 10) = false := by simpa using h10
  rw [e1, e2, e3]
  by_cases h3 : 3 ≤ k ∧ k ≤ 9
  · have f1 : decide (k ≥ 3) = true := by simp; omega
    have f2 : decide (k ≤ 9) = true := by simp; omega
    rw [f1, f2, Bool.eq_iff_iff]
    cases ok <;> simp <;> omega
  · have f : (decide (k ≥ 3) && decide (k ≤ 9)) = false := by
      rw [Bool.and_eq_false_iff]; simp; omega
    have fk : ((k ≥ 3) ∧ (k ≤ 9)) = False := by simp; omega
    rw [f, Bool.eq_iff_iff]
    cases ok <;> simp [bne, h1, h2] <;> omega
theorem form_eq (d : Nat) (e : Ex) : formD (d + 1) e = (!(recNil e.kind || (e.kids.length : Int) != kidsR e.kind || !shapeR e) && e.kids.all (formD d)) := by
  rw [loc_eq, formD]
  cases (kidsN e.kind != (e.kids.length : Int)) <;> simp only [Bool.false_eq_true, if_false, if_true, Bool.true_or, Bool.false_or, Bool.not_true, Bool.false_and]
  cases ((e.kind == 1 && cut e.n != e.n) || (e.kind != 1 && e.n != 0)) <;> simp only [Bool.false_eq_true, if_false, if_true, Bool.true_or, Bool.false_or, Bool.not_true, Bool.false_and]
  cases ((e.kind == 2 && !e.a.ok) || (e.kind != 2 && !(e.a.kind == 0 && e.a.at' == 0))) <;> simp
theorem bad_eq (c deep : Nat) (e : Ex) : badE ((c : Int) + 1) (deep : Int) e = (decide (14 ≤ c) || decide (6 ≤ deep) || (recNil e.kind || (e.kids.length : Int) != kidsR e.kind || !shapeR e)) := by
  unfold badE
  have h1 : decide ((c : Int) + 1 > 14) = decide (14 ≤ c) := by simp; omega
  have h2 : decide ((deep : Int) ≥ 6) = decide (6 ≤ deep) := by simp; omega
  rw [h1, h2]
  simp only [Bool.or_assoc]
theorem vis_sound (d : Nat) : d ≤ 6 → ∀ (e : Ex) (c c' : Nat), vis e (6 - d) c = some c' → formD d e = true ∧ c' = c + manyD d e ∧ c' ≤ 14 := by
  induction d with
  | zero =>
    intro _ e c c' h
    rw [vis_eq, bad_eq] at h
    simp at h
  | succ d ih =>
    intro hd e c c' h
    have hL : ∀ (l : List Ex) (c c' : Nat), c ≤ 14 → visL l (6 - d) c = some c' → l.all (formD d) = true ∧ c' = c + (l.map (manyD d)).sum ∧ c' ≤ 14 := by
      intro l
      induction l with
      | nil => intro c c' hc h; simp [visL] at h; subst h; simp [hc]
      | cons x l ihl =>
        intro c c' hc h
        simp only [visL] at h
        split at h
        · cases h
        · rename_i c1 h1
          obtain ⟨a1, a2, a3⟩ := ih (by omega) x c c1 h1
          obtain ⟨b1, b2, b3⟩ := ihl c1 c' a3 h
          refine ⟨by simp [a1, b1], ?_, b3⟩
          simp only [List.map_cons, List.sum_cons]; omega
    rw [vis_eq, bad_eq] at h
    split at h
    · cases h
    · rename_i hb
      simp only [Bool.or_eq_true, decide_eq_true_eq, not_or] at hb
      obtain ⟨⟨hb1, hb2⟩, hb3⟩ := hb
      have hdeep : 6 - (d + 1) + 1 = 6 - d := by omega
      rw [hdeep] at h
      obtain ⟨a1, a2, a3⟩ := hL e.kids (c + 1) c' (by omega) h
      refine ⟨?_, ?_, a3⟩
      · rw [form_eq, a1]
        simp only [Bool.and_true, Bool.not_eq_true', Bool.or_eq_false_iff]
        simp only [Bool.not_eq_true] at hb3
        exact ⟨⟨hb3.1.1, hb3.1.2⟩, hb3.2⟩
      · simp only [manyD]; omega
theorem vis_complete (d : Nat) : d ≤ 6 → ∀ (e : Ex) (c : Nat), formD d e = true → c + manyD d e ≤ 14 → vis e (6 - d) c = some (c + manyD d e) := by
  induction d with
  | zero => intro _ e c h; cases h
  | succ d ih =>
    intro hd e c hf hm
    have hL : ∀ (l : List Ex) (c : Nat), l.all (formD d) = true → c + (l.map (manyD d)).sum ≤ 14 → visL l (6 - d) c = some (c + (l.map (manyD d)).sum) := by
      intro l
      induction l with
      | nil => intro c _ _; simp [visL]
      | cons x l ihl =>
        intro c hl hs
        simp only [List.all_cons, Bool.and_eq_true] at hl
        simp only [List.map_cons, List.sum_cons] at hs ⊢
        simp only [visL, ih (by omega) x c hl.1 (by omega)]
        rw [ihl _ hl.2 (by omega)]
        congr 1; omega
    rw [form_eq] at hf
    simp only [Bool.and_eq_true, Bool.not_eq_true'] at hf
    simp only [manyD] at hm ⊢
    rw [vis_eq, bad_eq, hf.1]
    have h1 : decide (14 ≤ c) = false := by simp; omega
    have h2 : decide (6 ≤ 6 - (d + 1)) = false := by simp; omega
    rw [h1, h2]
    have hdeep : 6 - (d + 1) + 1 = 6 - d := by omega
    simp only [Bool.or_self, Bool.false_eq_true, if_false, hdeep]
    rw [hL e.kids (c + 1) hf.2 (by omega)]
    congr 1; omega
theorem vis_ok (e : Ex) : (vis e 0 0).isSome = e.ok := by
  rw [Bool.eq_iff_iff, Ex.ok, Bool.and_eq_true, decide_eq_true_eq]
  constructor
  · intro h
    obtain ⟨c', hc⟩ := Option.isSome_iff_exists.1 h
    obtain ⟨a1, a2, a3⟩ := vis_sound 6 (by omega) e 0 c' hc
    exact ⟨a1, by omega⟩
  · rintro ⟨h1, h2⟩
    have := vis_complete 6 (by omega) e 0 h1 (by omega)
    simp at this
    rw [this]; rfl
theorem cht_iok (c : Cht) : c.iok = c.ok := by
  unfold Cht.iok Cht.ok
  have : (fun t : Trn => !(!plOk t.fr c.steps || !plOk t.to' c.steps || !(vis t.w 0 0).isSome)) = fun t => !t.bad c.steps := by
    funext t; rw [vis_ok]; rfl
  rw [this]
  split
  · rfl
  · congr 1
    rw [List.all_eq_not_any_not]; simp
end Go.Proofs.YtnilkkcobeaglaaGreat
namespace Go.Proofs.YtnilkkcobeaglaaGreat
open Go Sg
set_option maxRecDepth 100000
set_option linter.unusedSimpArgs false
set_option linter.unusedVariables false
set_option maxHeartbeats 4000000
theorem Cht.ok_fine {c : Cht} (h : c.ok = true) : ∀ i, i < c.as'.length → (c.as'.getD i default).Fine := by
  intro i hi
  unfold Cht.ok at h
  split at h
  · cases h
  · simp only [Bool.and_eq_true, List.all_eq_true] at h
    have hm : c.as'.getD i default ∈ c.as' := by rw [List.getD_eq_getElem?_getD, List.getElem?_eq_getElem hi]; exact List.getElem_mem hi
    have := h.2 _ hm
    simp only [GAct.bad, Bool.not_eq_true', Bool.or_eq_false_iff, Bool.not_eq_false', decide_eq_false_iff_not, bne_eq_false_iff_eq] at this
    obtain ⟨⟨⟨⟨⟨a0, a1⟩, a2⟩, a3⟩, a4⟩, a5⟩ := this
    have h6 := AD.ok_at a4
    exact ⟨by omega, by omega, by omega, a4, a5, h6.1, h6.2⟩
def ichtStep (c : Cht) (k : Mrk) (m : MM) : Mrk × MM := if turnOk c k m then istep c k m else (⟨[], []⟩, ⟨[], [], []⟩)
theorem istep_six {c : Cht} {k : Mrk} {m : MM} (hm : m.Six) : (istep c k m).2.Six := imfold_six _ _ _ _ _ _ hm
theorem turnOk_inv {c : Cht} {k : Mrk} {m : MM} (h : turnOk c k m = true) : m.ok = true ∧ c.ok = true ∧ (k.on.length : Int) = c.steps ∧ k.kept.length = 6 := by
  simp only [turnOk, Bool.and_eq_true, cht_iok, mrkOk, beq_iff_eq] at h
  exact ⟨h.1.1, h.1.2, h.2.1, by omega⟩
theorem ichtStep_ok (c : Cht) (k : Mrk) (m : MM) (hc : c.Sm) (hm : m.Sm) : PureF Tryz.prog 9 [.agg c.cs, .agg k.cs, .agg m.cs] [.agg (ichtStep c k m).1.cs, .agg (ichtStep c k m).2.cs] := by
  refine pureF_of Tryz.func9 rfl Tryz.ntmps9 (by simp) T_ ?_
  intro f0 B Q hQ
  refine wpM_seq ?_
  refine wpM_regionK [3, 4, 5, 6, 7] rfl ?_; intro Q1 hQ1
  refine S_ ?_
  refine hQ1 _ _ ?_; clear hQ1 Q1
  refine S_ ?_
  refine wpM_seq ?_
  refine wpM_regionK [3, 4, 6, 7, 8, 9] rfl ?_; intro Q1 hQ1
  refine S_ ?_
  refine call_fn (l := []) (first := []) (cap := []) (ps := [.agg c.cs, .agg k.cs, .agg m.cs]) (readTurn_ok c k m hc hm) Tryz.call38 rfl rfl rfl T_ T_ ?_
  rintro out ⟨x', p, l, ⟨⟩, hp1, hp2, rfl⟩
  refine S_ ?_
  refine hQ1 _ _ ?_; clear hQ1 Q1
  refine S_ ?_
  refine wpM_seq ?_
  refine wpM_seq ?_
  refine wpM_regionK [3, 4, 6, 7, 8, 19] rfl ?_; intro Q1 hQ1
  refine S_ ?_
  refine hQ1 _ _ ?_; clear hQ1 Q1
  refine S_ ?_
  refine wpM_condK ?_
  refine S_ ?_
  refine ⟨fun hc0 => ?_, fun hc0 => ?_⟩
  ·
    refine wpM_seq ?_
    refine wpM_regionK [6, 7] rfl ?_; intro Q1 hQ1
    refine S_ ?_
    refine hQ1 _ _ ?_; clear hQ1 Q1
    refine S_ ?_
    have hcs : ichtStep c k m = (⟨[], []⟩, ⟨[], [], []⟩) := by rw [ichtStep, if_neg]; intro hh; rw [hh] at hc0; cases hc0
    refine wpM_le [(6, .ptr (B + 3) 0), (7, .ptr (B + 4) 0)] [(B + 3, .cells 29 [.rows 4 [], .rows 4 []]), (B + 4, .cells 32 [.rows 3 [], .rows 3 [], .rows 3 []])] T_ T_ T_ ?_
    refine wpM_ret ?_
    try refine S_ ?_
    refine hQ _ _ rfl rfl rfl (by simp -implicitDefEqProofs (disch := omega) only [go_sem, le_yes, true_or]) ?_ (.inl rfl)
    rw [Tryz.results9]
    try simp -implicitDefEqProofs (disch := omega) only [go_sem, List.cons.injEq, PV.bool.injEq, PV.int.injEq, PV.agg.injEq]
    all_goals
      rw [hcs]
      repeat' apply And.intro
      all_goals rfl
  have hok : turnOk c k m = true := by simpa using hc0
  have hcs : ichtStep c k m = istep c k m := by rw [ichtStep, if_pos hok]
  obtain ⟨hok1, hok2, hok3, hok4⟩ := turnOk_inv hok
  obtain ⟨rfl, rfl⟩ := hp1 hok1
  have hsix := MM.ok_six hok1
  have hst := Cht.ok_st hok2
  have hgo : c.Go k.on.length := by
    have := Cht.ok_Go hok2
    rwa [show c.steps.toNat = k.on.length by omega] at this
  have hs6 := istep_six (c := c) (k := k) hsix
  refine wpM_skip ?_
  refine S_ ?_
  refine wpM_seq ?_
  refine wpM_regionK [6, 7, 8, 10] rfl ?_; intro Q1 hQ1
  refine S_ ?_
  refine call_fn (l := mobj (B + 5) m) (first := []) (cap := []) (ps := [.agg c.cs, .agg k.cs, .ptr (B + 5) 0]) (istep_ok c k m (B + 5) hsix hc hok4 hgo (by omega) (Cht.ok_fine hok2)) Tryz.call39 rfl rfl rfl T_ T_ ?_
  rintro out rfl
  refine S_ ?_
  refine hQ1 _ _ ?_; clear hQ1 Q1
  refine S_ ?_
  generalize hS : istep c k m = S at *
  refine wpM_seq ?_
  refine wpM_keep [6, 7] (wpM_dr mixed 3 4 [B + 6,B + 5,B + 3,B + 4,B + 7,B + 8,B + 9] [⟨[10], [0], [], [], false⟩, ⟨[8], [], [], [], false⟩, ⟨[27], [1], [], [4, 5, 6], true⟩, ⟨[6, 26], [2], [2], [], false⟩, ⟨[7, 28], [3], [3], [], false⟩] [0, 1, 2, 3, 4] [[], [], [1], [0, 1, 2], [0, 1, 2, 3]] 7 rfl (by simp) (by decide +kernel) (by simp) ?_)
  intro O A K hO hA hK; simp only [atL_cons, atL_nil, Nat.reduceAdd, Nat.zero_add] at hO hA
  refine SO_ ?_
  refine loud_fn (first := []) (cap := []) (ps := [.ptr (B + 5) 0]) (l := mobj (B + 5) S.2) (mem_ok S.2 hs6 (B + 5)) Tryz.call40 rfl rfl F_ (subG_spec T_) rfl ?_
  rintro out ⟨x2, y2, z2, ⟨⟩, rfl⟩
  refine ⟨rfl, ?_⟩
  refine SO_ ?_
  refine hK _ ?_; clear hK K hO hA O A
  refine S_ ?_
  refine wpM_frz [B + 7, B + 8, B + 9] (S.2.tb (B + 7) (B + 8) (B + 9)) (by intro q hq; simp at hq; rcases hq with rfl | rfl | rfl <;> simp -implicitDefEqProofs (disch := omega) only [go_sem]) (S.2.frz hs6 T_ T_ T_) ?_
  simp -implicitDefEqProofs (disch := omega) only [go_sem, MM.tb]
  refine wpM_ret ?_
  try refine S_ ?_
  refine hQ _ _ rfl rfl rfl (by simp -implicitDefEqProofs (disch := omega) only [go_sem, le_yes, true_or]) ?_ (.inl rfl)
  rw [Tryz.results9]
  try simp -implicitDefEqProofs (disch := omega) only [go_sem, List.cons.injEq, PV.bool.injEq, PV.int.injEq, PV.agg.injEq]
  all_goals
    rw [hcs]
    repeat' apply And.intro
    all_goals rfl
def iof (e : Ex) (m : MM) : Int := if m.ok && e.ok then e.of m else 0
theorem iof_ok (e : Ex) (m : MM) (he : e.sz ≤ 1099511627776) (hm : m.Sm) : PureF Tryz.prog 13 [.agg e.cs, .agg m.cs] [.int .i64 (iof e m)] := by
  refine pureF_of Tryz.func13 rfl Tryz.ntmps13 (by simp) T_ ?_
  intro f0 B Q hQ
  refine wpM_seq ?_
  refine wpM_regionK [2, 3] rfl ?_; intro Q1 hQ1
  refine S_ ?_
  refine hQ1 _ _ ?_; clear hQ1 Q1
  refine S_ ?_
  refine wpM_seq ?_
  refine wpM_regionK [2, 5, 6] rfl ?_; intro Q1 hQ1
  refine S_ ?_
  refine call_fn (l := []) (first := []) (cap := []) (ps := [.agg m.cs]) (readMem_ok' m hm) Tryz.call46 rfl rfl rfl T_ T_ ?_
  rintro out ⟨x', p, l, ⟨⟩, hp, rfl⟩
  refine S_ ?_
  refine hQ1 _ _ ?_; clear hQ1 Q1
  refine S_ ?_
  refine wpM_seq ?_
  refine wpM_seq ?_
  refine wpM_regionK [2, 5, 18] rfl ?_; intro Q1 hQ1
  refine SD_ ?_
  first | refine callG_p (fun hb => iexprOk_ok e he) Tryz.call21 rfl rfl (fun hb => by simp -implicitDefEqProofs (disch := omega) only [go_sem]) (fun hb => by first | rfl | (simp -implicitDefEqProofs (disch := omega) only [go_sem, hb, gd_of hb] <;> rfl)) ?_ | refine call_p (iexprOk_ok e he) Tryz.call21 rfl rfl rfl (by first | rfl | (simp -implicitDefEqProofs (disch := omega) only [go_sem] <;> rfl)) ?_
  refine SD_ ?_
  refine hQ1 _ _ ?_; clear hQ1 Q1
  refine S_ ?_
  refine wpM_condK ?_
  refine S_ ?_
  refine ⟨fun hc0 => ?_, fun hc0 => ?_⟩
  ·
    refine wpM_seq ?_
    refine wpM_regionK [4] rfl ?_; intro Q1 hQ1
    refine S_ ?_
    refine hQ1 _ _ ?_; clear hQ1 Q1
    refine S_ ?_
    refine wpM_ret ?_
    try refine S_ ?_
    refine hQ _ _ rfl rfl rfl (by simp -implicitDefEqProofs (disch := omega) only [go_sem, le_yes, true_or]) ?_ (.inl rfl)
    rw [Tryz.results13]
    try simp -implicitDefEqProofs (disch := omega) only [go_sem, List.cons.injEq, PV.bool.injEq, PV.int.injEq, PV.agg.injEq]
    all_goals
      unfold iof
      first
      | (rw [if_neg]; intro hh
         rw [Bool.and_eq_true] at hh
         rw [hh.1, vis_ok, hh.2] at hc0; cases hc0)
      | rw [if_pos (by rw [hc0.1, hc0.2]; rfl)]
  simp only [Bool.or_eq_false_iff, Bool.not_eq_false', vis_ok] at hc0
  have hsix := MM.ok_six hc0.1
  have hfe : formD 6 e = true := by have := hc0.2; simp only [Ex.ok, Bool.and_eq_true] at this; exact this.1
  have hpp : p = .ptr (B + 2) 0 ∧ l = m.flat := by
    rcases hp with ⟨_, h2, h3⟩ | ⟨h1, _⟩
    · exact ⟨h2, h3⟩
    · rw [hc0.1] at h1; cases h1
  obtain ⟨rfl, rfl⟩ := hpp
  refine wpM_skip ?_
  refine S_ ?_
  refine wpM_seq ?_
  refine wpM_regionK [4] rfl ?_; intro Q1 hQ1
  refine S_ ?_
  refine call_fn (l := mobj (B + 2) m) (first := []) (cap := []) (ps := [.ptr (B + 2) 0, .agg e.cs]) (reckon_ok m hsix (B + 2) 6 e hfe) Tryz.call47 rfl rfl rfl T_ T_ ?_
  rintro out rfl
  refine S_ ?_
  refine hQ1 _ _ ?_; clear hQ1 Q1
  refine S_ ?_
  refine wpM_ret ?_
  try refine S_ ?_
  refine hQ _ _ rfl rfl rfl (by simp -implicitDefEqProofs (disch := omega) only [go_sem, le_yes, true_or]) ?_ (.inl rfl)
  rw [Tryz.results13]
  try simp -implicitDefEqProofs (disch := omega) only [go_sem, List.cons.injEq, PV.bool.injEq, PV.int.injEq, PV.agg.injEq]
  all_goals
    unfold iof
    first
    | (rw [if_neg]; intro hh
       rw [Bool.and_eq_true] at hh
       rw [hh.1, vis_ok, hh.2] at hc0; cases hc0)
    | rw [if_pos (by rw [hc0.1, hc0.2]; rfl)]
end Go.Proofs.YtnilkkcobeaglaaGreat
namespace Go.Proofs.YtnilkkcobeaglaaGreat
open Go Sg
set_option linter.unusedSimpArgs false
set_option linter.unusedVariables false
theorem ext_getD {α : Type} (d : α) {a b : List α} (hl : a.length = b.length) (h : ∀ i, i < a.length → a.getD i d = b.getD i d) : a = b := by
  refine List.ext_getElem hl fun i h1 h2 => ?_
  have := h i h1
  rwa [List.getD_eq_getElem?_getD, List.getD_eq_getElem?_getD, List.getElem?_eq_getElem h1, List.getElem?_eq_getElem h2] at this
theorem getD_set {α : Type} (d : α) (l : List α) (i j : Nat) (v : α) (hi : i < l.length) : (l.set i v).getD j d = if i = j then v else l.getD j d := by
  simp only [List.getD_eq_getElem?_getD, List.getElem?_set]
  by_cases h : i = j
  · subst h; simp [hi]
  · simp [h]
theorem getD_mem {α : Type} [Inhabited α] {l : List α} {i : Nat} (h : i < l.length) : l.getD i default ∈ l := by
  rw [List.getD_eq_getElem?_getD, List.getElem?_eq_getElem h]; exact List.getElem_mem h
def hasN (l : List Int) (i : Nat) : Bool := l.any fun x => x.toNat == i
theorem hasN_cons (x : Int) (l : List Int) (i : Nat) : hasN (x :: l) i = (x.toNat == i || hasN l i) := rfl
theorem bit_one (n i : Nat) (hi : i < 64) : (1#64 <<< n).getLsbD i = (n == i) := by
  rw [BitVec.getLsbD_shiftLeft]
  by_cases h : n = i
  · subst h; simp [hi]
  · have : (n == i) = false := by simpa using h
    rw [this]
    by_cases h2 : i < n
    · simp [h2]
    · have : (1#64).getLsbD (i - n) = false := by
        rw [BitVec.getLsbD_one]; simp; omega
      simp [this]
theorem bitsL_get (l : List Int) (i : Nat) (hi : i < 64) : (bitsL l).getLsbD i = hasN l i := by
  have h : ∀ (l : List Int) (b : BitVec 64), (l.foldl (fun b n => b ||| (1#64 <<< n.toNat)) b).getLsbD i = (b.getLsbD i || hasN l i) := by
    intro l
    induction l with
    | nil => intro b; simp [hasN]
    | cons x l ih =>
      intro b
      rw [List.foldl_cons, ih, BitVec.getLsbD_or, bit_one _ _ hi]
      simp [hasN, Bool.or_assoc]
  rw [bitsL, h]; simp
theorem onBits_get (l : List Bool) (i : Nat) (hi : i < 64) : (onBits l).getLsbD i = l.getD i false := by
  have h : ∀ n, ((List.range n).foldl (fun b n => if l.getD n false then b ||| (1#64 <<< n) else b) 0#64).getLsbD i = (decide (i < n) && l.getD i false) := by
    intro n
    induction n with
    | zero => simp
    | succ n ih =>
      rw [List.range_succ, List.foldl_append, List.foldl_cons, List.foldl_nil]
      by_cases hn : n = i
      · subst hn
        split
        · rename_i h1; rw [BitVec.getLsbD_or, ih, bit_one _ _ hi]; simp; simpa using h1
        · rename_i h1; rw [ih]; simp at h1 ⊢; exact h1
      · have e : decide (i < n + 1) = decide (i < n) := by rw [decide_eq_decide]; omega
        rw [e]
        split
        · rw [BitVec.getLsbD_or, ih, bit_one _ _ hi]
          have : (n == i) = false := by simpa using hn
          rw [this, Bool.or_false]
        · exact ih
  rw [onBits, h]
  by_cases hl : i < l.length
  · simp [hl]
  · rw [List.getD_eq_getElem?_getD, List.getElem?_eq_none (by omega)]; simp
theorem clr_get (b : Bool) (l : List Int) (i : Nat) : ∀ f : List Bool, (∀ x ∈ l, x.toNat < f.length) → (clr b f l).getD i false = if hasN l i then b else f.getD i false := by
  induction l with
  | nil => intro f _; simp [clr, hasN]
  | cons x l ih =>
    intro f hf
    have h1 : x.toNat < f.length := hf x (by simp)
    rw [clr, List.foldl_cons]
    show (clr b (f.set x.toNat b) l).getD i false = _
    rw [ih _ (fun y hy => by rw [List.length_set]; exact hf y (by simp [hy])), getD_set _ _ _ _ _ h1]
    rw [hasN_cons]
    by_cases h2 : x.toNat = i
    · simp [h2]
    · have : (x.toNat == i) = false := by simpa using h2
      simp [this, h2]
def hasT (pl : Trn → List Int) (ts : List Trn) (i : Nat) : Bool := ts.any fun t => hasN (pl t) i
theorem hasT_cons (pl : Trn → List Int) (t : Trn) (ts : List Trn) (i : Nat) : hasT pl (t :: ts) i = (hasN (pl t) i || hasT pl ts i) := rfl
def spreadT (b : Bool) (pl : Trn → List Int) (f : List Bool) (ts : List Trn) : List Bool := ts.foldl (fun f t => clr b f (pl t)) f
theorem spreadT_len (b : Bool) (pl : Trn → List Int) (ts : List Trn) : ∀ f : List Bool, (spreadT b pl f ts).length = f.length := by
  induction ts with
  | nil => intro f; rfl
  | cons t ts ih => intro f; rw [spreadT, List.foldl_cons]; show (spreadT b pl (clr b f (pl t)) ts).length = _; rw [ih, clr_len]
theorem spreadT_get (b : Bool) (pl : Trn → List Int) (ts : List Trn) (i : Nat) : ∀ f : List Bool, (∀ t ∈ ts, ∀ x ∈ pl t, x.toNat < f.length) → (spreadT b pl f ts).getD i false = if hasT pl ts i then b else f.getD i false := by
  induction ts with
  | nil => intro f _; simp [spreadT, hasT]
  | cons t ts ih =>
    intro f hf
    rw [spreadT, List.foldl_cons]
    show (spreadT b pl (clr b f (pl t)) ts).getD i false = _
    rw [ih _ (fun u hu x hx => by rw [clr_len]; exact hf u (by simp [hu]) x hx), clr_get _ _ _ _ (hf t (by simp))]
    rw [hasT_cons]
    cases hasN (pl t) i <;> cases hasT pl ts i <;> simp
def wayAt (c : Cht) (i : Int) : Trn := c.ts.getD i.toNat default
theorem spread_eq (b : Bool) (pl : Trn → List Int) (c : Cht) (fs : List Int) : ∀ f : List Bool, spread b pl c f fs = spreadT b pl f (fs.map (wayAt c)) := by
  induction fs with
  | nil => intro f; rfl
  | cons i fs ih => intro f; rw [spread, List.foldl_cons]; exact ih _
def tfires (m : MM) (on : List Bool) (ts : List Trn) : List Bool × List Trn := ts.foldl (fun st t => if !allOn st.1 t.fr || !(t.w.of m != 0) then st else (clr false st.1 t.fr, st.2 ++ [t])) (on, [])
theorem tfires_app (m : MM) (on : List Bool) (ts : List Trn) (t : Trn) : tfires m on (ts ++ [t]) = (if !allOn (tfires m on ts).1 t.fr || !(t.w.of m != 0) then tfires m on ts else (clr false (tfires m on ts).1 t.fr, (tfires m on ts).2 ++ [t])) := by
  simp [tfires]
theorem fpre_t (m : MM) (c : Cht) (on : List Bool) (n : Nat) (hn : n ≤ c.ts.length) : (fpre m c on n).1 = (tfires m on (c.ts.take n)).1 ∧ (fpre m c on n).2.map (wayAt c) = (tfires m on (c.ts.take n)).2 := by
  induction n with
  | zero => exact ⟨rfl, rfl⟩
  | succ n ih =>
    obtain ⟨h1, h2⟩ := ih (by omega)
    have ht : c.ts.take (n + 1) = c.ts.take n ++ [c.ts.getD n default] := by
      rw [List.take_succ_eq_append_getElem (by omega)]; simp [List.getD, show n < c.ts.length by omega]
    rw [ht, tfires_app, fpre_succ, fstep, ← h1]
    split
    · exact ⟨h1, h2⟩
    · exact ⟨rfl, by rw [List.map_append, h2]; rfl⟩
theorem fires_t (m : MM) (c : Cht) (on : List Bool) : (fires m c on).map (wayAt c) = (tfires m on c.ts).2 := by
  have := (fpre_t m c on c.ts.length (Nat.le_refl _)).2
  rwa [List.take_length] at this
theorem tfires_mem (m : MM) (on : List Bool) (ts : List Trn) : ∀ t ∈ (tfires m on ts).2, t ∈ ts := by
  have h : ∀ n, ∀ t ∈ (tfires m on (ts.take n)).2, t ∈ ts := by
    intro n
    induction n with
    | zero => intro t ht; simp [tfires] at ht
    | succ n ih =>
      by_cases hn : n < ts.length
      · have ht : ts.take (n + 1) = ts.take n ++ [ts[n]] := List.take_succ_eq_append_getElem hn
        intro t h1
        rw [ht, tfires_app] at h1
        split at h1
        · exact ih t h1
        · rcases List.mem_append.1 h1 with h1 | h1
          · exact ih t h1
          · rw [List.mem_singleton.1 h1]; exact List.getElem_mem hn
      · rw [List.take_of_length_le (by omega)]
        rw [List.take_of_length_le (by omega)] at ih
        exact ih
  have := h ts.length
  rwa [List.take_length] at this
def Places (n : Nat) (l : List Int) : Prop := ∀ x ∈ l, 0 ≤ x ∧ x < (n : Int)
theorem places_of {n : Nat} {l : List Int} (h : ∀ i, i < l.length → 0 ≤ l.getD i 0 ∧ l.getD i 0 < (n : Int)) : Places n l := by
  intro x hx
  obtain ⟨i, hi, rfl⟩ := List.getElem_of_mem hx
  have := h i hi
  rwa [List.getD_eq_getElem?_getD, List.getElem?_eq_getElem hi] at this
theorem Cht.Go.pl {c : Cht} {n : Nat} (h : c.Go n) : ∀ t ∈ c.ts, Places n t.fr ∧ Places n t.to' := by
  intro t ht
  obtain ⟨i, hi, rfl⟩ := List.getElem_of_mem ht
  have := h.t i hi
  rw [List.getD_eq_getElem?_getD, List.getElem?_eq_getElem hi] at this
  exact ⟨places_of this.fr, places_of this.to'⟩
theorem hasN_lt {n : Nat} {l : List Int} (h : Places n l) {i : Nat} (hi : hasN l i = true) : i < n := by
  simp only [hasN, List.any_eq_true, beq_iff_eq] at hi
  obtain ⟨x, hx, rfl⟩ := hi
  have := h x hx; omega
theorem allOn_all {n : Nat} {l : List Int} (h : Places n l) (on : List Bool) : allOn on l = true ↔ ∀ i, i < n → hasN l i = true → on.getD i false = true := by
  simp only [allOn, List.all_eq_true]
  constructor
  · intro h1 i _ h2
    simp only [hasN, List.any_eq_true, beq_iff_eq] at h2
    obtain ⟨x, hx, rfl⟩ := h2
    exact h1 x hx
  · intro h1 x hx
    have := h x hx
    exact h1 x.toNat (by omega) (by simp only [hasN, List.any_eq_true, beq_iff_eq]; exact ⟨x, hx, rfl⟩)
theorem bv_zero (b : BitVec 64) : (b != 0#64) = false ↔ ∀ i, i < 64 → b.getLsbD i = false := by
  simp only [bne_eq_false_iff_eq]
  constructor
  · rintro rfl i _; simp
  · intro h
    exact BitVec.eq_of_getLsbD_eq fun i hi => by rw [h i hi]; simp
end Go.Proofs.YtnilkkcobeaglaaGreat
namespace Go.Proofs.YtnilkkcobeaglaaGreat
open Go Sg
set_option linter.unusedSimpArgs false
set_option linter.unusedVariables false
theorem fgd_eq {n : Nat} (hn : n ≤ 64) (m : MM) (on free : List Bool) (used : BitVec 64) (t : Trn) (hp : Places n t.fr) (hf : ∀ i, i < n → free.getD i false = (on.getD i false && !used.getLsbD i)) :
    fgd m (onBits on) used t = (!allOn free t.fr || !(t.w.of m != 0)) := by
  unfold fgd
  congr 1
  have h1 : ((bitsL t.fr &&& ~~~onBits on != 0#64) || (bitsL t.fr &&& used != 0#64)) = false ↔ allOn free t.fr = true := by
    rw [Bool.or_eq_false_iff, bv_zero, bv_zero, allOn_all hp]
    constructor
    · rintro ⟨h1, h2⟩ i hi h3
      have a1 := h1 i (by omega)
      have a2 := h2 i (by omega)
      rw [BitVec.getLsbD_and, bitsL_get _ _ (by omega), h3, Bool.true_and] at a1 a2
      rw [BitVec.getLsbD_not, onBits_get _ _ (by omega)] at a1
      rw [hf i hi, a2]
      have : decide (i < 64) = true := by simp; omega
      rw [this, Bool.true_and] at a1
      simpa using a1
    · intro h
      refine ⟨fun i hi => ?_, fun i hi => ?_⟩
      · rw [BitVec.getLsbD_and, bitsL_get _ _ hi]
        cases h3 : hasN t.fr i with
        | false => rfl
        | true =>
          have := h i (hasN_lt hp h3) h3
          rw [hf i (hasN_lt hp h3), Bool.and_eq_true] at this
          rw [BitVec.getLsbD_not, onBits_get _ _ hi, this.1]; simp
      · rw [BitVec.getLsbD_and, bitsL_get _ _ hi]
        cases h3 : hasN t.fr i with
        | false => rfl
        | true =>
          have := h i (hasN_lt hp h3) h3
          rw [hf i (hasN_lt hp h3), Bool.and_eq_true] at this
          simpa using this.2
  cases h2 : allOn free t.fr with
  | true => rw [h1.2 h2]; rfl
  | false =>
    cases h3 : ((bitsL t.fr &&& ~~~onBits on != 0#64) || (bitsL t.fr &&& used != 0#64)) with
    | true => rfl
    | false => rw [h1.1 h3] at h2; cases h2
def wayN (c : Cht) (i : Nat) : Trn := c.ts.getD i default
theorem hasT_app (pl : Trn → List Int) (a b : List Trn) (i : Nat) : hasT pl (a ++ b) i = (hasT pl a i || hasT pl b i) := by simp [hasT]
theorem fI_t {N : Nat} (hN : N ≤ 64) (m : MM) (c : Cht) (on : List Bool) (hon : on.length = N) (hp : ∀ t ∈ c.ts, Places N t.fr ∧ Places N t.to') (n : Nat) (hn : n ≤ c.ts.length) :
    (fI m (onBits on) c n).2.map (fun (i : Nat) => (i : Int)) = (fpre m c on n).2 ∧ (∀ i, i < 64 → (fI m (onBits on) c n).1.getLsbD i = hasT Trn.fr ((fI m (onBits on) c n).2.map (wayN c)) i) ∧
      (∀ i, i < N → (fpre m c on n).1.getD i false = (on.getD i false && !(fI m (onBits on) c n).1.getLsbD i)) := by
  induction n with
  | zero => exact ⟨rfl, fun i _ => by simp [fI, hasT], fun i _ => by simp [fI, fpre]⟩
  | succ n ih =>
    obtain ⟨h1, h2, h3⟩ := ih (by omega)
    have hmem : c.ts.getD n default ∈ c.ts := getD_mem (by omega)
    have hg := fgd_eq hN m on (fpre m c on n).1 (fI m (onBits on) c n).1 (c.ts.getD n default) (hp _ hmem).1 h3
    cases hc : fgd m (onBits on) (fI m (onBits on) c n).1 (c.ts.getD n default) with
    | true =>
      rw [fI_yes hc, fpre_succ, fstep, if_pos (by rw [← hg]; exact hc)]
      exact ⟨h1, h2, h3⟩
    | false =>
      rw [fI_no hc, fpre_succ, fstep, if_neg (by rw [← hg, hc]; simp)]
      refine ⟨by rw [List.map_append, h1]; rfl, fun i hi => ?_, fun i hi => ?_⟩
      · show ((fI m (onBits on) c n).1 ||| bitsL (c.ts.getD n default).fr).getLsbD i = hasT Trn.fr (((fI m (onBits on) c n).2 ++ [n]).map (wayN c)) i
        rw [BitVec.getLsbD_or, h2 i hi, bitsL_get _ _ hi, List.map_append, hasT_app]
        show _ = (_ || hasT Trn.fr [wayN c n] i)
        simp [hasT, wayN]
      · show (clr false (fpre m c on n).1 (c.ts.getD n default).fr).getD i false = (on.getD i false && !((fI m (onBits on) c n).1 ||| bitsL (c.ts.getD n default).fr).getLsbD i)
        have hlen := (fpre_len m c on n).1
        rw [clr_get _ _ _ _ (fun x hx => by have := (hp _ hmem).1 x hx; rw [hlen]; omega), h3 i hi, BitVec.getLsbD_or, bitsL_get _ _ (by omega)]
        cases hasN (c.ts.getD n default).fr i <;> simp
theorem bgI_get (c : Cht) (l : List Nat) (i : Nat) (hi : i < 64) : (bgI c l).getLsbD i = hasT Trn.to' (l.map (wayN c)) i := by
  have h : ∀ (l : List Nat) (b : BitVec 64), (l.foldl (fun b j => b ||| bitsL (c.ts.getD j default).to') b).getLsbD i = (b.getLsbD i || hasT Trn.to' (l.map (wayN c)) i) := by
    intro l
    induction l with
    | nil => intro b; simp [hasT]
    | cons j l ih =>
      intro b
      rw [List.foldl_cons, ih, BitVec.getLsbD_or, bitsL_get _ _ hi, List.map_cons, hasT_cons, Bool.or_assoc]; rfl
  rw [bgI, h]; simp
theorem kset_get (v : Bool) (kk : Int) (on : List Bool) (l : List GAct) (i : Nat) : ∀ f : List Bool, (∀ a ∈ l, a.to'.at'.toNat < f.length) →
    (kset v kk on f l).getD i false = if l.any (fun a => a.kind == kk && on.getD a.step.toNat false && a.to'.at'.toNat == i) then v else f.getD i false := by
  induction l with
  | nil => intro f _; simp [kset]
  | cons a l ih =>
    intro f hf
    rw [kset, List.foldl_cons]
    show (kset v kk on (if a.kind == kk && on.getD a.step.toNat false then f.set a.to'.at'.toNat v else f) l).getD i false = _
    have h1 : a.to'.at'.toNat < f.length := hf a (by simp)
    rw [ih _ (fun b hb => by split <;> (try rw [List.length_set]) <;> exact hf b (by simp [hb])), List.any_cons]
    cases hc : (a.kind == kk && on.getD a.step.toNat false) with
    | false => simp
    | true =>
      simp only [if_true, Bool.true_and]
      rw [getD_set _ _ _ _ _ h1]
      by_cases h2 : a.to'.at'.toNat = i
      · simp [h2]
      · have : (a.to'.at'.toNat == i) = false := by simpa using h2
        simp [this, h2]
theorem kfold_kset {N : Nat} (hN : N ≤ 64) (v : Bool) (kk : Int) (hkk : kk = 2 ∧ v = true ∨ kk = 3 ∧ v = false) (on : BitVec 64) (onL : List Bool) (hon : ∀ i, i < N → onL.getD i false = on.getLsbD i) (l : List GAct) : ∀ f : List Bool, (∀ a ∈ l, a.to'.at'.toNat < f.length ∧ 0 ≤ a.step ∧ a.step < (N : Int)) →
    kfold kk on f l = kset v kk onL f l := by
  induction l with
  | nil => intro f _; rfl
  | cons a l ih =>
    intro f hf
    obtain ⟨h1, h2, h3⟩ := hf a (by simp)
    have hb := hon a.step.toNat (by omega)
    have hst : (if a.kind == kk then keepK kk on f a else f) = (if a.kind == kk && onL.getD a.step.toNat false then f.set a.to'.at'.toNat v else f) := by
      cases hk : a.kind == kk with
      | false => simp
      | true =>
        have hself : f.set a.to'.at'.toNat (f.getD a.to'.at'.toNat false) = f := by
          rw [List.getD_eq_getElem?_getD, List.getElem?_eq_getElem h1]; simp
        simp only [if_true, Bool.true_and]
        rw [hb]
        rcases hkk with ⟨rfl, rfl⟩ | ⟨rfl, rfl⟩
        · unfold keepK
          cases on.getLsbD a.step.toNat with
          | true => simp
          | false => simp only [beq_self_eq_true, if_true, Bool.or_false, Bool.false_eq_true, if_false]; exact hself
        · unfold keepK
          cases on.getLsbD a.step.toNat with
          | true => simp
          | false => simp only [Int.reduceBEq, Bool.not_false, Bool.false_eq_true, if_false, if_true, Bool.and_true, beq_self_eq_true]; exact hself
    show kfold kk on (if a.kind == kk then keepK kk on f a else f) l = kset v kk onL (if a.kind == kk && onL.getD a.step.toNat false then f.set a.to'.at'.toNat v else f) l
    rw [hst]
    exact ih _ (fun b hb => by
      obtain ⟨x1, x2, x3⟩ := hf b (by simp [hb])
      exact ⟨by split <;> (try rw [List.length_set]) <;> exact x1, x2, x3⟩)
theorem lit_drives {N : Nat} (on bg : BitVec 64) (onL bgL : List Bool) (hon : ∀ i, i < N → onL.getD i false = on.getLsbD i) (hbg : ∀ i, i < N → bgL.getD i false = bg.getLsbD i) (a : GAct) (h2 : a.to'.kind = 2) (l : List GAct) (hl : ∀ b ∈ l, b.to'.kind = 2 ∧ 0 ≤ b.step ∧ b.step < (N : Int)) :
    l.any (drives on bg a) = l.any (litA a.to'.at' onL bgL) := by
  induction l with
  | nil => rfl
  | cons b l ih =>
    obtain ⟨b1, b2, b3⟩ := hl b (by simp)
    rw [List.any_cons, List.any_cons, ih (fun x hx => hl x (by simp [hx]))]
    congr 1
    unfold drives litA
    rw [AD.beq, b1, h2, hon _ (by omega), hbg _ (by omega)]
    simp only [beq_self_eq_true, Bool.true_and]
    congr 1
    unfold drvK
    by_cases k1 : b.kind = 1
    · simp [k1]
    by_cases k4 : b.kind = 4
    · simp [k4]
    · have e1 : (b.kind == 1) = false := by simpa using k1
      have e2 : (b.kind == 4) = false := by simpa using k4
      simp [e1, e2]
theorem fold_congr {α β : Type} {f g : β → α → β} : ∀ (l : List α) (b : β), (∀ a ∈ l, ∀ b, f b a = g b a) → l.foldl f b = l.foldl g b
  | [], _, _ => rfl
  | x :: l, b, h => by rw [List.foldl_cons, List.foldl_cons, h x (by simp)]; exact fold_congr l _ (fun a ha => h a (by simp [ha]))
theorem istep_eq (c : Cht) (k : Mrk) (m : MM) (hk : k.kept.length = 6) (hg : c.Go k.on.length) (hf : ∀ i, i < c.as'.length → (c.as'.getD i default).Fine) : istep c k m = stepM c k m := by
  have hN : k.on.length ≤ 64 := by have := hg.n6; omega
  have hpl := hg.pl
  have hsteps := hg.steps
  have hfine : ∀ a ∈ c.as', a.Fine ∧ a.step < (k.on.length : Int) := by
    intro a ha
    obtain ⟨i, hi, rfl⟩ := List.getElem_of_mem ha
    have h1 := hf i hi
    have h2 := (hg.a i hi).2.1
    rw [List.getD_eq_getElem?_getD, List.getElem?_eq_getElem hi] at h1 h2
    exact ⟨h1, h2⟩
  obtain ⟨f1, f2, f3⟩ := fI_t hN m c k.on rfl hpl c.ts.length (Nat.le_refl _)
  have hfs : fires m c k.on = (fI m (onBits k.on) c c.ts.length).2.map (fun (i : Nat) => (i : Int)) := f1.symm
  have hways : (fires m c k.on).map (wayAt c) = (fI m (onBits k.on) c c.ts.length).2.map (wayN c) := by
    rw [hfs, List.map_map]; rfl
  have hmem : ∀ t ∈ (fires m c k.on).map (wayAt c), t ∈ c.ts := by rw [fires_t]; exact tfires_mem m k.on c.ts
  generalize hF : fI m (onBits k.on) c c.ts.length = F at *
  have hgo : ∀ i, i < k.on.length → (goes c k.on (fires m c k.on)).getD i false = (onBits k.on &&& ~~~F.1 ||| bgI c F.2).getLsbD i := by
    intro i hi
    rw [goes, spread_eq, spread_eq, spreadT_get, spreadT_get, hways, BitVec.getLsbD_or, BitVec.getLsbD_and, BitVec.getLsbD_not, onBits_get _ _ (by omega), f2 i (by omega), bgI_get _ _ _ (by omega)]
    · have : decide (i < 64) = true := by simp; omega
      rw [this]
      cases hasT Trn.to' (F.2.map (wayN c)) i <;> cases hasT Trn.fr (F.2.map (wayN c)) i <;> simp
    · intro t ht x hx; have := (hpl t (hmem t ht)).1 x hx; omega
    · intro t ht x hx; rw [spreadT_len]; have := (hpl t (hmem t ht)).2 x hx; omega
  have hbg : ∀ i, i < k.on.length → (begins c (fires m c k.on)).getD i false = (bgI c F.2).getLsbD i := by
    intro i hi
    rw [begins, spread_eq, spreadT_get, hways, bgI_get _ _ _ (by omega)]
    · have : (List.replicate c.steps.toNat false).getD i false = false := by
        rw [List.getD_eq_getElem?_getD]
        by_cases h : i < c.steps.toNat
        · rw [List.getElem?_eq_getElem (by simpa using h)]; simp
        · rw [List.getElem?_eq_none (by simpa using h)]; rfl
      rw [this]; cases hasT Trn.to' (F.2.map (wayN c)) i <;> simp
    · intro t ht x hx; have := (hpl t (hmem t ht)).2 x hx; simp; omega
  have e1 : hasL (onBits k.on &&& ~~~F.1 ||| bgI c F.2) c.steps.toNat = goes c k.on (fires m c k.on) := by
    refine ext_getD false (by rw [goes_len]; simp [hasL]; exact hsteps) fun i hi => ?_
    have hi' : i < k.on.length := by simp [hasL] at hi; omega
    rw [hgo i hi', hasL, List.getD_eq_getElem?_getD, List.getElem?_eq_getElem (by simpa [hasL] using hi)]; simp
  have e2 : kAll (onBits k.on &&& ~~~F.1 ||| bgI c F.2) c.as' k.kept [2, 3] = keptM c k.kept (goes c k.on (fires m c k.on)) := by
    show kfold 3 _ (kfold 2 _ k.kept c.as') c.as' = _
    rw [kfold_kset hN true 2 (.inl ⟨rfl, rfl⟩) _ _ hgo, kfold_kset hN false 3 (.inr ⟨rfl, rfl⟩) _ _ hgo]
    · rfl
    · intro a ha
      obtain ⟨x1, x2⟩ := hfine a ha
      unfold GAct.Fine at x1
      exact ⟨by rw [kset_len, hk]; omega, x1.2.2.1, x2⟩
    · intro a ha
      obtain ⟨x1, x2⟩ := hfine a ha
      unfold GAct.Fine at x1
      exact ⟨by rw [hk]; omega, x1.2.2.1, x2⟩
  unfold istep stepM
  simp only [hF, e1, e2]
  refine Prod.ext rfl ?_
  show imfold c _ _ _ m c.as' = mfold c _ _ _ m c.as'
  refine fold_congr _ _ fun a ha m' => ?_
  obtain ⟨x1, x2⟩ := hfine a ha
  unfold GAct.Fine at x1
  unfold imstep mstep lit
  rw [lit_drives _ _ _ _ hgo hbg a x1.2.2.2.2.1]
  intro b hb
  obtain ⟨y1, y2⟩ := hfine b hb
  unfold GAct.Fine at y1
  exact ⟨y1.2.2.2.2.1, y1.2.2.1, y2⟩
theorem ichtStep_eq (c : Cht) (k : Mrk) (m : MM) : ichtStep c k m = chtStep c k m := by
  unfold ichtStep chtStep
  have : turnOk c k m = (c.ok && mrkOk c k && m.ok) := by
    unfold turnOk; rw [cht_iok]
    cases m.ok <;> cases c.ok <;> cases mrkOk c k <;> rfl
  rw [← this]
  cases h : turnOk c k m with
  | false => rfl
  | true =>
    obtain ⟨h1, h2, h3, h4⟩ := turnOk_inv h
    have hgo : c.Go k.on.length := by
      have := Cht.ok_Go h2
      rwa [show c.steps.toNat = k.on.length by omega] at this
    simp only [if_true]
    exact istep_eq c k m h4 hgo (Cht.ok_fine h2)
end Go.Proofs.YtnilkkcobeaglaaGreat
namespace Go.Proofs.YtnilkkcobeaglaaGreat
open Go Sg
set_option linter.unusedSimpArgs false
set_option linter.unusedVariables false
theorem mfold_spec (c : Cht) (kp on bg : List Bool) (l : List GAct) (hl : ∀ a ∈ l, a.to'.kind = 2 ∧ 0 ≤ a.to'.at' ∧ a.to'.at' < 6) : ∀ m : MM, m.o.length = 6 →
    (mfold c kp on bg m l).i = m.i ∧ (mfold c kp on bg m l).v = m.v ∧ (mfold c kp on bg m l).o.length = 6 ∧
    ∀ i : Nat, (mfold c kp on bg m l).o.getD i 0 = if l.any (fun a => a.to'.at'.toNat == i) then cut (numIs (kp.getD i false || lit c i on bg)) else m.o.getD i 0 := by
  induction l with
  | nil => intro m hm; exact ⟨rfl, rfl, hm, fun i => by simp [mfold]⟩
  | cons a l ih =>
    intro m hm
    obtain ⟨h1, h2, h3⟩ := hl a (by simp)
    have hp : mstep c kp on bg m a = { m with o := m.o.set a.to'.at'.toNat (cut (numIs (kp.getD a.to'.at'.toNat false || lit c a.to'.at' on bg))) } := MM.put2 (by rw [h1]; rfl)
    obtain ⟨e1, e2, e3, e4⟩ := ih (fun b hb => hl b (by simp [hb])) (mstep c kp on bg m a) (by rw [hp]; simpa using hm)
    have hc : mfold c kp on bg m (a :: l) = mfold c kp on bg (mstep c kp on bg m a) l := rfl
    rw [hc]
    refine ⟨by rw [e1, hp], by rw [e2, hp], e3, fun i => ?_⟩
    rw [e4 i, hp, List.any_cons]
    show (if _ then _ else (m.o.set a.to'.at'.toNat (cut (numIs (kp.getD a.to'.at'.toNat false || lit c a.to'.at' on bg)))).getD i 0) = _
    rw [getD_set _ _ _ _ _ (by omega)]
    by_cases h5 : a.to'.at'.toNat = i
    · have h6 : (a.to'.at'.toNat == i) = true := by simpa using h5
      have h7 : (i : Int) = a.to'.at' := by omega
      rw [if_pos h5, h6, Bool.true_or, if_pos rfl, h5, h7]
      simp
    · have h6 : (a.to'.at'.toNat == i) = false := by simpa using h5
      rw [if_neg h5, h6, Bool.false_or]
def revC (c : Cht) : Cht := { c with as' := c.as'.reverse }
theorem any_rev {α : Type} (p : α → Bool) (l : List α) : l.reverse.any p = l.any p := by
  rw [Bool.eq_iff_iff, List.any_eq_true, List.any_eq_true]; simp
theorem all_rev {α : Type} (p : α → Bool) (l : List α) : l.reverse.all p = l.all p := by
  rw [Bool.eq_iff_iff, List.all_eq_true, List.all_eq_true]; simp
theorem revC_ok (c : Cht) : (revC c).ok = c.ok := by
  unfold Cht.ok revC
  simp only [List.length_reverse, all_rev]
theorem Cht.acts {c : Cht} (h : c.ok = true) : ∀ a ∈ c.as', a.to'.kind = 2 ∧ 0 ≤ a.to'.at' ∧ a.to'.at' < 6 ∧ 0 ≤ a.step ∧ a.step < c.steps ∧ 1 ≤ a.kind ∧ a.kind ≤ 4 := by
  intro a ha
  obtain ⟨i, hi, rfl⟩ := List.getElem_of_mem ha
  have h1 := Cht.ok_fine h i hi
  have h2 := ((Cht.ok_Go h).a i hi).2.1
  rw [List.getD_eq_getElem?_getD, List.getElem?_eq_getElem hi] at h1 h2
  unfold GAct.Fine at h1
  have := Cht.ok_st h
  simp only [Option.getD_some] at h1 h2
  exact ⟨h1.2.2.2.2.1, h1.2.2.2.2.2.1, h1.2.2.2.2.2.2, h1.2.2.1, by omega, h1.1, h1.2.1⟩
theorem revC_step (c : Cht) (k : Mrk) (m : MM) (h : c.ok = true) (hk : k.kept.length = 6) (hm : m.Six) : stepM (revC c) k m = stepM c k m := by
  have ha := Cht.acts h
  have hf : fires m (revC c) k.on = fires m c k.on := rfl
  have hg : goes (revC c) k.on (fires m (revC c) k.on) = goes c k.on (fires m c k.on) := rfl
  have hb : begins (revC c) (fires m (revC c) k.on) = begins c (fires m c k.on) := rfl
  generalize hG : goes c k.on (fires m c k.on) = on at *
  generalize hB : begins c (fires m c k.on) = bg at *
  have hkp : keptM (revC c) k.kept on = keptM c k.kept on := by
    refine ext_getD false (by rw [keptM_len, keptM_len]) fun i _ => ?_
    unfold keptM revC
    rw [kset_get, kset_get, kset_get, kset_get]
    · simp only [any_rev]
    all_goals (intro a h1; try rw [kset_len]); rw [hk]; first | (have := ha a h1; omega) | (have := ha a (by simpa using h1); omega)
  have hl : ∀ i : Int, lit (revC c) i on bg = lit c i on bg := by intro i; unfold lit revC; simp only [any_rev]
  have hmf : mfold (revC c) (keptM c k.kept on) on bg m (revC c).as' = mfold c (keptM c k.kept on) on bg m c.as' := by
    obtain ⟨a1, a2, a3, a4⟩ := mfold_spec (revC c) (keptM c k.kept on) on bg (revC c).as' (fun a h1 => by have := ha a (by simpa [revC] using h1); exact ⟨this.1, this.2.1, this.2.2.1⟩) m hm.o
    obtain ⟨b1, b2, b3, b4⟩ := mfold_spec c (keptM c k.kept on) on bg c.as' (fun a h1 => by have := ha a h1; exact ⟨this.1, this.2.1, this.2.2.1⟩) m hm.o
    generalize mfold (revC c) (keptM c k.kept on) on bg m (revC c).as' = x at *
    generalize mfold c (keptM c k.kept on) on bg m c.as' = y at *
    have ho : x.o = y.o := ext_getD 0 (by rw [a3, b3]) fun i _ => by
      rw [a4, b4, hl]
      show (if (c.as'.reverse.any _) then _ else _) = _
      rw [any_rev]
    cases x; cases y; simp_all
  show ((⟨goes (revC c) k.on (fires m (revC c) k.on), keptM (revC c) k.kept (goes (revC c) k.on (fires m (revC c) k.on))⟩ : Mrk), mfold (revC c) (keptM (revC c) k.kept (goes (revC c) k.on (fires m (revC c) k.on))) (goes (revC c) k.on (fires m (revC c) k.on)) (begins (revC c) (fires m (revC c) k.on)) m (revC c).as') = _
  rw [hg, hb, hkp, hmf, ← hG, ← hB]; rfl
theorem revC_cht (c : Cht) (k : Mrk) (m : MM) : chtStep (revC c) k m = chtStep c k m := by
  unfold chtStep
  rw [revC_ok]
  show (if c.ok && mrkOk c k && m.ok then _ else _) = _
  cases h : (c.ok && mrkOk c k && m.ok) with
  | false => rfl
  | true =>
    simp only [Bool.and_eq_true, mrkOk, beq_iff_eq] at h
    simp only [if_true]
    exact revC_step c k m h.1.1 (by omega) (MM.ok_six h.2)
def filC (c : Cht) (m : MM) : Cht := { c with ts := c.ts.filter fun t => iof t.w m != 0 }
theorem Cht.ways {c : Cht} (h : c.ok = true) : ∀ t ∈ c.ts, t.w.ok = true := by
  unfold Cht.ok at h
  split at h
  · cases h
  · simp only [Bool.and_eq_true, List.all_eq_true] at h
    intro t ht
    have := h.1 t ht
    simp only [Trn.bad, Bool.not_eq_true', Bool.or_eq_false_iff, Bool.not_eq_false'] at this
    exact this.2
theorem filC_ok {c : Cht} (m : MM) (h : c.ok = true) : (filC c m).ok = true := by
  unfold Cht.ok at h ⊢
  split at h
  · cases h
  · rename_i hh
    rw [if_neg]
    · simp only [filC, Bool.and_eq_true, List.all_eq_true] at h ⊢
      exact ⟨fun t ht => h.1 t (List.mem_filter.1 ht).1, h.2⟩
    · have hlen : (c.ts.filter fun t => iof t.w m != 0).length ≤ c.ts.length := List.length_filter_le _ _
      simp only [filC, Bool.or_eq_true, decide_eq_true_eq, not_or] at hh ⊢
      have e : ∀ (p : Prop) [Decidable p], ¬ p → ¬ (decide p = true) := fun p _ h => by simpa using h
      exact ⟨⟨⟨e _ hh.1.1.1, e _ hh.1.1.2⟩, e _ (by omega)⟩, e _ hh.2⟩
theorem tfires_filter (m : MM) (p : Trn → Bool) (ts : List Trn) (hp : ∀ t ∈ ts, p t = (t.w.of m != 0)) : ∀ st : List Bool × List Trn,
    (ts.filter p).foldl (fun st t => if !allOn st.1 t.fr || !(t.w.of m != 0) then st else (clr false st.1 t.fr, st.2 ++ [t])) st = ts.foldl (fun st t => if !allOn st.1 t.fr || !(t.w.of m != 0) then st else (clr false st.1 t.fr, st.2 ++ [t])) st := by
  induction ts with
  | nil => intro st; rfl
  | cons t ts ih =>
    intro st
    have ht := hp t (by simp)
    rw [List.foldl_cons, List.filter_cons]
    cases h : p t with
    | true => rw [if_pos rfl, List.foldl_cons]; exact ih (fun u hu => hp u (by simp [hu])) _
    | false =>
      rw [if_neg (by simp), ih (fun u hu => hp u (by simp [hu]))]
      rw [h] at ht
      rw [← ht]; simp
theorem filC_step (c : Cht) (k : Mrk) (m : MM) (h : c.ok = true) (hm : m.ok = true) : stepM (filC c m) k m = stepM c k m := by
  have ht : (fires m (filC c m) k.on).map (wayAt (filC c m)) = (fires m c k.on).map (wayAt c) := by
    rw [fires_t, fires_t]
    show (tfires m k.on (c.ts.filter _)).2 = _
    unfold tfires
    rw [tfires_filter]
    intro t ht
    unfold iof
    rw [hm, Cht.ways h t ht]; rfl
  have hg : goes (filC c m) k.on (fires m (filC c m) k.on) = goes c k.on (fires m c k.on) := by
    rw [goes, goes, spread_eq, spread_eq, spread_eq, spread_eq, ht]
  have hb : begins (filC c m) (fires m (filC c m) k.on) = begins c (fires m c k.on) := by
    rw [begins, begins, spread_eq, spread_eq, ht]; rfl
  show ((⟨goes (filC c m) k.on (fires m (filC c m) k.on), keptM c k.kept (goes (filC c m) k.on (fires m (filC c m) k.on))⟩ : Mrk), mfold c (keptM c k.kept (goes (filC c m) k.on (fires m (filC c m) k.on))) (goes (filC c m) k.on (fires m (filC c m) k.on)) (begins (filC c m) (fires m (filC c m) k.on)) m c.as') = _
  rw [hg, hb]; rfl
theorem filC_cht (c : Cht) (k : Mrk) (m : MM) (h : c.ok = true) (hm : m.ok = true) : chtStep (filC c m) k m = chtStep c k m := by
  unfold chtStep
  rw [filC_ok m h, h]
  show (if true && mrkOk c k && m.ok then _ else _) = _
  cases h2 : (true && mrkOk c k && m.ok) with
  | false => rfl
  | true => simp only [if_true]; exact filC_step c k m h hm
theorem memSame_self (m : MM) : memSame m m = true := by
  have h : ∀ l : List Int, eqI l l = true := by
    intro l; unfold eqI; simp
  unfold memSame; rw [h, h, h]; rfl
theorem chtStep_ne {c : Cht} {k : Mrk} {m : MM} (h : ((chtStep c k m).2.i.length : Int) ≠ 0) : c.ok = true ∧ mrkOk c k = true ∧ m.ok = true := by
  unfold chtStep at h
  split at h
  · rename_i hh; simp only [Bool.and_eq_true] at hh; exact ⟨hh.1.1, hh.1.2, hh.2⟩
  · simp at h
theorem chtStep_yes {c : Cht} {k : Mrk} {m : MM} (h1 : c.ok = true) (h2 : mrkOk c k = true) (h3 : m.ok = true) : chtStep c k m = stepM c k m := by
  unfold chtStep; rw [h1, h2, h3]; rfl
end Go.Proofs.YtnilkkcobeaglaaGreat
namespace Go.Proofs.YtnilkkcobeaglaaGreat
open Go Sg
set_option maxRecDepth 100000
set_option linter.unusedSimpArgs false
set_option linter.unusedVariables false
set_option maxHeartbeats 4000000
def nats (l : List Nat) : List Int := l.map fun (i : Nat) => (i : Int)
theorem nats_app (l : List Nat) (n : Nat) : nats l ++ [(n : Int)] = nats (l ++ [n]) := by simp [nats]
@[go_sem] theorem nats_len (l : List Nat) : (nats l).length = l.length := by simp [nats]
def ifires (c : Cht) (k : Mrk) (m : MM) : List Int := if turnOk c k m then nats (fI m (onBits k.on) c c.ts.length).2 else []
theorem fI_len (m : MM) (on : BitVec 64) (c : Cht) (n : Nat) : (fI m on c n).2.length ≤ n := by
  induction n with
  | zero => exact Nat.le_refl _
  | succ n ih =>
    cases h : fgd m on (fI m on c n).1 (c.ts.getD n default) with
    | true => rw [fI_yes h]; omega
    | false => rw [fI_no h]; simp; omega
theorem frzI' {r : Option Nat} {N : Nat} {c : Code} {s : MS} {Q : ExitA → MS → Prop} (x n : Nat) (l : List Int) (hn : l.length = n) (hx : s.B ≤ x) (h1 : s.f x = some (.cells 3 (ints l)))
    (h : wpM Tryz.prog r N c (s.frz [x] [(3, x, 0, n, rowsI l)]) Q) : wpM Tryz.prog r N c s Q := by
  refine wpM_frz [x] _ (by intro q hq; simp at hq; subst hq; assumption) (by
      intro q hq
      simp only [List.mem_cons, List.not_mem_nil, or_false] at hq
      subst hq
      exact ⟨by simp, rowsOf_ints' (T := 3) (l := l) h1 hn⟩) h
theorem ifiresC_ok (c : Cht) (k : Mrk) (m : MM) (hc : c.Sm) (hms : m.Sm) : PureF Tryz.prog 14 [.agg c.cs, .agg k.cs, .agg m.cs] [.rows 3 (rowsI (ifires c k m))] := by
  refine pureF_ofM Tryz.func14 rfl Tryz.ntmps14 (by simp) T_ ?_
  intro f0 B Q hQ
  obtain ⟨asg, body, hcode⟩ : ∃ asg body, Tryz.f14.body.map rfs = some [(asg, body)] := ⟨_, _, rfl⟩
  refine wpM_seq ?_
  refine wpM_regionK [3, 4, 5, 28] rfl ?_; intro Q1 hQ1
  refine S_ ?_
  refine hQ1 _ _ ?_; clear hQ1 Q1
  refine S_ ?_
  refine wpM_seq ?_
  refine wpM_regionK [3, 4, 7, 8, 28] rfl ?_; intro Q1 hQ1
  refine S_ ?_
  refine call_fn (l := []) (first := []) (cap := []) (ps := [.agg c.cs, .agg k.cs, .agg m.cs]) (readTurn_ok c k m hc hms) Tryz.call38 rfl rfl rfl T_ T_ ?_
  rintro out ⟨x', p, l, ⟨⟩, hp1, hp2, rfl⟩
  refine S_ ?_
  refine hQ1 _ _ ?_; clear hQ1 Q1
  refine S_ ?_
  refine wpM_seq ?_
  refine wpM_seq ?_
  refine wpM_regionK [3, 4, 7, 19, 28] rfl ?_; intro Q1 hQ1
  refine S_ ?_
  refine hQ1 _ _ ?_; clear hQ1 Q1
  refine S_ ?_
  refine wpM_condK ?_
  refine S_ ?_
  refine ⟨fun hc0 => ?_, fun hc0 => ?_⟩
  ·
    refine wpM_seq ?_
    refine wpM_regionK [6] rfl ?_; intro Q1 hQ1
    refine S_ ?_
    refine hQ1 _ _ ?_; clear hQ1 Q1
    refine S_ ?_
    have hcs : ifires c k m = [] := by rw [ifires, if_neg]; intro hh; rw [hh] at hc0; cases hc0
    refine wpM_le [(6, .rows 3 [])] [] T_ T_ T_ ?_
    refine wpM_ret ?_
    try refine S_ ?_
    first
    | refine hQ [] _ _ rfl rfl rfl trivial (by simp -implicitDefEqProofs (disch := omega) only [go_sem, true_or]) ?_ (.inl rfl)
    | refine hQ [B + 10] _ _ rfl rfl rfl ⟨⟨by simp -implicitDefEqProofs (disch := omega) only [go_sem], ⟨d, by simp -implicitDefEqProofs (disch := omega) only [go_sem]⟩, by simp⟩, trivial⟩ (by simp -implicitDefEqProofs (disch := omega) only [go_sem, true_or]) ?_ (.inl rfl)
    all_goals rw [Tryz.results14, hcs]
    all_goals (simp -implicitDefEqProofs (disch := omega) only [go_sem] <;> rfl)
  have hok : turnOk c k m = true := by simpa using hc0
  have hcs : ifires c k m = nats (fI m (onBits k.on) c c.ts.length).2 := by rw [ifires, if_pos hok]
  obtain ⟨hok1, hok2, hok3, hok4⟩ := turnOk_inv hok
  obtain ⟨rfl, rfl⟩ := hp1 hok1
  have hm := MM.ok_six hok1
  have hst := Cht.ok_st hok2
  have hg : c.Go k.on.length := by
    have := Cht.ok_Go hok2
    rwa [show c.steps.toNat = k.on.length by omega] at this
  have hon6 := hg.n6
  have hts := hc.ts
  refine wpM_skip ?_
  refine S_ ?_
  refine wpM_seq ?_
  refine wpM_regionK [3, 4, 7, 9, 28] rfl ?_; intro Q1 hQ1
  refine S_ ?_
  refine hQ1 _ _ ?_; clear hQ1 Q1
  refine S_ ?_
  refine wpM_nil 3 [(3, .ptr B 0), (4, .ptr (B + 1) 0), (7, .ptr (B + 3) 0), (9, .ptr (B + 4) 0)] [(B + 4, .cells 30 [.sl 3 (B + 5) 0 0]), (B + 3, .cells 151 (ints m.flat)), (B + 1, .cells 29 k.cs), (B, .cells 26 c.cs)] T_ T_ T_ ?_
  simp -implicitDefEqProofs (disch := omega) only [go_sem]
  refine wpM_seq ?_
  refine wpM_seq ?_
  refine wpM_keep [9, 27, 28] (wpM_dr mixed 4 3 [B, B + 1, B + 3, B + 6, B + 7, B + 8, B + 9] [⟨[3], [0], [], [], false⟩, ⟨[4], [1], [], [], false⟩, ⟨[21], [], [], [3], true⟩, ⟨[22], [], [], [], false⟩, ⟨[23], [], [], [], false⟩, ⟨[24], [3], [], [], false⟩, ⟨[7], [], [], [], false⟩, ⟨[20, 25, 26], [2], [], [4, 5, 6], true⟩] [0, 1, 6, 2, 3, 4, 5, 7] [[], [], [1], [1, 2], [1, 2, 3], [1, 2, 3, 4], [], [0, 1, 2, 3, 4, 5, 6]] 7 rfl (by simp) (by decide +kernel) (by simp) ?_)
  intro O A K hO hA hK; simp only [atL_cons, atL_nil, Nat.reduceAdd, Nat.zero_add] at hO hA
  refine SO_ ?_
  refine loud_fn (first := []) (cap := []) (ps := [.agg k.cs]) (l := []) (turnOf_ok k (by omega) hok4) Tryz.call49 rfl rfl F_ (subG_spec T_) rfl ?_
  rintro out ⟨x', ⟨⟩, rfl⟩
  refine ⟨rfl, ?_⟩
  refine SO_ ?_
  refine loud_fn (first := []) (cap := []) (ps := [.agg c.cs, .int .u64 ((onBits k.on).toNat : Int), .ptr (B + 3) 0]) (l := mobj (B + 3) m) (ifires_ok c (onBits k.on) (B + 3) _) Tryz.call48 rfl rfl F_ (subG_spec T_) rfl ?_
  rintro out ⟨x', y', z', ⟨⟩, rfl⟩
  refine ⟨rfl, ?_⟩
  refine SO_ ?_
  refine hK _ ?_; clear hK K hO hA O A
  refine S_ ?_
  refine wpM_block ?_
  have hcode' := Option.some.inj hcode
  simp only [rfs, List.nil_append, List.append_nil, List.cons.injEq, Prod.mk.injEq, and_true] at hcode'
  obtain ⟨hasg, hbody⟩ := hcode'
  simp -implicitDefEqProofs (disch := omega) only [go_sem, Nat.add_assoc]
  refine wpM_code (c' := Code.rangeFunc (.tmp 27) #[28, 29] asg body) (by rw [← hasg, ← hbody]) ?_
  clear hasg hbody
  refine wpM_rangeFunc (first := []) (cap := [.ptr (B + 7) 0, .ptr (B + 8) 0, .ptr (B + 9) 0]) T_ Tryz.func102 rfl Tryz.ntmps102 (by simp) Tryz.call102 ?_
  intro fn b d
  refine wpM_seq ?_
  refine wpM_regionK [0, 1, 2, 3, 5] rfl ?_; intro Q1 hQ1
  refine S_ ?_
  refine hQ1 _ _ ?_; clear hQ1 Q1
  refine S_ ?_
  refine wpM_seq ?_
  refine wpM_regionK [0, 2, 3, 5, 10, 11, 12] rfl ?_; intro Q1 hQ1
  refine S_ ?_
  refine hQ1 _ _ ?_; clear hQ1 Q1
  refine S_ ?_
  refine wpM_block ?_
  refine wpM_loopS (fun s r s' => ∃ (i0 M0 y : Nat), i0 + r = c.ts.length ∧ (y = B + 5 ∨ B + 12 ≤ y) ∧ y < M0 ∧ B + 12 ≤ M0 ∧ s' = { s with env := setE 5 (.int .u64 ((fI m (onBits k.on) c i0).1.toNat : Int)) (setE 12 (.int .i64 (i0 : Nat)) s.env), l := (y, .cells 3 (ints (nats (fI m (onBits k.on) c i0).2))) :: setl (B + 4) (.cells 30 [.sl 3 y 0 (fI m (onBits k.on) c i0).2.length]) (dell (B + 5) s.l), M := M0 }) (c.ts.length) ?_ ?_
  ·
    refine .of' _ _ ⟨0, _, B + 5, by omega, by omega, ?_, ?_, rfl⟩ ?_ ?_ ?_
    · first | omega | (simp -implicitDefEqProofs (disch := omega) only [go_sem]; done) | (simp -implicitDefEqProofs (disch := omega) only [go_sem]; omega)
    · first | omega | (simp -implicitDefEqProofs (disch := omega) only [go_sem]; done) | (simp -implicitDefEqProofs (disch := omega) only [go_sem]; omega)
    all_goals (try simp only [fI_zero, nats, List.map_nil, ints_nil', List.length_nil])
    all_goals (first | (simp -implicitDefEqProofs (disch := omega) only [go_sem, PV.int.injEq, Int.natCast_add, Int.natCast_one, Int.natCast_zero, true_or, le_yes]; done) | rfl | trivial | (simp -implicitDefEqProofs (disch := omega) only [go_sem, PV.int.injEq, Int.natCast_add, Int.natCast_one, Int.natCast_zero, true_or]; simp; done) | (simp; done))
  rintro r s' ⟨i0, M0, y, hi0, hy, hyM, hM0, rfl⟩
  try refine S_ ?_
  refine wpM_seq ?_
  refine wpM_regionK [0, 2, 3, 5, 10, 11, 12, 13] rfl ?_; intro Q1 hQ1
  refine S_ ?_
  refine hQ1 _ _ ?_; clear hQ1 Q1
  refine S_ ?_
  refine wpM_seq ?_
  refine wpM_condK ?_
  refine S_ ?_
  refine ⟨fun hc0 => ?_, fun hc0 => ?_⟩
  ·
    have hl0 : i0 < c.ts.length := by omega
    have ht := hc.t i0 hl0
    have hgo := hg.t i0 hl0
    have htf := ht.fr
    have hfl := fI_len m (onBits k.on) c i0
    refine wpM_skip ?_
    refine S_ ?_
    refine wpM_seq ?_
    refine wpM_block ?_
    refine wpM_seq ?_
    refine wpM_regionK [0, 2, 3, 5, 6, 7, 10, 11, 12] rfl ?_; intro Q1 hQ1
    refine S_ ?_
    refine hQ1 _ _ ?_; clear hQ1 Q1
    refine S_ ?_
    refine wpM_seq ?_
    refine wpM_regionK [0, 2, 3, 5, 6, 7, 8, 10, 11, 12] rfl ?_; intro Q1 hQ1
    refine S_ ?_
    refine call_p (bitsOf_ok (c.ts.getD i0 default).fr htf (fun j hj => (hgo.fr j hj).1)) Tryz.call90 rfl rfl rfl (by first | rfl | (simp -implicitDefEqProofs (disch := omega) only [go_sem] <;> rfl)) ?_
    refine S_ ?_
    refine hQ1 _ _ ?_; clear hQ1 Q1
    refine S_ ?_
    refine wpM_seq ?_
    refine wpM_seq ?_
    refine wpM_regionK [0, 2, 3, 5, 6, 7, 8, 10, 11, 12, 37] rfl ?_; intro Q1 hQ1
    refine SD_ ?_
    refine callG_r (l := mobj (B + 3) m) (fun hb => reckon_ok m hm (B + 3) 6 (c.ts.getD i0 default).w hgo.w) (by refine subF_spec ?_; simp -implicitDefEqProofs (disch := omega) only [go_sem]) Tryz.call47 rfl rfl (fun hb => by simp -implicitDefEqProofs (disch := omega) only [go_sem]) (fun hb => by first | rfl | simp -implicitDefEqProofs (disch := omega) only [go_sem, hb, gd_of hb] | (simp -implicitDefEqProofs (disch := omega) only [go_sem, hb, gd_of hb]; rfl)) ?_
    refine SD_ ?_
    first | refine callG_p (fun hb => ion_ok ((c.ts.getD i0 default).w.of m)) Tryz.call12 rfl rfl (fun hb => by simp -implicitDefEqProofs (disch := omega) only [go_sem]) (fun hb => by first | rfl | (simp -implicitDefEqProofs (disch := omega) only [go_sem, hb, gd_of hb] <;> rfl)) ?_ | refine call_p (ion_ok ((c.ts.getD i0 default).w.of m)) Tryz.call12 rfl rfl rfl (by first | rfl | (simp -implicitDefEqProofs (disch := omega) only [go_sem] <;> rfl)) ?_
    refine SD_ ?_
    refine hQ1 _ _ ?_; clear hQ1 Q1
    refine S_ ?_
    refine wpM_condK ?_
    refine S_ ?_
    refine ⟨fun hc1 => ?_, fun hc1 => ?_⟩
    ·
      refine wpM_exit ?_
      refine S_ ?_
      refine wpM_regionK [0, 2, 3, 5, 10, 11, 12] rfl ?_; intro Q1 hQ1
      refine S_ ?_
      refine hQ1 _ _ ?_; clear hQ1 Q1
      refine S_ ?_
      first
      | (have hst := fI_yes (m := m) (on := onBits k.on) (c := c) (n := i0) hc1
         rw [← hst]
         refine .of' _ _ ⟨r - 1, by omega, i0 + 1, _, y, by omega, by omega, ?_, ?_, rfl⟩ ?_ ?_ ?_
         · first | omega | (simp -implicitDefEqProofs (disch := omega) only [go_sem]; done) | (simp -implicitDefEqProofs (disch := omega) only [go_sem]; omega)
         · first | omega | (simp -implicitDefEqProofs (disch := omega) only [go_sem]; done) | (simp -implicitDefEqProofs (disch := omega) only [go_sem]; omega)
         all_goals (first | (simp -implicitDefEqProofs (disch := omega) only [go_sem, PV.int.injEq, Int.natCast_add, Int.natCast_one, Int.natCast_zero, true_or, le_yes]; done) | rfl | trivial | (simp -implicitDefEqProofs (disch := omega) only [go_sem, PV.int.injEq, Int.natCast_add, Int.natCast_one, Int.natCast_zero, true_or]; simp; done) | (simp; done)))
      | (have hst := fI_no (m := m) (on := onBits k.on) (c := c) (n := i0) hc1
         rw [nats_app]
         refine .of' _ _ ⟨r - 1, by omega, i0 + 1, _, M0 + 2, by omega, by omega, ?_, ?_, rfl⟩ ?_ ?_ ?_
         · first | omega | (simp -implicitDefEqProofs (disch := omega) only [go_sem]; done) | (simp -implicitDefEqProofs (disch := omega) only [go_sem]; omega)
         · first | omega | (simp -implicitDefEqProofs (disch := omega) only [go_sem]; done) | (simp -implicitDefEqProofs (disch := omega) only [go_sem]; omega)
         all_goals (rw [hst]; try simp only [List.length_append, List.length_cons, List.length_nil])
         all_goals (first | (simp -implicitDefEqProofs (disch := omega) only [go_sem, PV.int.injEq, Int.natCast_add, Int.natCast_one, Int.natCast_zero, true_or, le_yes]; done) | rfl | trivial | (simp -implicitDefEqProofs (disch := omega) only [go_sem, PV.int.injEq, Int.natCast_add, Int.natCast_one, Int.natCast_zero, true_or]; simp; done) | (simp; done)))
    refine wpM_skip ?_
    refine S_ ?_
    refine wpM_seq ?_
    refine wpM_regionK [0, 2, 3, 5, 6, 7, 10, 11, 12] rfl ?_; intro Q1 hQ1
    refine S_ ?_
    refine hQ1 _ _ ?_; clear hQ1 Q1
    refine S_ ?_
    refine wpM_seq ?_
    refine wpM_regionK [0, 2, 3, 5, 10, 11, 12, 45] rfl ?_; intro Q1 hQ1
    refine S_ ?_
    refine OpM_roundK (B + 11) rfl rfl rfl rfl (by simp -implicitDefEqProofs (disch := omega) only [go_sem]; rfl) rfl rfl ?_
    intro K' hK'
    have hcode' := Option.some.inj hcode
    simp only [rfs, List.nil_append, List.append_nil, List.cons.injEq, Prod.mk.injEq, and_true] at hcode'
    obtain ⟨hasg, hbody⟩ := hcode'
    refine wpM_code hasg ?_
    clear hasg hbody
    simp -implicitDefEqProofs (disch := omega) only [go_sem]
    refine wpM_regionK [9, 10] rfl ?_; intro Q1 hQ1
    refine S_ ?_
    refine hQ1 _ _ ?_; clear hQ1 Q1
    refine S_ ?_
    refine ⟨d, none, fn, 35, [(9, .ptr (B + 4) 0), (27, .fn (.func 102) [] [.ptr (B + 7) 0, .ptr (B + 8) 0, .ptr (B + 9) 0])], #[28, 29], asg, body, by simp -implicitDefEqProofs (disch := omega) only [go_sem], ?_⟩
    have hcode' := Option.some.inj hcode
    simp only [rfs, List.nil_append, List.append_nil, List.cons.injEq, Prod.mk.injEq, and_true] at hcode'
    obtain ⟨hasg, hbody⟩ := hcode'
    refine wpM_code hbody ?_
    clear hasg hbody
    refine wpM_block ?_
    refine wpM_regionK [] rfl ?_; intro Q1 hQ1
    refine S_ ?_
    refine hQ1 _ _ ?_; clear hQ1 Q1
    refine S_ ?_
    refine ⟨d, .busy, none, fn, 35, [(9, .ptr (B + 4) 0), (27, .fn (.func 102) [] [.ptr (B + 7) 0, .ptr (B + 8) 0, .ptr (B + 9) 0])], #[28, 29], asg, body, by simp -implicitDefEqProofs (disch := omega) only [go_sem], ?_⟩
    refine hK' _ ?_; clear hK' K'
    refine S_ ?_
    refine hQ1 _ _ ?_; clear hQ1 Q1
    refine S_ ?_
    refine wpM_condK ?_
    refine S_ ?_
    refine wpM_skip ?_
    refine S_ ?_
    refine wpM_regionK [0, 2, 3, 5, 10, 11, 12] rfl ?_; intro Q1 hQ1
    refine S_ ?_
    refine hQ1 _ _ ?_; clear hQ1 Q1
    refine S_ ?_
    first
    | (have hst := fI_yes (m := m) (on := onBits k.on) (c := c) (n := i0) hc1
       rw [← hst]
       refine .of' _ _ ⟨r - 1, by omega, i0 + 1, _, y, by omega, by omega, ?_, ?_, rfl⟩ ?_ ?_ ?_
       · first | omega | (simp -implicitDefEqProofs (disch := omega) only [go_sem]; done) | (simp -implicitDefEqProofs (disch := omega) only [go_sem]; omega)
       · first | omega | (simp -implicitDefEqProofs (disch := omega) only [go_sem]; done) | (simp -implicitDefEqProofs (disch := omega) only [go_sem]; omega)
       all_goals (first | (simp -implicitDefEqProofs (disch := omega) only [go_sem, PV.int.injEq, Int.natCast_add, Int.natCast_one, Int.natCast_zero, true_or, le_yes]; done) | rfl | trivial | (simp -implicitDefEqProofs (disch := omega) only [go_sem, PV.int.injEq, Int.natCast_add, Int.natCast_one, Int.natCast_zero, true_or]; simp; done) | (simp; done)))
    | (have hst := fI_no (m := m) (on := onBits k.on) (c := c) (n := i0) hc1
       rw [nats_app]
       refine .of' _ _ ⟨r - 1, by omega, i0 + 1, _, M0 + 2, by omega, by omega, ?_, ?_, rfl⟩ ?_ ?_ ?_
       · first | omega | (simp -implicitDefEqProofs (disch := omega) only [go_sem]; done) | (simp -implicitDefEqProofs (disch := omega) only [go_sem]; omega)
       · first | omega | (simp -implicitDefEqProofs (disch := omega) only [go_sem]; done) | (simp -implicitDefEqProofs (disch := omega) only [go_sem]; omega)
       all_goals (rw [hst]; try simp only [List.length_append, List.length_cons, List.length_nil])
       all_goals (first | (simp -implicitDefEqProofs (disch := omega) only [go_sem, PV.int.injEq, Int.natCast_add, Int.natCast_one, Int.natCast_zero, true_or, le_yes]; done) | rfl | trivial | (simp -implicitDefEqProofs (disch := omega) only [go_sem, PV.int.injEq, Int.natCast_add, Int.natCast_one, Int.natCast_zero, true_or]; simp; done) | (simp; done)))
  refine wpM_exit ?_
  refine S_ ?_
  refine ⟨[], rfl, trivial, [], (by first | (rw [Tryz.results102]; done) | (rw [Tryz.results102]; simp -implicitDefEqProofs (disch := omega) only [go_sem])), ?_⟩
  refine ⟨d, .ready, none, fn, 35, [(9, .ptr (B + 4) 0), (27, .fn (.func 102) [] [.ptr (B + 7) 0, .ptr (B + 8) 0, .ptr (B + 9) 0])], #[28, 29], asg, body, T_, (by simp), ?_⟩
  simp -implicitDefEqProofs (disch := omega) only [go_sem, Nat.add_assoc]
  have hie : i0 = c.ts.length := by omega
  rw [hie]
  trace_state
  refine wpM_seq ?_
  refine frzI' y (fI m (onBits k.on) c c.ts.length).2.length (nats (fI m (onBits k.on) c c.ts.length).2) (nats_len _) T_ T_ ?_
  simp -implicitDefEqProofs (disch := omega) only [go_sem]
  refine wpM_regionK [6] rfl ?_; intro Q1 hQ1
  refine S_ ?_
  refine hQ1 _ _ ?_; clear hQ1 Q1
  refine S_ ?_
  refine wpM_ret ?_
  try refine S_ ?_
  first
  | refine hQ [] _ _ rfl rfl rfl trivial (by simp -implicitDefEqProofs (disch := omega) only [go_sem, true_or]) ?_ (.inl rfl)
  | refine hQ [B + 10] _ _ rfl rfl rfl ⟨⟨by simp -implicitDefEqProofs (disch := omega) only [go_sem], ⟨d, by simp -implicitDefEqProofs (disch := omega) only [go_sem]⟩, by simp⟩, trivial⟩ (by simp -implicitDefEqProofs (disch := omega) only [go_sem, true_or]) ?_ (.inl rfl)
  all_goals rw [Tryz.results14, hcs]
  all_goals (simp -implicitDefEqProofs (disch := omega) only [go_sem] <;> rfl)
end Go.Proofs.YtnilkkcobeaglaaGreat
namespace Go.Proofs.YtnilkkcobeaglaaGreat
open Go Sg
set_option linter.unusedSimpArgs false
set_option linter.unusedVariables false
theorem take_any {α : Type} [Inhabited α] (p : α → Bool) (l : List α) (i : Nat) (h : i < l.length) : (l.take (i + 1)).any p = ((l.take i).any p || p (l.getD i default)) := by
  rw [List.take_succ_eq_append_getElem h, List.any_append]
  simp [List.getD, h]
def pK (kk : Int) (i : Nat) (on : List Bool) (a : GAct) : Bool := a.kind == kk && a.to'.at' == (i : Int) && on.getD a.step.toNat false
def pB (kk : Int) (i : Nat) (a : GAct) : Bool := a.kind == kk && a.to'.at' == (i : Int)
theorem any_congr {α : Type} {p q : α → Bool} : ∀ {l : List α}, (∀ a ∈ l, p a = q a) → l.any p = l.any q
  | [], _ => rfl
  | x :: l, h => by rw [List.any_cons, List.any_cons, h x (by simp), any_congr fun a ha => h a (by simp [ha])]
theorem kept_law {c : Cht} {k : Mrk} {m : MM} (h : c.ok = true) (hk : k.kept.length = 6) (i : Nat) : (stepM c k m).1.kept.getD i false = (!(c.as'.any (pK 3 i (stepM c k m).1.on)) && (c.as'.any (pK 2 i (stepM c k m).1.on) || k.kept.getD i false)) := by
  have ha := Cht.acts h
  show (keptM c k.kept (goes c k.on (fires m c k.on))).getD i false = (!(c.as'.any (pK 3 i (goes c k.on (fires m c k.on)))) && (c.as'.any (pK 2 i (goes c k.on (fires m c k.on))) || k.kept.getD i false))
  generalize goes c k.on (fires m c k.on) = on
  have e : ∀ kk, c.as'.any (fun a => a.kind == kk && on.getD a.step.toNat false && a.to'.at'.toNat == i) = c.as'.any (pK kk i on) := fun kk => any_congr fun a h1 => by
    have := ha a h1
    have e2 : (a.to'.at'.toNat == i) = (a.to'.at' == (i : Int)) := by rw [Bool.eq_iff_iff]; simp; omega
    unfold pK
    rw [e2]
    cases (a.kind == kk) <;> cases on.getD a.step.toNat false <;> simp
  unfold keptM
  rw [kset_get, kset_get, e, e]
  · cases c.as'.any (pK 3 i on) <;> cases c.as'.any (pK 2 i on) <;> simp
  all_goals (intro a h1; try rw [kset_len]); rw [hk]; have := ha a h1; omega
theorem ifires_eq (c : Cht) (k : Mrk) (m : MM) : ifires c k m = if turnOk c k m then fires m c k.on else [] := by
  unfold ifires
  split
  · rename_i h
    obtain ⟨h1, h2, h3, h4⟩ := turnOk_inv h
    have hgo : c.Go k.on.length := by
      have := Cht.ok_Go h2
      have h5 := Cht.ok_st h2
      rwa [show c.steps.toNat = k.on.length by omega] at this
    have := hgo.n6
    exact (fI_t (by omega) m c k.on rfl hgo.pl c.ts.length (Nat.le_refl _)).1
  · rfl
theorem cut_cut (n : Int) : cut (cut n) = cut n := by unfold cut; omega
theorem listOk_set {l : List Int} (h : listOk l = true) (i : Nat) (n : Int) : listOk (l.set i (cut n)) = true := by
  simp only [listOk, Bool.and_eq_true, List.all_eq_true, List.length_set] at h ⊢
  refine ⟨fun x hx => ?_, h.2⟩
  rcases List.mem_or_eq_of_mem_set hx with h1 | h1
  · exact h.1 x h1
  · rw [h1, cut_cut]; simp
theorem put_ok9 {m : MM} (h : m.ok = true) (a : AD) (n : Int) : (m.put a n).ok = true := by
  simp only [MM.ok, Bool.and_eq_true] at h
  unfold MM.put
  split
  · simp only [MM.ok, Bool.and_eq_true]; exact ⟨⟨h.1.1, listOk_set h.1.2 _ _⟩, h.2⟩
  · split
    · simp only [MM.ok, Bool.and_eq_true]; exact ⟨⟨h.1.1, h.1.2⟩, listOk_set h.2 _ _⟩
    · simp only [MM.ok, Bool.and_eq_true]; exact ⟨⟨h.1.1, h.1.2⟩, h.2⟩
theorem stepM_ok9 (c : Cht) (k : Mrk) {m : MM} (h : m.ok = true) : (stepM c k m).2.ok = true := by
  show (mfold c _ _ _ m c.as').ok = true
  have : ∀ (kp on bg : List Bool) (l : List GAct) (m : MM), m.ok = true → (mfold c kp on bg m l).ok = true := by
    intro kp on bg l
    induction l with
    | nil => intro m h; exact h
    | cons a l ih => intro m h; exact ih _ (put_ok9 h _ _)
  exact this _ _ _ _ _ h
theorem numIs_false : cut (numIs false) = 0 := rfl
theorem begin_law {c : Cht} {k : Mrk} {m : MM} (h : c.ok = true) (hm : m.Six) (hf : fires m c k.on = []) (i : Nat) (ho : c.as'.any (pB 4 i) = true) (hn : ((stepM c k m).1.kept.getD i false || c.as'.any (pK 1 i (stepM c k m).1.on)) = false) : (stepM c k m).2.o.getD i 0 = 0 := by
  have ha := Cht.acts h
  have hs : stepM c k m = (⟨goes c k.on [], keptM c k.kept (goes c k.on [])⟩, mfold c (keptM c k.kept (goes c k.on [])) (goes c k.on []) (begins c []) m c.as') := by unfold stepM; rw [hf]
  rw [hs] at hn ⊢
  have hn : ((keptM c k.kept (goes c k.on [])).getD i false || c.as'.any (pK 1 i (goes c k.on []))) = false := hn
  show (mfold c (keptM c k.kept (goes c k.on [])) (goes c k.on []) (begins c []) m c.as').o.getD i 0 = 0
  generalize goes c k.on [] = on at *
  generalize keptM c k.kept on = kp at *
  obtain ⟨_, _, _, h4⟩ := mfold_spec c kp on (begins c []) c.as' (fun a h1 => ⟨(ha a h1).1, (ha a h1).2.1, (ha a h1).2.2.1⟩) m hm.o
  rw [h4 i]
  have hl : lit c (i : Int) on (begins c []) = c.as'.any (pK 1 i on) := any_congr fun a h1 => by
    have hb : (begins c []).getD a.step.toNat false = false := by
      show (List.replicate c.steps.toNat false).getD _ false = false
      rw [List.getD_eq_getElem?_getD]
      by_cases h5 : a.step.toNat < c.steps.toNat
      · rw [List.getElem?_eq_getElem (by simpa using h5)]; simp
      · rw [List.getElem?_eq_none (by simpa using h5)]; rfl
    unfold litA pK
    rw [hb]
    cases (a.to'.at' == (i : Int)) <;> cases (a.kind == 1) <;> simp
  rw [hl, hn]
  split <;> first | rfl | skip
  rename_i hh
  refine absurd ?_ hh
  simp only [List.any_eq_true] at ho ⊢
  obtain ⟨a, h1, h2⟩ := ho
  refine ⟨a, h1, ?_⟩
  unfold pB at h2
  simp only [Bool.and_eq_true, beq_iff_eq] at h2 ⊢
  have := ha a h1
  omega
theorem take_any' {α : Type} (p : α → Bool) (l : List α) (z : α) (i : Nat) (h : i < l.length) : (l.take (i + 1)).any p = ((l.take i).any p || p (l.getD i z)) := by
  rw [List.take_succ_eq_append_getElem h, List.any_append]
  simp [List.getD, h]
def WF (pl : Trn → List Int) (c : Cht) (fs : List Int) (s i : Nat) : Bool := (fs.take i).any fun q => (pl (c.ts.getD q.toNat default)).any fun x => x == (s : Int)
@[go_sem] theorem WF_zero (pl : Trn → List Int) (c : Cht) (fs : List Int) (s : Nat) : WF pl c fs s 0 = false := by simp [WF]
theorem WF_succ (pl : Trn → List Int) (c : Cht) (fs : List Int) (s i : Nat) (h : i < fs.length) : WF pl c fs s (i + 1) = (WF pl c fs s i || (pl (c.ts.getD (fs.getD i 0).toNat default)).any fun x => x == (s : Int)) := take_any' _ fs 0 i h
theorem and_not_ne (A b : Bool) (x y : Int) : ((A && !b) && (x != y)) = (A && !(b || (x == y))) := by
  cases A <;> cases b <;> simp [bne]
theorem and_not_not (A b c : Bool) : ((A && !b) && !c) = (A && !(b || c)) := by cases A <;> cases b <;> cases c <;> rfl
theorem WF_hasT {pl : Trn → List Int} {c : Cht} {n : Nat} (hp : ∀ t ∈ c.ts, Places n (pl t)) {fs : List Int} (hfs : Fs c fs) (s : Nat) : WF pl c fs s fs.length = hasT pl (fs.map (wayAt c)) s := by
  unfold WF hasT
  rw [List.take_length, List.any_map]
  refine any_congr fun q hq => ?_
  show _ = hasN (pl (wayAt c q)) s
  obtain ⟨i, hi, rfl⟩ := List.getElem_of_mem hq
  have h1 := hfs i hi
  rw [List.getD_eq_getElem?_getD, List.getElem?_eq_getElem hi] at h1
  simp only [Option.getD_some] at h1
  have h2 := hp _ (getD_mem (l := c.ts) (i := fs[i].toNat) (by omega))
  refine any_congr fun x hx => ?_
  have := h2 x hx
  rw [Bool.eq_iff_iff]; simp; omega
theorem on_law {c : Cht} {k : Mrk} {m : MM} (h : c.ok = true) (hk : k.on.length = c.steps.toNat) (s : Nat) (hs : s < k.on.length) :
    (stepM c k m).1.on.getD s false = ((k.on.getD s false && !(WF Trn.fr c (fires m c k.on) s (fires m c k.on).length)) || WF Trn.to' c (fires m c k.on) s (fires m c k.on).length) := by
  have hg := Cht.ok_Go h
  rw [← hk] at hg
  have hpl := hg.pl
  have hmem : ∀ t ∈ (fires m c k.on).map (wayAt c), t ∈ c.ts := by rw [fires_t]; exact tfires_mem m k.on c.ts
  obtain ⟨hfs, _⟩ := fires_Fs m c k.on
  rw [WF_hasT (fun t ht => (hpl t ht).1) hfs, WF_hasT (fun t ht => (hpl t ht).2) hfs]
  show (goes c k.on (fires m c k.on)).getD s false = _
  rw [goes, spread_eq, spread_eq, spreadT_get, spreadT_get]
  · cases hasT Trn.to' ((fires m c k.on).map (wayAt c)) s <;> cases hasT Trn.fr ((fires m c k.on).map (wayAt c)) s <;> simp
  · intro t ht x hx; have := (hpl t (hmem t ht)).1 x hx; omega
  · intro t ht x hx; rw [spreadT_len]; have := (hpl t (hmem t ht)).2 x hx; omega
theorem chtStep_no {c : Cht} {k : Mrk} {m : MM} (h : ((chtStep c k m).2.i.length : Int) = 0) : (chtStep c k m).1.on = [] := by
  unfold chtStep at h ⊢
  split
  · rename_i hh
    rw [if_pos hh] at h
    simp only [Bool.and_eq_true] at hh
    have := (stepM_six (c := c) (k := k) (MM.ok_six hh.2)).i
    omega
  · rfl
theorem out_law {c : Cht} {k : Mrk} {m : MM} (h : c.ok = true) (hm : m.Six) : (stepM c k m).2.i = m.i ∧ (stepM c k m).2.v = m.v ∧ ∀ i : Nat,
    (stepM c k m).2.o.getD i 0 = if c.as'.any (fun a => a.to'.at' == (i : Int)) then numIs ((stepM c k m).1.kept.getD i false || lit c i (stepM c k m).1.on (begins c (fires m c k.on))) else m.o.getD i 0 := by
  have ha := Cht.acts h
  obtain ⟨h1, h2, _, h4⟩ := mfold_spec c (keptM c k.kept (goes c k.on (fires m c k.on))) (goes c k.on (fires m c k.on)) (begins c (fires m c k.on)) c.as' (fun a h1 => ⟨(ha a h1).1, (ha a h1).2.1, (ha a h1).2.2.1⟩) m hm.o
  refine ⟨h1, h2, fun i => ?_⟩
  have e : c.as'.any (fun a => a.to'.at'.toNat == i) = c.as'.any (fun a => a.to'.at' == (i : Int)) := any_congr fun a h1 => by
    have := ha a h1
    rw [Bool.eq_iff_iff]; simp; omega
  have hc : ∀ b : Bool, cut (numIs b) = numIs b := by intro b; cases b <;> rfl
  show (mfold c (keptM c k.kept (goes c k.on (fires m c k.on))) (goes c k.on (fires m c k.on)) (begins c (fires m c k.on)) m c.as').o.getD i 0 = _
  rw [h4 i, e, hc]; rfl
theorem with_law {c : Cht} {k : Mrk} {m : MM} (h : c.ok = true) (hm : m.Six) {a : GAct} (ha : a ∈ c.as') (i : Nat) (h1 : (a.to'.at' == (i : Int)) = true) (h2 : (a.kind == 1) = true) (h3 : (stepM c k m).1.on.getD a.step.toNat false = true) : (stepM c k m).2.o.getD i 0 = 1 := by
  rw [(out_law h hm).2.2 i, if_pos (List.any_eq_true.2 ⟨a, ha, h1⟩)]
  have : lit c i (stepM c k m).1.on (begins c (fires m c k.on)) = true := List.any_eq_true.2 ⟨a, ha, by unfold litA; rw [h1, h2, h3]; rfl⟩
  rw [this]; simp [numIs]
theorem rest_law {c : Cht} {k : Mrk} {m : MM} (h : c.ok = true) (hk : k.kept.length = 6) (i : Nat) (hd : c.as'.any (fun a => a.to'.at' == (i : Int)) = false) : (stepM c k m).1.kept.getD i false = k.kept.getD i false := by
  rw [kept_law h hk]
  have : ∀ kk on, c.as'.any (pK kk i on) = false := by
    intro kk on
    rw [List.any_eq_false] at hd ⊢
    intro a ha
    have := hd a ha
    unfold pK
    simp only [Bool.not_eq_true] at this
    rw [this]; simp
  rw [this, this]; simp
theorem step_bad {c : Cht} {k : Mrk} {m : MM} (h : c.ok = true) (hm : m.Six) (hk : k.kept.length = 6) (i : Nat) :
    (((!c.as'.any fun a => a.to'.at' == (i : Int)) && ((stepM c k m).2.o.getD i 0 != m.o.getD i 0 || (stepM c k m).1.kept.getD i false != k.kept.getD i false) || (c.as'.any fun a => a.to'.at' == (i : Int)) && (stepM c k m).1.kept.getD i false && (stepM c k m).2.o.getD i 0 != 1 ||
        (stepM c k m).2.v.getD i 0 != m.v.getD i 0 || (stepM c k m).2.i.getD i 0 != m.i.getD i 0) = false) := by
  obtain ⟨h1, h2, h3⟩ := out_law h hm (k := k)
  rw [h1, h2, h3 i]
  cases hd : c.as'.any fun a => a.to'.at' == (i : Int) with
  | false => rw [rest_law h hk i hd]; simp
  | true => cases (stepM c k m).1.kept.getD i false <;> simp [numIs]
end Go.Proofs.YtnilkkcobeaglaaGreat
namespace Go.Proofs.YtnilkkcobeaglaaGreat
open Go Sg
set_option maxRecDepth 100000
set_option linter.unusedSimpArgs false
set_option linter.unusedVariables false
set_option maxHeartbeats 4000000
@[go_sem] theorem repd2 (z : List PV) : rep 2 z = z ++ z := by simp [rep, List.replicate_succ]
@[go_sem] theorem repd3 (z : List PV) : rep 3 z = z ++ (z ++ (z)) := by simp [rep, List.replicate_succ]
@[go_sem] theorem repd4 (z : List PV) : rep 4 z = z ++ (z ++ (z ++ (z))) := by simp [rep, List.replicate_succ]
@[go_sem] theorem repd6 (z : List PV) : rep 6 z = z ++ (z ++ (z ++ (z ++ (z ++ (z))))) := by simp [rep, List.replicate_succ]
@[go_sem] theorem repd7 (z : List PV) : rep 7 z = z ++ (z ++ (z ++ (z ++ (z ++ (z ++ (z)))))) := by simp [rep, List.replicate_succ]
@[go_sem] theorem repd10 (z : List PV) : rep 10 z = z ++ (z ++ (z ++ (z ++ (z ++ (z ++ (z ++ (z ++ (z ++ (z))))))))) := by simp [rep, List.replicate_succ]
def RdF (f : Nat) (args : List PV) (id : Nat) (bs : List Nat) (q K : Int) (R : PV → Prop) : Prop :=
  CallF Tryz.prog f (.ptr id 0 :: args) [(id, rdObj bs q)] 0 (fun _ o => ∃ v q', R v ∧ q ≤ q' ∧ q' ≤ q + K ∧ o = { rs := [v], u := [(id, some (rdObj bs q'))] })
theorem l2Addr_ok (id : Nat) (bs : List Nat) (q : Int) (hbs : Bs bs) (hq0 : 0 ≤ q) (hq : q + 2 ≤ 1000000000000) : RdF 125 [] id bs q 2 (fun v => ∃ a : AD, v = .agg a.cs) := by
  refine callF_of' Tryz.func125 rfl Tryz.ntmps125 (by simp) ?_
  intro f0 B ns Q hB hns hQ
  have hid : id < B := hB id (by simp [hasKey, lk])
  obtain rfl : ns = [] := List.eq_nil_of_length_eq_zero hns
  refine wpM_seq ?_
  refine wpM_regionK [0, 2] rfl ?_; intro Q1 hQ1
  refine S_ ?_
  refine hQ1 _ _ ?_; clear hQ1 Q1
  refine S_ ?_
  refine wpM_seq ?_
  refine wpM_regionK [2] rfl ?_; intro Q1 hQ1
  refine S_ ?_
  refine call_fn (l := [(id, rdObj bs q)]) (first := []) (cap := []) (ps := [.ptr id 0, .int .i64 3]) (pick_ok id bs q 3 hbs (by omega) (by omega) (by omega)) Tryz.call33 rfl rfl rfl T_ T_ ?_
  rintro out ⟨k1, rfl, h1, h2, h3⟩
  refine S_ ?_
  refine call_fn (l := [(id, rdObj bs (q + 1))]) (first := []) (cap := []) (ps := [.ptr id 0, .int .i64 3]) (pick_ok id bs (q + 1) 3 hbs (by omega) (by omega) (by omega)) Tryz.call33 rfl rfl rfl T_ T_ ?_
  rintro out ⟨k2, rfl, h4, h5, h6⟩
  refine S_ ?_
  refine hQ1 _ _ ?_; clear hQ1 Q1
  refine S_ ?_
  refine wpM_ret ?_
  try refine S_ ?_
  refine hQ _ _ (ret0 [(id, some (rdObj bs (q + 1 + 1)))] rfl rfl rfl (by rw [Tryz.results125]; simp (maxSteps := 1000000) -implicitDefEqProofs (disch := omega) only [go_sem] <;> rfl) ⟨_, q + 1 + 1, ⟨⟨1 + k1, k2⟩, rfl⟩, by omega, by omega, rfl⟩ ?_ ?_ ?_ ?_)
  all_goals simp -implicitDefEqProofs (disch := omega) only [go_sem, rdObj, true_or, or_true]
theorem memOpen_ok : CallF Tryz.prog 87 [] [] 3 (fun ns o => ∃ x y z, ns = [x, y, z] ∧ o = { rs := [.agg (ocs x y z)], nw := (⟨List.replicate 6 0, List.replicate 6 0, List.replicate 6 0⟩ : MM).ol x y z }) := by
  refine callF_of' Tryz.func87 rfl Tryz.ntmps87 (by simp) ?_
  intro f0 B ns Q hB hns hQ
  obtain ⟨x, y, z, rfl⟩ : ∃ x y z, ns = [x, y, z] := by
    match ns, hns with
    | [x, y, z], _ => exact ⟨x, y, z, rfl⟩
  refine wpM_seq ?_
  refine wpM_regionK [0] rfl ?_; intro Q1 hQ1
  refine S_ ?_
  refine hQ1 _ _ ?_; clear hQ1 Q1
  refine S_ ?_
  refine wpM_seq ?_
  refine wpM_keep [0] (wpM_dr mixed 3 1 [B, B + 1, B + 2, B + 3] [⟨[], [], [], [1], false⟩, ⟨[], [], [], [2], false⟩, ⟨[], [], [], [3], false⟩, ⟨[1, 2, 3], [], [], [], false⟩, ⟨[0, 4], [0], [0], [], false⟩] [0, 1, 2, 3, 4] [[], [], [], [0, 1, 2], [0, 1, 2, 3]] 4 rfl (by simp) (by decide +kernel) (by simp) ?_)
  intro O A K hO hA hK; simp only [atL_cons, atL_nil, Nat.reduceAdd, Nat.zero_add] at hO hA
  refine SO_ ?_
  refine hK _ ?_; clear hK K hO hA O A
  refine S_ ?_
  have e6 : [PV.int .i64 0, .int .i64 0, .int .i64 0, .int .i64 0, .int .i64 0, .int .i64 0] = ints (List.replicate 6 0) := rfl
  rw [e6]
  refine wpM_ret ?_
  try refine S_ ?_
  refine hQ _ _ (retK [B + 1, B + 2, B + 3] [] ((⟨List.replicate 6 0, List.replicate 6 0, List.replicate 6 0⟩ : MM).ol x y z) rfl rfl rfl (by rw [Tryz.results87]; simp (maxSteps := 1000000) -implicitDefEqProofs (disch := omega) only [go_sem] <;> rfl) ?_ ⟨x, y, z, rfl, rfl⟩ ?_ ?_ ?_ ?_ ?_ ?_)
  all_goals (first | (simp -implicitDefEqProofs (disch := omega) only [go_sem, List.nodup_cons, List.nodup_nil, true_or, or_true, List.mem_cons, List.not_mem_nil]; done) | (simp -implicitDefEqProofs (disch := omega) only [go_sem, List.nodup_cons, List.nodup_nil, true_or, or_true, List.mem_cons, List.not_mem_nil]; omega))
theorem l2Mem_ok (id : Nat) (bs : List Nat) (q : Int) (hbs : Bs bs) (hq0 : 0 ≤ q) (hq : q + 12 ≤ 1000000000000) : CallF Tryz.prog 36 [.ptr id 0] [(id, rdObj bs q)] 3 (fun ns o => ∃ x y z m q', ns = [x, y, z] ∧ MM.Six m ∧ q ≤ q' ∧ q' ≤ q + 12 ∧ o = { rs := [.agg (ocs x y z)], u := [(id, some (rdObj bs q'))], nw := m.ol x y z }) := by
  refine callF_of' Tryz.func36 rfl Tryz.ntmps36 (by simp) ?_
  intro f0 B ns Q hB hns hQ
  have hid : id < B := hB id (by simp [hasKey, lk])
  obtain ⟨x, y, z, rfl⟩ : ∃ x y z, ns = [x, y, z] := by
    match ns, hns with
    | [x, y, z], _ => exact ⟨x, y, z, rfl⟩
  refine wpM_seq ?_
  refine wpM_regionK [0, 2] rfl ?_; intro Q1 hQ1
  refine S_ ?_
  refine hQ1 _ _ ?_; clear hQ1 Q1
  refine S_ ?_
  refine wpM_seq ?_
  refine wpM_regionK [0, 2, 3] rfl ?_; intro Q1 hQ1
  refine S_ ?_
  refine call_fn (l := []) (first := []) (cap := []) (ps := []) (memOpen_ok) Tryz.call87 rfl rfl rfl T_ T_ ?_
  rintro out ⟨x', y', z', ⟨⟩, rfl⟩
  refine S_ ?_
  refine hQ1 _ _ ?_; clear hQ1 Q1
  refine S_ ?_
  refine wpM_seq ?_
  refine wpM_seq ?_
  refine wpM_regionK [0, 2, 3, 4] rfl ?_; intro Q1 hQ1
  refine S_ ?_
  refine hQ1 _ _ ?_; clear hQ1 Q1
  refine S_ ?_
  refine wpM_block ?_
  refine wpM_loopS (fun s n s' => ∃ (i0 M0 : Nat) (m : MM) (q' : Int), i0 + n = 4 ∧ s.M ≤ M0 ∧ (MM.Six m ∧ q ≤ q' ∧ q' ≤ q + 3 * (i0 : Int)) ∧ s' = { s with env := setE 4 (.int .i64 (i0 : Nat)) s.env, l := setl id (rdObj bs q') (setl (B + 1) (.cells 3 (ints m.i)) (setl (B + 2) (.cells 3 (ints m.o)) (setl (B + 3) (.cells 3 (ints m.v)) s.l))), M := M0 }) (4) ?_ ?_
  ·
    refine .of' _ _ ⟨0, _, (⟨List.replicate 6 0, List.replicate 6 0, List.replicate 6 0⟩ : MM), q, by omega, Nat.le_refl _, ⟨⟨rfl, rfl, rfl⟩, by omega, by omega⟩, rfl⟩ ?_ ?_ ?_ <;> (first | (simp -implicitDefEqProofs (disch := omega) only [go_sem, PV.int.injEq, Int.natCast_add, Int.natCast_one, Int.natCast_zero, true_or, le_yes]; done) | rfl | trivial | (simp -implicitDefEqProofs (disch := omega) only [go_sem, PV.int.injEq, Int.natCast_add, Int.natCast_one, Int.natCast_zero, true_or]; simp; done) | (simp; done))
  rintro n0 s' ⟨i0, M0, m, q', hi0, hM0, hv0, rfl⟩
  try dsimp only at hM0
  try refine S_ ?_
  refine wpM_seq ?_
  refine wpM_seq ?_
  refine wpM_regionK [0, 2, 3, 4, 7] rfl ?_; intro Q1 hQ1
  refine S_ ?_
  refine hQ1 _ _ ?_; clear hQ1 Q1
  refine S_ ?_
  refine wpM_condK ?_
  refine S_ ?_
  refine ⟨fun hc0 => ?_, fun hc0 => ?_⟩
  ·
    have hl0 : i0 < 4 := by omega
    obtain ⟨hm6, hqa, hqb⟩ := hv0
    have e1 := hm6.i
    have e2 := hm6.o
    have e3 := hm6.v
    refine wpM_skip ?_
    refine S_ ?_
    refine wpM_seq ?_
    refine wpM_block ?_
    refine wpM_seq ?_
    refine wpM_keep [0, 2, 3, 4] (wpM_dr mixed 1 3 [B + 4, B + 1, id, M0] [⟨[3], [], [], [], false⟩, ⟨[10], [0], [], [], false⟩, ⟨[4], [], [], [], false⟩, ⟨[0], [], [], [], false⟩, ⟨[], [], [], [3], false⟩, ⟨[13, 14], [2, 3], [2], [], true⟩, ⟨[11, 12], [], [], [], false⟩, ⟨[15, 16], [1], [1], [], false⟩] [0, 1, 2, 3, 4, 5, 6, 7] [[], [0], [], [], [], [3, 4], [0, 1, 2, 3, 4, 5], [0, 1, 2, 3, 4, 5, 6]] 4 rfl (by simp; omega) (by decide +kernel) (by simp) ?_)
    intro O A K hO hA hK; simp only [atL_cons, atL_nil, Nat.reduceAdd, Nat.zero_add] at hO hA
    refine SO_ ?_
    refine loud_fn (first := []) (cap := []) (ps := [.ptr id 0, .sl 3 M0 0 7]) (l := [(id, rdObj bs (q')), (M0, .cells 3 (ints [0, 0, 1, 1, 2, 5, -1]))]) (num_ok id M0 bs (q') [0, 0, 1, 1, 2, 5, -1] 7 rfl (by omega) (by omega) (by omega) hbs (by omega) (by omega)) Tryz.call74 rfl rfl F_ (subG_spec (by simp -implicitDefEqProofs (disch := omega) only [go_sem, ints, List.map_cons, List.map_nil])) rfl ?_
    rintro out ⟨k1, rfl, hk1⟩
    refine ⟨rfl, ?_⟩
    refine SO_ ?_
    refine hK _ ?_; clear hK K hO hA O A
    refine S_ ?_
    refine wpM_seq ?_
    refine wpM_keep [0, 2, 3, 4] (wpM_dr mixed 1 3 [B + 4, B + 2, id, M0 + 1] [⟨[3], [], [], [], false⟩, ⟨[17], [0], [], [], false⟩, ⟨[4], [], [], [], false⟩, ⟨[0], [], [], [], false⟩, ⟨[], [], [], [3], false⟩, ⟨[20, 21], [2, 3], [2], [], true⟩, ⟨[18, 19], [], [], [], false⟩, ⟨[22, 23], [1], [1], [], false⟩] [0, 1, 2, 3, 4, 5, 6, 7] [[], [0], [], [], [], [3, 4], [0, 1, 2, 3, 4, 5], [0, 1, 2, 3, 4, 5, 6]] 4 rfl (by simp; omega) (by decide +kernel) (by simp) ?_)
    intro O A K hO hA hK; simp only [atL_cons, atL_nil, Nat.reduceAdd, Nat.zero_add] at hO hA
    refine SO_ ?_
    refine loud_fn (first := []) (cap := []) (ps := [.ptr id 0, .sl 3 (M0 + 1) 0 4]) (l := [(id, rdObj bs (q' + 1)), ((M0 + 1), .cells 3 (ints [0, 0, 1, 3]))]) (num_ok id (M0 + 1) bs (q' + 1) [0, 0, 1, 3] 4 rfl (by omega) (by omega) (by omega) hbs (by omega) (by omega)) Tryz.call74 rfl rfl F_ (subG_spec (by simp -implicitDefEqProofs (disch := omega) only [go_sem, ints, List.map_cons, List.map_nil])) rfl ?_
    rintro out ⟨k2, rfl, hk2⟩
    refine ⟨rfl, ?_⟩
    refine SO_ ?_
    refine hK _ ?_; clear hK K hO hA O A
    refine S_ ?_
    refine wpM_keep [0, 2, 3, 4] (wpM_dr mixed 1 3 [B + 4, B + 3, id, M0 + 2] [⟨[3], [], [], [], false⟩, ⟨[24], [0], [], [], false⟩, ⟨[4], [], [], [], false⟩, ⟨[0], [], [], [], false⟩, ⟨[], [], [], [3], false⟩, ⟨[27, 28], [2, 3], [2], [], true⟩, ⟨[25, 26], [], [], [], false⟩, ⟨[29, 30], [1], [1], [], false⟩] [0, 1, 2, 3, 4, 5, 6, 7] [[], [0], [], [], [], [3, 4], [0, 1, 2, 3, 4, 5], [0, 1, 2, 3, 4, 5, 6]] 4 rfl (by simp; omega) (by decide +kernel) (by simp) ?_)
    intro O A K hO hA hK; simp only [atL_cons, atL_nil, Nat.reduceAdd, Nat.zero_add] at hO hA
    refine SO_ ?_
    refine loud_fn (first := []) (cap := []) (ps := [.ptr id 0, .sl 3 (M0 + 2) 0 6]) (l := [(id, rdObj bs (q' + 1 + 1)), ((M0 + 2), .cells 3 (ints [0, 0, 1, 2, 7, 1000000]))]) (num_ok id (M0 + 2) bs (q' + 1 + 1) [0, 0, 1, 2, 7, 1000000] 6 rfl (by omega) (by omega) (by omega) hbs (by omega) (by omega)) Tryz.call74 rfl rfl F_ (subG_spec (by simp -implicitDefEqProofs (disch := omega) only [go_sem, ints, List.map_cons, List.map_nil])) rfl ?_
    rintro out ⟨k3, rfl, hk3⟩
    refine ⟨rfl, ?_⟩
    refine SO_ ?_
    refine hK _ ?_; clear hK K hO hA O A
    refine S_ ?_
    refine wpM_regionK [0, 2, 3, 4] rfl ?_; intro Q1 hQ1
    refine S_ ?_
    refine hQ1 _ _ ?_; clear hQ1 Q1
    refine S_ ?_
    refine .of' _ _ ⟨n0 - 1, by omega, i0 + 1, _, ⟨m.i.set i0 k1, m.o.set i0 k2, m.v.set i0 k3⟩, q' + 1 + 1 + 1, by omega, ?_, ?_, rfl⟩ ?_ ?_ ?_
    · first | omega | (simp -implicitDefEqProofs (disch := omega) only [go_sem]; done) | (simp -implicitDefEqProofs (disch := omega) only [go_sem]; omega)
    · exact ⟨⟨by simp [e1], by simp [e2], by simp [e3]⟩, by omega, by omega⟩
    all_goals (first | (simp -implicitDefEqProofs (disch := omega) only [go_sem, PV.int.injEq, Int.natCast_add, Int.natCast_one, Int.natCast_zero, true_or, le_yes]; done) | rfl | trivial | (simp -implicitDefEqProofs (disch := omega) only [go_sem, PV.int.injEq, Int.natCast_add, Int.natCast_one, Int.natCast_zero, true_or]; simp; done) | (simp; done))
  refine wpM_exit ?_
  refine S_ ?_
  refine wpM_seq ?_
  refine wpM_regionK [2] rfl ?_; intro Q1 hQ1
  refine S_ ?_
  refine hQ1 _ _ ?_; clear hQ1 Q1
  refine S_ ?_
  refine wpM_ret ?_
  try refine S_ ?_
  obtain ⟨hm6, hqa, hqb⟩ := hv0
  have e1 := hm6.i
  have e2 := hm6.o
  have e3 := hm6.v
  refine hQ _ _ (retK [B + 1, B + 2, B + 3] [(id, some (rdObj bs q'))] (m.ol x y z) rfl rfl rfl (by rw [Tryz.results36]; simp (maxSteps := 1000000) -implicitDefEqProofs (disch := omega) only [go_sem] <;> rfl) ?_ ⟨x, y, z, m, q', rfl, hm6, hqa, by omega, rfl⟩ ?_ ?_ ?_ ?_ ?_ ?_)
  all_goals (simp -implicitDefEqProofs (disch := omega) only [go_sem, rdObj, List.nodup_cons, List.nodup_nil, true_or, or_true, List.mem_cons, List.not_mem_nil] <;> omega)
theorem l2MemF_ok (id : Nat) (bs : List Nat) (q : Int) (hbs : Bs bs) (hq0 : 0 ≤ q) (hq : q + 12 ≤ 1000000000000) : RdF 36 [] id bs q 12 (fun v => ∃ m : MM, m.Six ∧ v = .agg m.cs) := by
  refine callF_of' Tryz.func36 rfl Tryz.ntmps36 (by simp) ?_
  intro f0 B ns Q hB hns hQ
  have hid : id < B := hB id (by simp [hasKey, lk])
  obtain rfl : ns = [] := List.eq_nil_of_length_eq_zero hns
  refine wpM_seq ?_
  refine wpM_regionK [0, 2] rfl ?_; intro Q1 hQ1
  refine S_ ?_
  refine hQ1 _ _ ?_; clear hQ1 Q1
  refine S_ ?_
  refine wpM_seq ?_
  refine wpM_regionK [0, 2, 3] rfl ?_; intro Q1 hQ1
  refine S_ ?_
  refine call_fn (l := []) (first := []) (cap := []) (ps := []) (memOpen_ok) Tryz.call87 rfl rfl rfl T_ T_ ?_
  rintro out ⟨x', y', z', ⟨⟩, rfl⟩
  refine S_ ?_
  refine hQ1 _ _ ?_; clear hQ1 Q1
  refine S_ ?_
  refine wpM_seq ?_
  refine wpM_seq ?_
  refine wpM_regionK [0, 2, 3, 4] rfl ?_; intro Q1 hQ1
  refine S_ ?_
  refine hQ1 _ _ ?_; clear hQ1 Q1
  refine S_ ?_
  refine wpM_block ?_
  refine wpM_loopS (fun s n s' => ∃ (i0 M0 : Nat) (m : MM) (q' : Int), i0 + n = 4 ∧ s.M ≤ M0 ∧ (MM.Six m ∧ q ≤ q' ∧ q' ≤ q + 3 * (i0 : Int)) ∧ s' = { s with env := setE 4 (.int .i64 (i0 : Nat)) s.env, l := setl id (rdObj bs q') (setl (B + 1) (.cells 3 (ints m.i)) (setl (B + 2) (.cells 3 (ints m.o)) (setl (B + 3) (.cells 3 (ints m.v)) s.l))), M := M0 }) (4) ?_ ?_
  ·
    refine .of' _ _ ⟨0, _, (⟨List.replicate 6 0, List.replicate 6 0, List.replicate 6 0⟩ : MM), q, by omega, Nat.le_refl _, ⟨⟨rfl, rfl, rfl⟩, by omega, by omega⟩, rfl⟩ ?_ ?_ ?_ <;> (first | (simp -implicitDefEqProofs (disch := omega) only [go_sem, PV.int.injEq, Int.natCast_add, Int.natCast_one, Int.natCast_zero, true_or, le_yes]; done) | rfl | trivial | (simp -implicitDefEqProofs (disch := omega) only [go_sem, PV.int.injEq, Int.natCast_add, Int.natCast_one, Int.natCast_zero, true_or]; simp; done) | (simp; done))
  rintro n0 s' ⟨i0, M0, m, q', hi0, hM0, hv0, rfl⟩
  try dsimp only at hM0
  try refine S_ ?_
  refine wpM_seq ?_
  refine wpM_seq ?_
  refine wpM_regionK [0, 2, 3, 4, 7] rfl ?_; intro Q1 hQ1
  refine S_ ?_
  refine hQ1 _ _ ?_; clear hQ1 Q1
  refine S_ ?_
  refine wpM_condK ?_
  refine S_ ?_
  refine ⟨fun hc0 => ?_, fun hc0 => ?_⟩
  ·
    have hl0 : i0 < 4 := by omega
    obtain ⟨hm6, hqa, hqb⟩ := hv0
    have e1 := hm6.i
    have e2 := hm6.o
    have e3 := hm6.v
    refine wpM_skip ?_
    refine S_ ?_
    refine wpM_seq ?_
    refine wpM_block ?_
    refine wpM_seq ?_
    refine wpM_keep [0, 2, 3, 4] (wpM_dr mixed 1 3 [B + 4, B + 1, id, M0] [⟨[3], [], [], [], false⟩, ⟨[10], [0], [], [], false⟩, ⟨[4], [], [], [], false⟩, ⟨[0], [], [], [], false⟩, ⟨[], [], [], [3], false⟩, ⟨[13, 14], [2, 3], [2], [], true⟩, ⟨[11, 12], [], [], [], false⟩, ⟨[15, 16], [1], [1], [], false⟩] [0, 1, 2, 3, 4, 5, 6, 7] [[], [0], [], [], [], [3, 4], [0, 1, 2, 3, 4, 5], [0, 1, 2, 3, 4, 5, 6]] 4 rfl (by simp; omega) (by decide +kernel) (by simp) ?_)
    intro O A K hO hA hK; simp only [atL_cons, atL_nil, Nat.reduceAdd, Nat.zero_add] at hO hA
    refine SO_ ?_
    refine loud_fn (first := []) (cap := []) (ps := [.ptr id 0, .sl 3 M0 0 7]) (l := [(id, rdObj bs (q')), (M0, .cells 3 (ints [0, 0, 1, 1, 2, 5, -1]))]) (num_ok id M0 bs (q') [0, 0, 1, 1, 2, 5, -1] 7 rfl (by omega) (by omega) (by omega) hbs (by omega) (by omega)) Tryz.call74 rfl rfl F_ (subG_spec (by simp -implicitDefEqProofs (disch := omega) only [go_sem, ints, List.map_cons, List.map_nil])) rfl ?_
    rintro out ⟨k1, rfl, hk1⟩
    refine ⟨rfl, ?_⟩
    refine SO_ ?_
    refine hK _ ?_; clear hK K hO hA O A
    refine S_ ?_
    refine wpM_seq ?_
    refine wpM_keep [0, 2, 3, 4] (wpM_dr mixed 1 3 [B + 4, B + 2, id, M0 + 1] [⟨[3], [], [], [], false⟩, ⟨[17], [0], [], [], false⟩, ⟨[4], [], [], [], false⟩, ⟨[0], [], [], [], false⟩, ⟨[], [], [], [3], false⟩, ⟨[20, 21], [2, 3], [2], [], true⟩, ⟨[18, 19], [], [], [], false⟩, ⟨[22, 23], [1], [1], [], false⟩] [0, 1, 2, 3, 4, 5, 6, 7] [[], [0], [], [], [], [3, 4], [0, 1, 2, 3, 4, 5], [0, 1, 2, 3, 4, 5, 6]] 4 rfl (by simp; omega) (by decide +kernel) (by simp) ?_)
    intro O A K hO hA hK; simp only [atL_cons, atL_nil, Nat.reduceAdd, Nat.zero_add] at hO hA
    refine SO_ ?_
    refine loud_fn (first := []) (cap := []) (ps := [.ptr id 0, .sl 3 (M0 + 1) 0 4]) (l := [(id, rdObj bs (q' + 1)), ((M0 + 1), .cells 3 (ints [0, 0, 1, 3]))]) (num_ok id (M0 + 1) bs (q' + 1) [0, 0, 1, 3] 4 rfl (by omega) (by omega) (by omega) hbs (by omega) (by omega)) Tryz.call74 rfl rfl F_ (subG_spec (by simp -implicitDefEqProofs (disch := omega) only [go_sem, ints, List.map_cons, List.map_nil])) rfl ?_
    rintro out ⟨k2, rfl, hk2⟩
    refine ⟨rfl, ?_⟩
    refine SO_ ?_
    refine hK _ ?_; clear hK K hO hA O A
    refine S_ ?_
    refine wpM_keep [0, 2, 3, 4] (wpM_dr mixed 1 3 [B + 4, B + 3, id, M0 + 2] [⟨[3], [], [], [], false⟩, ⟨[24], [0], [], [], false⟩, ⟨[4], [], [], [], false⟩, ⟨[0], [], [], [], false⟩, ⟨[], [], [], [3], false⟩, ⟨[27, 28], [2, 3], [2], [], true⟩, ⟨[25, 26], [], [], [], false⟩, ⟨[29, 30], [1], [1], [], false⟩] [0, 1, 2, 3, 4, 5, 6, 7] [[], [0], [], [], [], [3, 4], [0, 1, 2, 3, 4, 5], [0, 1, 2, 3, 4, 5, 6]] 4 rfl (by simp; omega) (by decide +kernel) (by simp) ?_)
    intro O A K hO hA hK; simp only [atL_cons, atL_nil, Nat.reduceAdd, Nat.zero_add] at hO hA
    refine SO_ ?_
    refine loud_fn (first := []) (cap := []) (ps := [.ptr id 0, .sl 3 (M0 + 2) 0 6]) (l := [(id, rdObj bs (q' + 1 + 1)), ((M0 + 2), .cells 3 (ints [0, 0, 1, 2, 7, 1000000]))]) (num_ok id (M0 + 2) bs (q' + 1 + 1) [0, 0, 1, 2, 7, 1000000] 6 rfl (by omega) (by omega) (by omega) hbs (by omega) (by omega)) Tryz.call74 rfl rfl F_ (subG_spec (by simp -implicitDefEqProofs (disch := omega) only [go_sem, ints, List.map_cons, List.map_nil])) rfl ?_
    rintro out ⟨k3, rfl, hk3⟩
    refine ⟨rfl, ?_⟩
    refine SO_ ?_
    refine hK _ ?_; clear hK K hO hA O A
    refine S_ ?_
    refine wpM_regionK [0, 2, 3, 4] rfl ?_; intro Q1 hQ1
    refine S_ ?_
    refine hQ1 _ _ ?_; clear hQ1 Q1
    refine S_ ?_
    refine .of' _ _ ⟨n0 - 1, by omega, i0 + 1, _, ⟨m.i.set i0 k1, m.o.set i0 k2, m.v.set i0 k3⟩, q' + 1 + 1 + 1, by omega, ?_, ?_, rfl⟩ ?_ ?_ ?_
    · first | omega | (simp -implicitDefEqProofs (disch := omega) only [go_sem]; done) | (simp -implicitDefEqProofs (disch := omega) only [go_sem]; omega)
    · exact ⟨⟨by simp [e1], by simp [e2], by simp [e3]⟩, by omega, by omega⟩
    all_goals (first | (simp -implicitDefEqProofs (disch := omega) only [go_sem, PV.int.injEq, Int.natCast_add, Int.natCast_one, Int.natCast_zero, true_or, le_yes]; done) | rfl | trivial | (simp -implicitDefEqProofs (disch := omega) only [go_sem, PV.int.injEq, Int.natCast_add, Int.natCast_one, Int.natCast_zero, true_or]; simp; done) | (simp; done))
  refine wpM_exit ?_
  refine S_ ?_
  refine wpM_seq ?_
  obtain ⟨hm6, hqa, hqb⟩ := hv0
  refine wpM_frz [B + 1, B + 2, B + 3] (m.tb (B + 1) (B + 2) (B + 3)) (by intro q hq; simp at hq; rcases hq with rfl | rfl | rfl <;> simp -implicitDefEqProofs (disch := omega) only [go_sem]) (m.frz hm6 T_ T_ T_) ?_
  simp -implicitDefEqProofs (disch := omega) only [go_sem, MM.tb, rdObj]
  refine wpM_regionK [2] rfl ?_; intro Q1 hQ1
  refine S_ ?_
  refine hQ1 _ _ ?_; clear hQ1 Q1
  refine S_ ?_
  refine wpM_ret ?_
  try refine S_ ?_
  refine hQ _ _ (ret0 [(id, some (rdObj bs q'))] rfl rfl rfl (by rw [Tryz.results36]; simp (maxSteps := 1000000) -implicitDefEqProofs (disch := omega) only [go_sem] <;> rfl) ⟨_, q', ⟨m, hm6, rfl⟩, hqa, by omega, rfl⟩ ?_ ?_ ?_ ?_)
  all_goals simp -implicitDefEqProofs (disch := omega) only [go_sem, rdObj, true_or, or_true]
def tb3 (x na : Nat) (a : List Int) (y nb : Nat) (b : List Int) (z nc : Nat) (c : List Int) : List (TypeId × Nat × Nat × Nat × List (List PV)) := [(3, x, 0, na, rowsI (a.take na)), (3, y, 0, nb, rowsI (b.take nb)), (3, z, 0, nc, rowsI (c.take nc))]
theorem rowsOf_intsP {f : Nat → Option AObj} {id n : Nat} {T : TypeId} {l : List Int} (h : f id = some (.cells T (ints l))) (hn : n ≤ l.length) : RowsOf Tryz.prog f 3 id 0 n (rowsI (l.take n)) := by
  refine ⟨by rw [cellsOf3]; omega, by simp [rowsI]; omega, ?_, T, _, h, ?_, ?_⟩
  · intro c hc
    simp only [rowsI, List.mem_map] at hc
    obtain ⟨x, _, rfl⟩ := hc
    rw [cellsOf3]; exact ⟨rfl, rfl⟩
  · rw [cellsOf3]; simp [ints]; omega
  · rw [cellsOf3, rowsI_flat]; simp [ints, List.map_take]
theorem frz3 {f : Nat → Option AObj} {x y z na nb nc : Nat} {a b c : List Int} (hx : f x = some (.cells 3 (ints a))) (hy : f y = some (.cells 3 (ints b))) (hz : f z = some (.cells 3 (ints c))) (ha : na ≤ a.length) (hb : nb ≤ b.length) (hc : nc ≤ c.length) :
    ∀ q ∈ tb3 x na a y nb b z nc c, q.2.1 ∈ [x, y, z] ∧ RowsOf Tryz.prog f q.1 q.2.1 q.2.2.1 q.2.2.2.1 q.2.2.2.2 := by
  intro q hq
  simp only [tb3, List.mem_cons, List.not_mem_nil, or_false] at hq
  rcases hq with rfl | rfl | rfl
  · exact ⟨by simp, rowsOf_intsP hx ha⟩
  · exact ⟨by simp, rowsOf_intsP hy hb⟩
  · exact ⟨by simp, rowsOf_intsP hz hc⟩
theorem l2MemBent_ok (id : Nat) (bs : List Nat) (q : Int) (hbs : Bs bs) (hq0 : 0 ≤ q) (hq : q + 13 ≤ 1000000000000) : RdF 37 [] id bs q 13 (fun v => ∃ m : MM, m.Sm ∧ v = .agg m.cs) := by
  refine callF_of' Tryz.func37 rfl Tryz.ntmps37 (by simp) ?_
  intro f0 B ns Q hB hns hQ
  have hid : id < B := hB id (by simp [hasKey, lk])
  obtain rfl : ns = [] := List.eq_nil_of_length_eq_zero hns
  refine wpM_seq ?_
  refine wpM_regionK [0, 2] rfl ?_; intro Q1 hQ1
  refine S_ ?_
  refine hQ1 _ _ ?_; clear hQ1 Q1
  refine S_ ?_
  refine wpM_seq ?_
  refine wpM_regionK [0, 2, 3] rfl ?_; intro Q1 hQ1
  refine S_ ?_
  refine call_fn (l := [(id, rdObj bs q)]) (first := []) (cap := []) (ps := [.ptr id 0]) (l2Mem_ok id bs q hbs hq0 (by omega)) Tryz.call36 rfl rfl rfl T_ T_ ?_
  rintro out ⟨x', y', z', m, q', ⟨⟩, hm6, hqa, hqb, rfl⟩
  refine S_ ?_
  have e1 := hm6.i
  have e2 := hm6.o
  have e3 := hm6.v
  refine hQ1 _ _ ?_; clear hQ1 Q1
  refine S_ ?_
  refine wpM_seq ?_
  refine wpM_seq ?_
  refine wpM_regionK [2, 3, 7] rfl ?_; intro Q1 hQ1
  refine S_ ?_
  refine call_fn (l := [(id, rdObj bs q')]) (first := []) (cap := []) (ps := [.ptr id 0, .int .i64 30]) (pick_ok id bs q' 30 hbs (by omega) (by omega) (by omega)) Tryz.call33 rfl rfl rfl T_ T_ ?_
  rintro out ⟨k1, rfl, h1, h2, h3⟩
  refine S_ ?_
  refine hQ1 _ _ ?_; clear hQ1 Q1
  refine S_ ?_
  refine wpM_block ?_
  refine wpM_seq ?_
  refine wpM_regionK [2, 3, 7, 8] rfl ?_; intro Q1 hQ1
  refine S_ ?_
  refine hQ1 _ _ ?_; clear hQ1 Q1
  refine S_ ?_
  refine wpM_condK ?_
  refine S_ ?_
  refine ⟨fun hc0 => ?_, fun hc0 => ?_⟩
  ·
    refine wpM_regionK [2, 3] rfl ?_; intro Q1 hQ1
    refine S_ ?_
    refine hQ1 _ _ ?_; clear hQ1 Q1
    refine S_ ?_
    refine wpM_frz [B + 1, B + 2, B + 3] (tb3 (B + 1) 2 m.i (B + 2) 6 m.o (B + 3) 6 m.v) (by intro q hq; simp at hq; rcases hq with rfl | rfl | rfl <;> simp -implicitDefEqProofs (disch := omega) only [go_sem]) (frz3 T_ T_ T_ (by omega) (by omega) (by omega)) ?_
    simp -implicitDefEqProofs (disch := omega) only [go_sem, tb3, rdObj]
    refine wpM_seq ?_
    refine wpM_regionK [2] rfl ?_; intro Q1 hQ1
    refine S_ ?_
    refine hQ1 _ _ ?_; clear hQ1 Q1
    refine S_ ?_
    refine wpM_ret ?_
    try refine S_ ?_
    refine hQ _ _ (ret0 [(id, some (rdObj bs (q' + 1)))] rfl rfl rfl (by rw [Tryz.results37]; simp (maxSteps := 1000000) -implicitDefEqProofs (disch := omega) only [go_sem] <;> rfl) ⟨_, q' + 1, ⟨⟨_, _, _⟩, ⟨?_, ?_, ?_⟩, rfl⟩, by omega, by omega, rfl⟩ ?_ ?_ ?_ ?_)
    all_goals (first | (simp -implicitDefEqProofs (disch := omega) only [go_sem, rdObj, true_or, or_true]; done) | (simp only [List.length_take, List.length_set, List.length_append, List.length_cons, List.length_nil]; omega))
  refine wpM_seq ?_
  refine wpM_regionK [2, 3, 7, 14] rfl ?_; intro Q1 hQ1
  refine S_ ?_
  refine hQ1 _ _ ?_; clear hQ1 Q1
  refine S_ ?_
  refine wpM_condK ?_
  refine S_ ?_
  refine ⟨fun hc1 => ?_, fun hc1 => ?_⟩
  ·
    refine wpM_regionK [2, 3] rfl ?_; intro Q1 hQ1
    refine S_ ?_
    refine hQ1 _ _ ?_; clear hQ1 Q1
    refine S_ ?_
    refine wpM_frz [B + 1, B + 2, B + 3] (tb3 (B + 1) 6 m.i (B + 2) 6 m.o (B + 3) 6 (m.v.set 0 1000001)) (by intro q hq; simp at hq; rcases hq with rfl | rfl | rfl <;> simp -implicitDefEqProofs (disch := omega) only [go_sem]) (frz3 T_ T_ T_ (by omega) (by omega) (by simp; omega)) ?_
    simp -implicitDefEqProofs (disch := omega) only [go_sem, tb3, rdObj]
    refine wpM_seq ?_
    refine wpM_regionK [2] rfl ?_; intro Q1 hQ1
    refine S_ ?_
    refine hQ1 _ _ ?_; clear hQ1 Q1
    refine S_ ?_
    refine wpM_ret ?_
    try refine S_ ?_
    refine hQ _ _ (ret0 [(id, some (rdObj bs (q' + 1)))] rfl rfl rfl (by rw [Tryz.results37]; simp (maxSteps := 1000000) -implicitDefEqProofs (disch := omega) only [go_sem] <;> rfl) ⟨_, q' + 1, ⟨⟨_, _, _⟩, ⟨?_, ?_, ?_⟩, rfl⟩, by omega, by omega, rfl⟩ ?_ ?_ ?_ ?_)
    all_goals (first | (simp -implicitDefEqProofs (disch := omega) only [go_sem, rdObj, true_or, or_true]; done) | (simp only [List.length_take, List.length_set, List.length_append, List.length_cons, List.length_nil]; omega))
  refine wpM_seq ?_
  refine wpM_regionK [2, 3, 19] rfl ?_; intro Q1 hQ1
  refine S_ ?_
  refine hQ1 _ _ ?_; clear hQ1 Q1
  refine S_ ?_
  refine wpM_condK ?_
  refine S_ ?_
  refine ⟨fun hc2 => ?_, fun hc2 => ?_⟩
  ·
    refine wpM_regionK [2, 3] rfl ?_; intro Q1 hQ1
    refine S_ ?_
    refine hQ1 _ _ ?_; clear hQ1 Q1
    refine S_ ?_
    refine wpM_frz [B + 1, B + 6, B + 3] (tb3 (B + 1) 6 m.i (B + 6) 7 (m.o ++ [0]) (B + 3) 6 m.v) (by intro q hq; simp at hq; rcases hq with rfl | rfl | rfl <;> simp -implicitDefEqProofs (disch := omega) only [go_sem]) (frz3 T_ T_ T_ (by omega) (by simp; omega) (by omega)) ?_
    simp -implicitDefEqProofs (disch := omega) only [go_sem, tb3, rdObj]
    refine wpM_seq ?_
    refine wpM_regionK [2] rfl ?_; intro Q1 hQ1
    refine S_ ?_
    refine hQ1 _ _ ?_; clear hQ1 Q1
    refine S_ ?_
    refine wpM_ret ?_
    try refine S_ ?_
    refine hQ _ _ (ret0 [(id, some (rdObj bs (q' + 1)))] rfl rfl rfl (by rw [Tryz.results37]; simp (maxSteps := 1000000) -implicitDefEqProofs (disch := omega) only [go_sem] <;> rfl) ⟨_, q' + 1, ⟨⟨_, _, _⟩, ⟨?_, ?_, ?_⟩, rfl⟩, by omega, by omega, rfl⟩ ?_ ?_ ?_ ?_)
    all_goals (first | (simp -implicitDefEqProofs (disch := omega) only [go_sem, rdObj, true_or, or_true]; done) | (simp only [List.length_take, List.length_set, List.length_append, List.length_cons, List.length_nil]; omega))
  refine wpM_frz [B + 1, B + 2, B + 3] (tb3 (B + 1) 6 m.i (B + 2) 6 m.o (B + 3) 6 m.v) (by intro q hq; simp at hq; rcases hq with rfl | rfl | rfl <;> simp -implicitDefEqProofs (disch := omega) only [go_sem]) (frz3 T_ T_ T_ (by omega) (by omega) (by omega)) ?_
  simp -implicitDefEqProofs (disch := omega) only [go_sem, tb3, rdObj]
  refine wpM_skip ?_
  refine S_ ?_
  refine wpM_seq ?_
  refine wpM_regionK [2] rfl ?_; intro Q1 hQ1
  refine S_ ?_
  refine hQ1 _ _ ?_; clear hQ1 Q1
  refine S_ ?_
  refine wpM_ret ?_
  try refine S_ ?_
  refine hQ _ _ (ret0 [(id, some (rdObj bs (q' + 1)))] rfl rfl rfl (by rw [Tryz.results37]; simp (maxSteps := 1000000) -implicitDefEqProofs (disch := omega) only [go_sem] <;> rfl) ⟨_, q' + 1, ⟨⟨_, _, _⟩, ⟨?_, ?_, ?_⟩, rfl⟩, by omega, by omega, rfl⟩ ?_ ?_ ?_ ?_)
  all_goals (first | (simp -implicitDefEqProofs (disch := omega) only [go_sem, rdObj, true_or, or_true]; done) | (simp only [List.length_take, List.length_set, List.length_append, List.length_cons, List.length_nil]; omega))
theorem l2AddrBent_ok (id : Nat) (bs : List Nat) (q : Int) (hbs : Bs bs) (hq0 : 0 ≤ q) (hq : q + 4 ≤ 1000000000000) : RdF 76 [] id bs q 4 (fun v => ∃ a : AD, v = .agg a.cs) := by
  refine callF_of' Tryz.func76 rfl Tryz.ntmps76 (by simp) ?_
  intro f0 B ns Q hB hns hQ
  have hid : id < B := hB id (by simp [hasKey, lk])
  obtain rfl : ns = [] := List.eq_nil_of_length_eq_zero hns
  refine wpM_seq ?_
  refine wpM_regionK [0, 2] rfl ?_; intro Q1 hQ1
  refine S_ ?_
  refine hQ1 _ _ ?_; clear hQ1 Q1
  refine S_ ?_
  refine wpM_seq ?_
  refine wpM_regionK [0, 2, 3] rfl ?_; intro Q1 hQ1
  refine S_ ?_
  refine call_fn (l := [(id, rdObj bs q)]) (first := []) (cap := []) (ps := [.ptr id 0]) (l2Addr_ok id bs q hbs hq0 (by omega)) Tryz.call125 rfl rfl rfl T_ T_ ?_
  rintro out ⟨_, q', ⟨a, rfl⟩, hqa, hqb, rfl⟩
  refine S_ ?_
  refine hQ1 _ _ ?_; clear hQ1 Q1
  refine S_ ?_
  refine wpM_seq ?_
  refine wpM_seq ?_
  refine wpM_regionK [0, 2, 3, 7] rfl ?_; intro Q1 hQ1
  refine S_ ?_
  refine call_fn (l := [(id, rdObj bs q')]) (first := []) (cap := []) (ps := [.ptr id 0, .int .i64 16]) (pick_ok id bs q' 16 hbs (by omega) (by omega) (by omega)) Tryz.call33 rfl rfl rfl T_ T_ ?_
  rintro out ⟨k1, rfl, h1, h2, h3⟩
  refine S_ ?_
  refine hQ1 _ _ ?_; clear hQ1 Q1
  refine S_ ?_
  refine wpM_block ?_
  refine wpM_seq ?_
  refine wpM_regionK [0, 2, 3, 7, 8] rfl ?_; intro Q1 hQ1
  refine S_ ?_
  refine hQ1 _ _ ?_; clear hQ1 Q1
  refine S_ ?_
  refine wpM_condK ?_
  refine S_ ?_
  refine ⟨fun hc0 => ?_, fun hc0 => ?_⟩
  ·
    refine wpM_regionK [2, 3] rfl ?_; intro Q1 hQ1
    refine S_ ?_
    refine call_fn (l := [(id, rdObj bs (q' + 1)), (B + 2, .cells 3 (ints [0, 4, -1]))]) (first := []) (cap := []) (ps := [.ptr id 0, .sl 3 (B + 2) 0 3]) (num_ok id (B + 2) bs (q' + 1) [0, 4, -1] 3 rfl (by omega) (by omega) (by omega) hbs (by omega) (by omega)) Tryz.call74 rfl rfl rfl T_ (by simp -implicitDefEqProofs (disch := omega) only [go_sem, ints, List.map_cons, List.map_nil]) ?_
    rintro out ⟨k2, rfl, h4⟩
    refine S_ ?_
    refine hQ1 _ _ ?_; clear hQ1 Q1
    refine S_ ?_
    refine wpM_seq ?_
    refine wpM_regionK [2] rfl ?_; intro Q1 hQ1
    refine S_ ?_
    refine hQ1 _ _ ?_; clear hQ1 Q1
    refine S_ ?_
    refine wpM_ret ?_
    try refine S_ ?_
    first
    | refine hQ _ _ (ret0 [(id, some (rdObj bs (q' + 1 + 1)))] rfl rfl rfl (by rw [Tryz.results76]; simp (maxSteps := 1000000) -implicitDefEqProofs (disch := omega) only [go_sem] <;> rfl) ⟨_, q' + 1 + 1, ⟨⟨_, _⟩, rfl⟩, by omega, by omega, rfl⟩ ?_ ?_ ?_ ?_) <;> (simp -implicitDefEqProofs (disch := omega) only [go_sem, rdObj, true_or, or_true]; done)
    | refine hQ _ _ (ret0 [(id, some (rdObj bs (q' + 1)))] rfl rfl rfl (by rw [Tryz.results76]; simp (maxSteps := 1000000) -implicitDefEqProofs (disch := omega) only [go_sem] <;> rfl) ⟨_, q' + 1, ⟨⟨_, _⟩, rfl⟩, by omega, by omega, rfl⟩ ?_ ?_ ?_ ?_) <;> (simp -implicitDefEqProofs (disch := omega) only [go_sem, rdObj, true_or, or_true]; done)
  refine wpM_seq ?_
  refine wpM_regionK [0, 2, 3, 14] rfl ?_; intro Q1 hQ1
  refine S_ ?_
  refine hQ1 _ _ ?_; clear hQ1 Q1
  refine S_ ?_
  refine wpM_condK ?_
  refine S_ ?_
  refine ⟨fun hc1 => ?_, fun hc1 => ?_⟩
  ·
    refine wpM_regionK [2, 3] rfl ?_; intro Q1 hQ1
    refine S_ ?_
    refine call_fn (l := [(id, rdObj bs (q' + 1)), (B + 2, .cells 3 (ints [-1, 6, 5]))]) (first := []) (cap := []) (ps := [.ptr id 0, .sl 3 (B + 2) 0 3]) (num_ok id (B + 2) bs (q' + 1) [-1, 6, 5] 3 rfl (by omega) (by omega) (by omega) hbs (by omega) (by omega)) Tryz.call74 rfl rfl rfl T_ (by simp -implicitDefEqProofs (disch := omega) only [go_sem, ints, List.map_cons, List.map_nil]) ?_
    rintro out ⟨k2, rfl, h4⟩
    refine S_ ?_
    refine hQ1 _ _ ?_; clear hQ1 Q1
    refine S_ ?_
    refine wpM_seq ?_
    refine wpM_regionK [2] rfl ?_; intro Q1 hQ1
    refine S_ ?_
    refine hQ1 _ _ ?_; clear hQ1 Q1
    refine S_ ?_
    refine wpM_ret ?_
    try refine S_ ?_
    first
    | refine hQ _ _ (ret0 [(id, some (rdObj bs (q' + 1 + 1)))] rfl rfl rfl (by rw [Tryz.results76]; simp (maxSteps := 1000000) -implicitDefEqProofs (disch := omega) only [go_sem] <;> rfl) ⟨_, q' + 1 + 1, ⟨⟨_, _⟩, rfl⟩, by omega, by omega, rfl⟩ ?_ ?_ ?_ ?_) <;> (simp -implicitDefEqProofs (disch := omega) only [go_sem, rdObj, true_or, or_true]; done)
    | refine hQ _ _ (ret0 [(id, some (rdObj bs (q' + 1)))] rfl rfl rfl (by rw [Tryz.results76]; simp (maxSteps := 1000000) -implicitDefEqProofs (disch := omega) only [go_sem] <;> rfl) ⟨_, q' + 1, ⟨⟨_, _⟩, rfl⟩, by omega, by omega, rfl⟩ ?_ ?_ ?_ ?_) <;> (simp -implicitDefEqProofs (disch := omega) only [go_sem, rdObj, true_or, or_true]; done)
  refine wpM_skip ?_
  refine S_ ?_
  refine wpM_seq ?_
  refine wpM_regionK [2] rfl ?_; intro Q1 hQ1
  refine S_ ?_
  refine hQ1 _ _ ?_; clear hQ1 Q1
  refine S_ ?_
  refine wpM_ret ?_
  try refine S_ ?_
  first
  | refine hQ _ _ (ret0 [(id, some (rdObj bs (q' + 1 + 1)))] rfl rfl rfl (by rw [Tryz.results76]; simp (maxSteps := 1000000) -implicitDefEqProofs (disch := omega) only [go_sem] <;> rfl) ⟨_, q' + 1 + 1, ⟨⟨_, _⟩, rfl⟩, by omega, by omega, rfl⟩ ?_ ?_ ?_ ?_) <;> (simp -implicitDefEqProofs (disch := omega) only [go_sem, rdObj, true_or, or_true]; done)
  | refine hQ _ _ (ret0 [(id, some (rdObj bs (q' + 1)))] rfl rfl rfl (by rw [Tryz.results76]; simp (maxSteps := 1000000) -implicitDefEqProofs (disch := omega) only [go_sem] <;> rfl) ⟨_, q' + 1, ⟨⟨_, _⟩, rfl⟩, by omega, by omega, rfl⟩ ?_ ?_ ?_ ?_) <;> (simp -implicitDefEqProofs (disch := omega) only [go_sem, rdObj, true_or, or_true]; done)
end Go.Proofs.YtnilkkcobeaglaaGreat
namespace Go.Proofs.YtnilkkcobeaglaaGreat
open Go Sg
set_option maxRecDepth 100000
set_option linter.unusedSimpArgs false
set_option linter.unusedVariables false
set_option maxHeartbeats 4000000
def exc (l : List Ex) : List PV := (Ex.csL l).flatten
@[go_sem] theorem exc_len (l : List Ex) : (exc l).length = l.length * 5 := by
  induction l with
  | nil => rfl
  | cons e l ih => simp only [exc, Ex.csL, List.flatten_cons, List.length_append, Ex.cs_eq, List.length_cons, List.length_nil] at ih ⊢; omega
theorem exc_app (l : List Ex) (e : Ex) : exc l ++ e.cs = exc (l ++ [e]) := by
  simp [exc, Ex.csL_map]
theorem exc_one (e : Ex) : e.cs = exc [e] := by simp [exc, Ex.csL]
theorem csL_idsL (p : Nat → Prop) (e : Ex) : PV.idsL p e.cs = True := by rw [Ex.cs_eq]; simp [PV.idsL, PV.ids]
theorem idsL_app (p : Nat → Prop) (a b : List PV) : PV.idsL p (a ++ b) = (PV.idsL p a ∧ PV.idsL p b) := by
  induction a with
  | nil => simp [PV.idsL]
  | cons x a ih => simp only [List.cons_append, PV.idsL, ih, and_assoc]
@[go_sem] theorem exc_ids (p : Nat → Prop) (l : List Ex) : PV.idsL p (exc l) = True := by
  induction l with
  | nil => simp [exc, Ex.csL, PV.idsL]
  | cons e l ih => simp only [exc, Ex.csL, List.flatten_cons] at ih ⊢; rw [idsL_app, ih, csL_idsL]; simp
theorem renL_app (p : Nat → Nat) (a b : List PV) : PV.renL p (a ++ b) = PV.renL p a ++ PV.renL p b := by
  induction a with
  | nil => simp [PV.renL]
  | cons x a ih => simp only [List.cons_append, PV.renL, ih]
@[go_sem] theorem exc_ren (p : Nat → Nat) (l : List Ex) : PV.renL p (exc l) = exc l := by
  induction l with
  | nil => simp [exc, Ex.csL, PV.renL]
  | cons e l ih =>
    simp only [exc, Ex.csL, List.flatten_cons] at ih ⊢; rw [renL_app, ih]
    congr 1; rw [Ex.cs_eq]; simp [PV.renL, PV.ren]
theorem subL_app (θ : TypeId → Nat → Nat → Nat → Option PV) (a b : List PV) : PV.subL θ (a ++ b) = PV.subL θ a ++ PV.subL θ b := by
  induction a with
  | nil => simp [PV.subL]
  | cons x a ih => simp only [List.cons_append, PV.subL, ih]
@[go_sem] theorem exc_sub (θ : TypeId → Nat → Nat → Nat → Option PV) (l : List Ex) : PV.subL θ (exc l) = exc l := by
  induction l with
  | nil => simp [exc, Ex.csL, PV.subL]
  | cons e l ih => simp only [exc, Ex.csL, List.flatten_cons] at ih ⊢; rw [subL_app, ih, sub_flatE]
theorem rowsOf_exc {f : Nat → Option AObj} {id : Nat} {T : TypeId} {l : List Ex} (h : f id = some (.cells T (exc l))) : RowsOf Tryz.prog f 46 id 0 l.length (Ex.csL l) := by
  refine ⟨by rw [cellsOf46]; omega, by rw [Ex.csL_len], ?_, T, _, h, ?_, ?_⟩
  · intro c hc
    rw [Ex.csL_map, List.mem_map] at hc
    obtain ⟨x, _, rfl⟩ := hc
    rw [cellsOf46, Ex.cs_eq]; exact ⟨rfl, rfl⟩
  · rw [cellsOf46, exc_len]; omega
  · rw [cellsOf46, List.drop_zero, List.take_of_length_le (by rw [exc_len]; omega)]; rfl
theorem Ex.szL_app (l : List Ex) (e : Ex) : Ex.szL (l ++ [e]) = Ex.szL l + e.sz := by
  induction l with
  | nil => simp [Ex.szL]
  | cons x l ih => simp only [List.cons_append, Ex.szL, ih]; omega
@[go_sem] theorem Ex.mk_kind (k n : Int) (a : AD) (l : List Ex) : (Ex.mk k n a l).kind = k := rfl
@[go_sem] theorem Ex.mk_n (k n : Int) (a : AD) (l : List Ex) : (Ex.mk k n a l).n = n := rfl
@[go_sem] theorem Ex.mk_a (k n : Int) (a : AD) (l : List Ex) : (Ex.mk k n a l).a = a := rfl
@[go_sem] theorem Ex.mk_kids (k n : Int) (a : AD) (l : List Ex) : (Ex.mk k n a l).kids = l := rfl
@[go_sem] theorem Ex.csL_nil : Ex.csL [] = [] := rfl
def eb : Nat → Int
  | 0 => 4
  | d + 1 => 4 + 2 * eb d
def es : Nat → Nat
  | 0 => 1
  | d + 1 => 1 + 2 * es d
theorem eb_pos : ∀ d, 4 ≤ eb d
  | 0 => by simp [eb]
  | d + 1 => by have := eb_pos d; simp only [eb]; omega
theorem es_pos : ∀ d, 1 ≤ es d
  | 0 => by simp [es]
  | d + 1 => by have := es_pos d; simp only [es]; omega
def ExprD (d : Nat) (id : Nat) (bs : List Nat) (q dep : Int) : Prop := RdF 75 [.int .i64 dep] id bs q (eb d) (fun v => ∃ e : Ex, e.sz ≤ es d ∧ v = .agg e.cs)
theorem expr_leaf (d : Nat) (id : Nat) (bs : List Nat) (q dep : Int) (hbs : Bs bs) (hq0 : 0 ≤ q) (hq : q + eb d ≤ 1000000000000) (hd : decide (dep ≤ 1) = true) : ExprD d id bs q dep := by
  have hb4 := eb_pos d
  have hs1 := es_pos d
  refine callF_of' Tryz.func75 rfl Tryz.ntmps75 (by simp) ?_
  intro f0 B ns Q hB hns hQ
  have hid : id < B := hB id (by simp [hasKey, lk])
  obtain rfl : ns = [] := List.eq_nil_of_length_eq_zero hns
  refine wpM_seq ?_
  refine wpM_regionK [0, 1, 4] rfl ?_; intro Q1 hQ1
  refine S_ ?_
  refine hQ1 _ _ ?_; clear hQ1 Q1
  refine S_ ?_
  refine wpM_seq ?_
  refine wpM_seq ?_
  refine wpM_regionK [0, 1, 4, 13] rfl ?_; intro Q1 hQ1
  simp -implicitDefEqProofs (disch := omega) only [go_sem, hd]
  refine hQ1 _ _ ?_; clear hQ1 Q1
  refine S_ ?_
  refine wpM_condK ?_
  refine S_ ?_
  refine wpM_seq ?_
  refine wpM_seq ?_
  refine wpM_regionK [0, 4, 16] rfl ?_; intro Q1 hQ1
  refine S_ ?_
  refine call_fn (l := [(id, rdObj bs q)]) (first := []) (cap := []) (ps := [.ptr id 0, .int .i64 3]) (pick_ok id bs q 3 hbs (by omega) (by omega) (by omega)) Tryz.call33 rfl rfl rfl T_ T_ ?_
  rintro out ⟨k1, rfl, h1, h2, h3⟩
  refine S_ ?_
  refine hQ1 _ _ ?_; clear hQ1 Q1
  refine S_ ?_
  refine wpM_condK ?_
  refine S_ ?_
  refine ⟨fun hc1 => ?_, fun hc1 => ?_⟩
  ·
    refine wpM_seq ?_
    refine wpM_regionK [4] rfl ?_; intro Q1 hQ1
    refine S_ ?_
    refine call_fn (l := [(id, rdObj bs (q + 1)), (B + 1, .cells 3 (ints [0, 1, 2, 3, -1, 5, 1000000]))]) (first := []) (cap := []) (ps := [.ptr id 0, .sl 3 (B + 1) 0 7]) (num_ok id (B + 1) bs (q + 1) [0, 1, 2, 3, -1, 5, 1000000] 7 rfl (by omega) (by omega) (by omega) hbs (by omega) (by omega)) Tryz.call74 rfl rfl rfl T_ (by simp -implicitDefEqProofs (disch := omega) only [go_sem, ints, List.map_cons, List.map_nil]) ?_
    rintro out ⟨k2, rfl, h4⟩
    refine S_ ?_
    refine hQ1 _ _ ?_; clear hQ1 Q1
    refine S_ ?_
    refine wpM_le [(4, .ptr B 0)] [(B, .cells 46 (Ex.mk 1 k2 ⟨0, 0⟩ []).cs), (id, rdObj bs (q + 1 + 1))] T_ T_ T_ ?_
    refine wpM_ret ?_
    try refine S_ ?_
    first
    | refine hQ _ _ (ret0 [(id, some (rdObj bs (q + 1 + 1)))] rfl rfl rfl (by rw [Tryz.results75]; simp (maxSteps := 1000000) -implicitDefEqProofs (disch := omega) only [go_sem] <;> rfl) ⟨_, q + 1 + 1, ⟨Ex.mk 1 k2 ⟨0, 0⟩ [], by simpa [Ex.sz, Ex.szL] using hs1, rfl⟩, by omega, by omega, rfl⟩ ?_ ?_ ?_ ?_) <;> (simp -implicitDefEqProofs (disch := omega) only [go_sem, rdObj, true_or, or_true]; done)
    | refine hQ _ _ (ret0 [(id, some (rdObj bs q'))] rfl rfl rfl (by rw [Tryz.results75]; simp (maxSteps := 1000000) -implicitDefEqProofs (disch := omega) only [go_sem] <;> rfl) ⟨_, q', ⟨Ex.mk 2 0 a [], by simpa [Ex.sz, Ex.szL] using hs1, rfl⟩, by omega, by omega, rfl⟩ ?_ ?_ ?_ ?_) <;> (simp -implicitDefEqProofs (disch := omega) only [go_sem, rdObj, true_or, or_true]; done)
  refine wpM_skip ?_
  refine S_ ?_
  refine wpM_seq ?_
  refine wpM_regionK [4] rfl ?_; intro Q1 hQ1
  refine S_ ?_
  refine call_fn (l := [(id, rdObj bs (q + 1))]) (first := []) (cap := []) (ps := [.ptr id 0]) (l2Addr_ok id bs (q + 1) hbs (by omega) (by omega)) Tryz.call125 rfl rfl rfl T_ T_ ?_
  rintro out ⟨_, q', ⟨a, rfl⟩, hqa, hqb, rfl⟩
  refine S_ ?_
  refine hQ1 _ _ ?_; clear hQ1 Q1
  refine S_ ?_
  refine wpM_le [(4, .ptr B 0)] [(B, .cells 46 (Ex.mk 2 0 a []).cs), (id, rdObj bs q')] T_ T_ T_ ?_
  refine wpM_ret ?_
  try refine S_ ?_
  first
  | refine hQ _ _ (ret0 [(id, some (rdObj bs (q + 1 + 1)))] rfl rfl rfl (by rw [Tryz.results75]; simp (maxSteps := 1000000) -implicitDefEqProofs (disch := omega) only [go_sem] <;> rfl) ⟨_, q + 1 + 1, ⟨Ex.mk 1 k2 ⟨0, 0⟩ [], by simpa [Ex.sz, Ex.szL] using hs1, rfl⟩, by omega, by omega, rfl⟩ ?_ ?_ ?_ ?_) <;> (simp -implicitDefEqProofs (disch := omega) only [go_sem, rdObj, true_or, or_true]; done)
  | refine hQ _ _ (ret0 [(id, some (rdObj bs q'))] rfl rfl rfl (by rw [Tryz.results75]; simp (maxSteps := 1000000) -implicitDefEqProofs (disch := omega) only [go_sem] <;> rfl) ⟨_, q', ⟨Ex.mk 2 0 a [], by simpa [Ex.sz, Ex.szL] using hs1, rfl⟩, by omega, by omega, rfl⟩ ?_ ?_ ?_ ?_) <;> (simp -implicitDefEqProofs (disch := omega) only [go_sem, rdObj, true_or, or_true]; done)
theorem expr_node (d : Nat) (id : Nat) (bs : List Nat) (q dep : Int) (hbs : Bs bs) (hq0 : 0 ≤ q) (hq : q + eb (d + 1) ≤ 1000000000000) (hd : decide (dep ≤ 1) = false) (hdep : dep ≤ 1000000)
    (ih : ∀ q', 0 ≤ q' → q' + eb d ≤ 1000000000000 → ExprD d id bs q' (dep - 1)) : ExprD (d + 1) id bs q dep := by
  have hb4 := eb_pos d
  have hs1 := es_pos d
  have hb5 : eb (d + 1) = 4 + 2 * eb d := rfl
  have hdep1 : 1 < dep := by simpa using hd
  have hs5 : es (d + 1) = 1 + 2 * es d := rfl
  refine callF_of' Tryz.func75 rfl Tryz.ntmps75 (by simp) ?_
  intro f0 B ns Q hB hns hQ
  have hid : id < B := hB id (by simp [hasKey, lk])
  obtain rfl : ns = [] := List.eq_nil_of_length_eq_zero hns
  refine wpM_seq ?_
  refine wpM_regionK [0, 1, 4] rfl ?_; intro Q1 hQ1
  refine S_ ?_
  refine hQ1 _ _ ?_; clear hQ1 Q1
  refine S_ ?_
  refine wpM_seq ?_
  refine wpM_seq ?_
  refine wpM_regionK [0, 1, 4, 13] rfl ?_; intro Q1 hQ1
  simp -implicitDefEqProofs (disch := omega) only [go_sem, hd]
  refine call_fn (l := [(id, rdObj bs q)]) (first := []) (cap := []) (ps := [.ptr id 0, .int .i64 4]) (pick_ok id bs q 4 hbs (by omega) (by omega) (by omega)) Tryz.call33 rfl rfl rfl T_ T_ ?_
  rintro out ⟨k0, rfl, h01, h02, h03⟩
  simp -implicitDefEqProofs (disch := omega) only [go_sem, hd]
  refine hQ1 _ _ ?_; clear hQ1 Q1
  refine S_ ?_
  refine wpM_condK ?_
  refine S_ ?_
  refine ⟨fun hc0 => ?_, fun hc0 => ?_⟩
  ·
    refine wpM_seq ?_
    refine wpM_seq ?_
    refine wpM_regionK [0, 4, 16] rfl ?_; intro Q1 hQ1
    refine S_ ?_
    refine call_fn (l := [(id, rdObj bs (q + 1))]) (first := []) (cap := []) (ps := [.ptr id 0, .int .i64 3]) (pick_ok id bs (q + 1) 3 hbs (by omega) (by omega) (by omega)) Tryz.call33 rfl rfl rfl T_ T_ ?_
    rintro out ⟨k1, rfl, h1, h2, h3⟩
    refine S_ ?_
    refine hQ1 _ _ ?_; clear hQ1 Q1
    refine S_ ?_
    refine wpM_condK ?_
    refine S_ ?_
    refine ⟨fun hc1 => ?_, fun hc1 => ?_⟩
    ·
      refine wpM_seq ?_
      refine wpM_regionK [4] rfl ?_; intro Q1 hQ1
      refine S_ ?_
      refine call_fn (l := [(id, rdObj bs (q + 1 + 1)), (B + 1, .cells 3 (ints [0, 1, 2, 3, -1, 5, 1000000]))]) (first := []) (cap := []) (ps := [.ptr id 0, .sl 3 (B + 1) 0 7]) (num_ok id (B + 1) bs (q + 1 + 1) [0, 1, 2, 3, -1, 5, 1000000] 7 rfl (by omega) (by omega) (by omega) hbs (by omega) (by omega)) Tryz.call74 rfl rfl rfl T_ (by simp -implicitDefEqProofs (disch := omega) only [go_sem, ints, List.map_cons, List.map_nil]) ?_
      rintro out ⟨k2, rfl, h4⟩
      refine S_ ?_
      refine hQ1 _ _ ?_; clear hQ1 Q1
      refine S_ ?_
      refine wpM_le [(4, .ptr B 0)] [(B, .cells 46 (Ex.mk 1 k2 ⟨0, 0⟩ []).cs), (id, rdObj bs (q + 1 + 1 + 1))] T_ T_ T_ ?_
      refine wpM_ret ?_
      try refine S_ ?_
      first
      | refine hQ _ _ (ret0 [(id, some (rdObj bs (q + 1 + 1 + 1)))] rfl rfl rfl (by rw [Tryz.results75]; simp (maxSteps := 1000000) -implicitDefEqProofs (disch := omega) only [go_sem] <;> rfl) ⟨_, q + 1 + 1 + 1, ⟨Ex.mk 1 k2 ⟨0, 0⟩ [], by simp only [Ex.sz, Ex.szL]; omega, rfl⟩, by omega, by omega, rfl⟩ ?_ ?_ ?_ ?_) <;> (simp -implicitDefEqProofs (disch := omega) only [go_sem, rdObj, true_or, or_true]; done)
      | refine hQ _ _ (ret0 [(id, some (rdObj bs q'))] rfl rfl rfl (by rw [Tryz.results75]; simp (maxSteps := 1000000) -implicitDefEqProofs (disch := omega) only [go_sem] <;> rfl) ⟨_, q', ⟨Ex.mk 2 0 a [], by simp only [Ex.sz, Ex.szL]; omega, rfl⟩, by omega, by omega, rfl⟩ ?_ ?_ ?_ ?_) <;> (simp -implicitDefEqProofs (disch := omega) only [go_sem, rdObj, true_or, or_true]; done)
      | refine hQ _ _ (ret0 [(id, some (rdObj bs q'))] rfl rfl rfl (by rw [Tryz.results75]; simp (maxSteps := 1000000) -implicitDefEqProofs (disch := omega) only [go_sem] <;> rfl) ⟨_, q', ⟨Ex.mk k5 0 ⟨0, 0⟩ l, by (have : Ex.szL l ≤ 2 * es d := (by rcases hr with h | h <;> rw [h] at hsz <;> omega)); simp only [Ex.sz]; omega, rfl⟩, by omega, by omega, rfl⟩ ?_ ?_ ?_ ?_) <;> (simp -implicitDefEqProofs (disch := omega) only [go_sem, rdObj, true_or, or_true]; done)
    refine wpM_skip ?_
    refine S_ ?_
    refine wpM_seq ?_
    refine wpM_regionK [4] rfl ?_; intro Q1 hQ1
    refine S_ ?_
    refine call_fn (l := [(id, rdObj bs (q + 1 + 1))]) (first := []) (cap := []) (ps := [.ptr id 0]) (l2Addr_ok id bs (q + 1 + 1) hbs (by omega) (by omega)) Tryz.call125 rfl rfl rfl T_ T_ ?_
    rintro out ⟨_, q', ⟨a, rfl⟩, hqa, hqb, rfl⟩
    refine S_ ?_
    refine hQ1 _ _ ?_; clear hQ1 Q1
    refine S_ ?_
    refine wpM_le [(4, .ptr B 0)] [(B, .cells 46 (Ex.mk 2 0 a []).cs), (id, rdObj bs q')] T_ T_ T_ ?_
    refine wpM_ret ?_
    try refine S_ ?_
    first
    | refine hQ _ _ (ret0 [(id, some (rdObj bs (q + 1 + 1 + 1)))] rfl rfl rfl (by rw [Tryz.results75]; simp (maxSteps := 1000000) -implicitDefEqProofs (disch := omega) only [go_sem] <;> rfl) ⟨_, q + 1 + 1 + 1, ⟨Ex.mk 1 k2 ⟨0, 0⟩ [], by simp only [Ex.sz, Ex.szL]; omega, rfl⟩, by omega, by omega, rfl⟩ ?_ ?_ ?_ ?_) <;> (simp -implicitDefEqProofs (disch := omega) only [go_sem, rdObj, true_or, or_true]; done)
    | refine hQ _ _ (ret0 [(id, some (rdObj bs q'))] rfl rfl rfl (by rw [Tryz.results75]; simp (maxSteps := 1000000) -implicitDefEqProofs (disch := omega) only [go_sem] <;> rfl) ⟨_, q', ⟨Ex.mk 2 0 a [], by simp only [Ex.sz, Ex.szL]; omega, rfl⟩, by omega, by omega, rfl⟩ ?_ ?_ ?_ ?_) <;> (simp -implicitDefEqProofs (disch := omega) only [go_sem, rdObj, true_or, or_true]; done)
    | refine hQ _ _ (ret0 [(id, some (rdObj bs q'))] rfl rfl rfl (by rw [Tryz.results75]; simp (maxSteps := 1000000) -implicitDefEqProofs (disch := omega) only [go_sem] <;> rfl) ⟨_, q', ⟨Ex.mk k5 0 ⟨0, 0⟩ l, by (have : Ex.szL l ≤ 2 * es d := (by rcases hr with h | h <;> rw [h] at hsz <;> omega)); simp only [Ex.sz]; omega, rfl⟩, by omega, by omega, rfl⟩ ?_ ?_ ?_ ?_) <;> (simp -implicitDefEqProofs (disch := omega) only [go_sem, rdObj, true_or, or_true]; done)
  refine wpM_skip ?_
  refine S_ ?_
  refine wpM_seq ?_
  refine wpM_regionK [0, 1, 4, 5] rfl ?_; intro Q1 hQ1
  refine S_ ?_
  refine call_fn (l := [(id, rdObj bs (q + 1)), (B + 1, .cells 3 (ints [3, 3, 4, 5, 6, 6, 7, 8, 9, 10]))]) (first := []) (cap := []) (ps := [.ptr id 0, .sl 3 (B + 1) 0 10]) (num_ok id (B + 1) bs (q + 1) [3, 3, 4, 5, 6, 6, 7, 8, 9, 10] 10 rfl (by omega) (by omega) (by omega) hbs (by omega) (by omega)) Tryz.call74 rfl rfl rfl T_ (by simp -implicitDefEqProofs (disch := omega) only [go_sem, ints, List.map_cons, List.map_nil]) ?_
  rintro out ⟨k5, rfl, h5⟩
  refine S_ ?_
  refine hQ1 _ _ ?_; clear hQ1 Q1
  refine S_ ?_
  refine wpM_seq ?_
  refine wpM_seq ?_
  refine wpM_regionK [0, 1, 4, 5, 6] rfl ?_; intro Q1 hQ1
  refine S_ ?_
  refine call_p (l3Kids_ok k5) Tryz.call108 rfl rfl rfl (by first | rfl | (simp -implicitDefEqProofs (disch := omega) only [go_sem] <;> rfl)) ?_
  refine S_ ?_
  refine hQ1 _ _ ?_; clear hQ1 Q1
  refine S_ ?_
  obtain ⟨n, hkn, hn1, hn2⟩ : ∃ n : Nat, kidsN k5 = (n : Int) ∧ 1 ≤ n ∧ n ≤ 2 := by
    simp only [List.mem_cons, List.not_mem_nil, or_false] at h5
    rcases h5 with rfl | rfl | rfl | rfl | rfl | rfl | rfl | rfl | rfl | rfl <;> first | exact ⟨2, rfl, by omega, by omega⟩ | exact ⟨1, rfl, by omega, by omega⟩
  rw [hkn]
  refine wpM_block ?_
  refine wpM_loopS (fun s r s' => (r = n ∧ s' = s) ∨ ∃ (M0 y : Nat) (l : List Ex) (q' : Int), 0 < l.length ∧ l.length + r = n ∧ s.M ≤ y ∧ y < M0 ∧ Ex.szL l ≤ l.length * es d ∧ q + 2 ≤ q' ∧ q' ≤ q + 2 + (l.length : Int) * eb d ∧ s' = { s with env := setE 6 (.int .i64 (r : Nat)) s.env, l := (y, .cells 46 (exc l)) :: setl (B + 2) (.cells 46 [.int .i64 k5, .int .i64 0, .int .i64 0, .int .i64 0, .sl 46 y 0 l.length]) (setl id (rdObj bs q') s.l), M := M0 }) (n) ?_ ?_
  ·
    refine .of' _ _ (.inl ⟨rfl, rfl⟩) ?_ ?_ ?_ <;> (first | (simp -implicitDefEqProofs (disch := omega) only [go_sem, PV.int.injEq, Int.natCast_add, Int.natCast_one, Int.natCast_zero, true_or, le_yes]; done) | rfl | trivial | (simp -implicitDefEqProofs (disch := omega) only [go_sem, PV.int.injEq, Int.natCast_add, Int.natCast_one, Int.natCast_zero, true_or]; simp; done) | (simp; done))
  rintro r s' (⟨rfl, rfl⟩ | ⟨M0, y, l, q', hl0, hlr, hy, hyM, hsz, hqa, hqb, rfl⟩)
  ·
    try refine S_ ?_
    refine wpM_seq ?_
    refine wpM_seq ?_
    refine wpM_regionK [0, 1, 4, 5, 6, 32] rfl ?_; intro Q1 hQ1
    refine S_ ?_
    refine hQ1 _ _ ?_; clear hQ1 Q1
    refine S_ ?_
    refine wpM_condK ?_
    refine S_ ?_
    refine ⟨fun hc2 => ?_, fun hc2 => ?_⟩
    ·
      skip
      refine wpM_skip ?_
      refine S_ ?_
      refine wpM_seq ?_
      refine wpM_block ?_
      refine wpM_keep [0, 1, 4, 5, 6] (wpM_dr mixed 2 2 [B + 2, id, B + 3, B + 4] [⟨[5], [], [], [], false⟩, ⟨[35], [0], [], [], false⟩, ⟨[0], [], [], [], false⟩, ⟨[1], [], [], [], false⟩, ⟨[38], [], [], [], false⟩, ⟨[37, 39], [1], [1], [], true⟩, ⟨[40], [], [], [2], false⟩, ⟨[36, 41], [2], [], [3], false⟩, ⟨[5], [], [], [], false⟩, ⟨[42, 43], [0], [0], [], false⟩] [0, 1, 2, 3, 4, 5, 6, 7, 8, 9] [[], [0], [], [], [3], [2, 3, 4], [2, 3, 4, 5], [0, 1, 2, 3, 4, 5, 6], [0, 1, 2, 3, 4, 5, 6, 7], [0, 1, 2, 3, 4, 5, 6, 7, 8]] 4 rfl (by simp; omega) (by decide +kernel) (by simp) ?_)
      intro O A K hO hA hK; simp only [atL_cons, atL_nil, Nat.reduceAdd, Nat.zero_add] at hO hA
      refine SO_ ?_
      refine loud_fn (first := []) (cap := []) (ps := [.ptr id 0, .int .i64 (dep - 1)]) (l := [(id, rdObj bs (q + 1 + 1))]) (ih (q + 1 + 1) (by omega) (by omega)) Tryz.call75 rfl rfl F_ (subG_spec T_) rfl ?_
      rintro out ⟨_, q', ⟨e, hes, rfl⟩, hqa, hqb, rfl⟩
      refine ⟨rfl, ?_⟩
      refine SO_ ?_
      refine hK _ ?_; clear hK K hO hA O A
      refine S_ ?_
      refine wpM_regionK [0, 1, 4, 5, 6] rfl ?_; intro Q1 hQ1
      refine S_ ?_
      refine hQ1 _ _ ?_; clear hQ1 Q1
      refine S_ ?_
      have e1 : [PV.int .i64 e.kind, .int .i64 e.n, .int .i64 e.a.kind, .int .i64 e.a.at', .rows 46 (Ex.csL e.kids)] = exc [e] := by rw [← exc_one, Ex.cs_eq]
      rw [e1, show ((r : Int) - 1) = ((r - 1 : Nat) : Int) by omega]
      refine .of' _ _ ⟨r - 1, by omega, .inr ⟨_, B + 4, [e], q', by simp, by simp; omega, ?_, ?_, by simp [Ex.szL]; omega, by omega, by simp; omega, rfl⟩⟩ ?_ ?_ ?_
      · first | omega | (simp -implicitDefEqProofs (disch := omega) only [go_sem]; done) | (simp -implicitDefEqProofs (disch := omega) only [go_sem]; omega)
      · first | omega | (simp -implicitDefEqProofs (disch := omega) only [go_sem]; done) | (simp -implicitDefEqProofs (disch := omega) only [go_sem]; omega)
      all_goals (first | (simp -implicitDefEqProofs (disch := omega) only [go_sem, PV.int.injEq, Int.natCast_add, Int.natCast_one, Int.natCast_zero, true_or, le_yes]; done) | rfl | trivial | (simp -implicitDefEqProofs (disch := omega) only [go_sem, PV.int.injEq, Int.natCast_add, Int.natCast_one, Int.natCast_zero, true_or]; simp; done) | (simp; done))
    exfalso; omega
  dsimp only at hy
  have hr : l.length = 1 ∨ l.length = 2 := by omega
  have hqb2 : q' ≤ q + 2 + 2 * eb d := by rcases hr with h | h <;> rw [h] at hqb <;> omega
  try refine S_ ?_
  refine wpM_seq ?_
  refine wpM_seq ?_
  refine wpM_regionK [0, 1, 4, 5, 6, 32] rfl ?_; intro Q1 hQ1
  refine S_ ?_
  refine hQ1 _ _ ?_; clear hQ1 Q1
  refine S_ ?_
  refine wpM_condK ?_
  refine S_ ?_
  refine ⟨fun hc2 => ?_, fun hc2 => ?_⟩
  ·
    have hr1 : l.length = 1 := by omega
    have hqb3 : q' ≤ q + 2 + eb d := by rw [hr1] at hqb; omega
    refine wpM_skip ?_
    refine S_ ?_
    refine wpM_seq ?_
    refine wpM_block ?_
    refine wpM_keep [0, 1, 4, 5, 6] (wpM_dr mixed 2 3 [B + 2, id, y, M0, M0 + 1] [⟨[5], [], [], [], false⟩, ⟨[35], [0], [], [], false⟩, ⟨[0], [], [], [], false⟩, ⟨[1], [], [], [], false⟩, ⟨[38], [], [], [], false⟩, ⟨[37, 39], [1], [1], [], true⟩, ⟨[40], [], [], [3], false⟩, ⟨[36, 41], [2, 3], [2], [4], false⟩, ⟨[5], [], [], [], false⟩, ⟨[42, 43], [0], [0], [], false⟩] [0, 1, 2, 3, 4, 5, 6, 7, 8, 9] [[], [0], [], [], [3], [2, 3, 4], [2, 3, 4, 5], [0, 1, 2, 3, 4, 5, 6], [0, 1, 2, 3, 4, 5, 6, 7], [0, 1, 2, 3, 4, 5, 6, 7, 8]] 5 rfl (by simp; omega) (by decide +kernel) (by simp) ?_)
    intro O A K hO hA hK; simp only [atL_cons, atL_nil, Nat.reduceAdd, Nat.zero_add] at hO hA
    refine SO_ ?_
    refine loud_fn (first := []) (cap := []) (ps := [.ptr id 0, .int .i64 (dep - 1)]) (l := [(id, rdObj bs q')]) (ih q' (by omega) (by omega)) Tryz.call75 rfl rfl F_ (subG_spec T_) rfl ?_
    rintro out ⟨_, q2, ⟨e, hes, rfl⟩, hqc, hqd, rfl⟩
    refine ⟨rfl, ?_⟩
    refine SO_ ?_
    refine hK _ ?_; clear hK K hO hA O A
    refine S_ ?_
    refine wpM_regionK [0, 1, 4, 5, 6] rfl ?_; intro Q1 hQ1
    refine S_ ?_
    refine hQ1 _ _ ?_; clear hQ1 Q1
    refine S_ ?_
    have e1 : exc l ++ [PV.int .i64 e.kind, .int .i64 e.n, .int .i64 e.a.kind, .int .i64 e.a.at', .rows 46 (Ex.csL e.kids)] = exc (l ++ [e]) := by rw [← exc_app, Ex.cs_eq e]
    rw [e1, show ((r : Int) - 1) = ((r - 1 : Nat) : Int) by omega]
    refine .of' _ _ ⟨r - 1, by omega, .inr ⟨_, M0 + 1, l ++ [e], q2, by simp, by simp; omega, ?_, ?_, by rw [Ex.szL_app, List.length_append, hr1]; rw [hr1] at hsz; simp; omega, by omega, by rw [List.length_append, hr1]; simp; omega, rfl⟩⟩ ?_ ?_ ?_
    · first | omega | (simp -implicitDefEqProofs (disch := omega) only [go_sem]; done) | (simp -implicitDefEqProofs (disch := omega) only [go_sem]; omega)
    · first | omega | (simp -implicitDefEqProofs (disch := omega) only [go_sem]; done) | (simp -implicitDefEqProofs (disch := omega) only [go_sem]; omega)
    all_goals (first | (simp -implicitDefEqProofs (disch := omega) only [go_sem, PV.int.injEq, Int.natCast_add, Int.natCast_one, Int.natCast_zero, true_or, le_yes]; done) | rfl | trivial | (simp -implicitDefEqProofs (disch := omega) only [go_sem, PV.int.injEq, Int.natCast_add, Int.natCast_one, Int.natCast_zero, true_or]; simp; done) | (simp; done))
  refine wpM_exit ?_
  refine S_ ?_
  refine wpM_seq ?_
  have hr0 : r = 0 := by omega
  refine wpM_frz [y] [(46, y, 0, l.length, Ex.csL l)] (by intro q hq; simp at hq; subst hq; simp -implicitDefEqProofs (disch := omega) only [go_sem]) (by intro q hq; simp only [List.mem_cons, List.not_mem_nil, or_false] at hq; subst hq; exact ⟨by simp, rowsOf_exc (T := 46) T_⟩) ?_
  simp -implicitDefEqProofs (disch := omega) only [go_sem, rdObj]
  refine wpM_regionK [4] rfl ?_; intro Q1 hQ1
  refine S_ ?_
  refine hQ1 _ _ ?_; clear hQ1 Q1
  refine S_ ?_
  refine wpM_ret ?_
  try refine S_ ?_
  first
  | refine hQ _ _ (ret0 [(id, some (rdObj bs (q + 1 + 1 + 1)))] rfl rfl rfl (by rw [Tryz.results75]; simp (maxSteps := 1000000) -implicitDefEqProofs (disch := omega) only [go_sem] <;> rfl) ⟨_, q + 1 + 1 + 1, ⟨Ex.mk 1 k2 ⟨0, 0⟩ [], by simp only [Ex.sz, Ex.szL]; omega, rfl⟩, by omega, by omega, rfl⟩ ?_ ?_ ?_ ?_) <;> (simp -implicitDefEqProofs (disch := omega) only [go_sem, rdObj, true_or, or_true]; done)
  | refine hQ _ _ (ret0 [(id, some (rdObj bs q'))] rfl rfl rfl (by rw [Tryz.results75]; simp (maxSteps := 1000000) -implicitDefEqProofs (disch := omega) only [go_sem] <;> rfl) ⟨_, q', ⟨Ex.mk 2 0 a [], by simp only [Ex.sz, Ex.szL]; omega, rfl⟩, by omega, by omega, rfl⟩ ?_ ?_ ?_ ?_) <;> (simp -implicitDefEqProofs (disch := omega) only [go_sem, rdObj, true_or, or_true]; done)
  | refine hQ _ _ (ret0 [(id, some (rdObj bs q'))] rfl rfl rfl (by rw [Tryz.results75]; simp (maxSteps := 1000000) -implicitDefEqProofs (disch := omega) only [go_sem] <;> rfl) ⟨_, q', ⟨Ex.mk k5 0 ⟨0, 0⟩ l, by (have : Ex.szL l ≤ 2 * es d := (by rcases hr with h | h <;> rw [h] at hsz <;> omega)); simp only [Ex.sz]; omega, rfl⟩, by omega, by omega, rfl⟩ ?_ ?_ ?_ ?_) <;> (simp -implicitDefEqProofs (disch := omega) only [go_sem, rdObj, true_or, or_true]; done)
theorem l3Expr_ok (id : Nat) (bs : List Nat) (hbs : Bs bs) (d : Nat) : ∀ (q dep : Int), 0 ≤ q → q + eb d ≤ 1000000000000 → dep ≤ (d : Int) + 1 → dep ≤ 1000000 → ExprD d id bs q dep := by
  induction d with
  | zero => intro q dep h1 h2 h3 h4; exact expr_leaf 0 id bs q dep hbs h1 h2 (by simp; omega)
  | succ d ih =>
    intro q dep h1 h2 h3 h4
    by_cases hd : dep ≤ 1
    · exact expr_leaf (d + 1) id bs q dep hbs h1 h2 (by simp [hd])
    · exact expr_node d id bs q dep hbs h1 h2 (by simp [hd]) h4 (fun q' g1 g2 => ih q' (dep - 1) g1 g2 (by omega) (by omega))
end Go.Proofs.YtnilkkcobeaglaaGreat
