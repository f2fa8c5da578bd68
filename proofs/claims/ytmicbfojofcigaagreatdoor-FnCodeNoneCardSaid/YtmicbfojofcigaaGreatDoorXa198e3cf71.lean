/- A part of a proof: lemmas and contracts of functions; the last text of the claim says what is proved. -/
import Derived.Test.YtmicbfojofcigaaGreatDoorX5a7b1851df
set_option linter.unusedSectionVars false
set_option linter.unusedSimpArgs false
set_option linter.unusedVariables false
namespace Go.Proofs.YtmicbfojofcigaaGreatDoor
open Go Sg
set_option linter.unusedSectionVars false
variable [Glob]
set_option maxRecDepth 100000
set_option linter.unusedSimpArgs false
set_option linter.unusedVariables false
set_option maxHeartbeats 4000000
theorem splice_mid (a b c : List PV) (off : Nat) (v : List PV) (h : off + v.length ≤ b.length) : splice (a ++ (b ++ c)) (a.length + off) v = a ++ (splice b off v ++ c) := by
  simp only [splice]
  rw [List.take_append, List.take_of_length_le (by omega : a.length ≤ a.length + off), show a.length + off - a.length = off by omega, List.take_append_of_le_length (by omega),
    List.drop_append, List.drop_of_length_le (by omega : a.length ≤ a.length + off + v.length), show a.length + off + v.length - a.length = off + v.length by omega, List.nil_append, List.drop_append_of_le_length h]
  simp
theorem smc_split (l : List Sm) (k : Nat) (h : k < l.length) (s : Sm) : smc (l.set k s) = smc (l.take k) ++ (s.cs ++ smc (l.drop (k + 1))) := by
  rw [List.set_eq_take_append_cons_drop, if_pos h]
  simp [smc, Sm.csL_map]
theorem smc_at (l : List Sm) (k : Nat) (h : k < l.length) : smc l = smc (l.take k) ++ ((l.getD k default).cs ++ smc (l.drop (k + 1))) := by
  have e : l.set k (l.getD k default) = l := by simp [List.getD, h]
  rw [← smc_split l k h, e]
theorem smc_splice (l : List Sm) (k : Nat) (h : k < l.length) (off : Nat) (v : List PV) (s : Sm) (ho : off + v.length ≤ 10) (hs : splice (l.getD k default).cs off v = s.cs) : splice (smc l) (k * 10 + off) v = smc (l.set k s) := by
  have hl : (smc (l.take k)).length = k * 10 := by rw [smc_len, List.length_take, Nat.min_eq_left (by omega)]
  rw [smc_split l k h, ← hs]
  conv => lhs; rw [smc_at l k h, ← hl]
  exact splice_mid _ _ _ _ _ (by rw [Sm.cs_eq]; exact ho)
theorem szL_set (l : List Sm) (k : Nat) (h : k < l.length) (s : Sm) (m : Nat) (hs : s.sz ≤ (l.getD k default).sz + m) : Sm.szL (l.set k s) ≤ Sm.szL l + m := by
  induction l generalizing k with
  | nil => simp at h
  | cons x l ih =>
    cases k with
    | zero => simp only [List.set_cons_zero, Sm.szL, List.getD_cons_zero] at hs ⊢; omega
    | succ k => simp only [List.set_cons_succ, Sm.szL, List.getD_cons_succ] at hs ⊢; have := ih k (by simpa using h) hs; omega
def SomeP (f : Nat) (N : Nat) (L : Int) (id : Nat) (bs : List Nat) (q : Int) : Prop :=
  CallF Tryz.prog f [.ptr id 0] [(id, rdObj bs q)] 1 (fun ns o => ∃ z l q', ns = [z] ∧ Sm.szL l ≤ N ∧ q ≤ q' ∧ q' ≤ q + L ∧ o = { rs := [.sl 52 z 0 l.length], u := [(id, some (rdObj bs q'))], nw := [(z, .cells 52 (smc l))] })
theorem stmtsOk_sl (z : Nat) (l : List Sm) (hs : Sm.szL l ≤ 1099511627776) : CallF Tryz.prog 13 [.sl 52 z 0 l.length] [(z, .cells 52 (smc l))] 0 (fun _ o => o = { rs := [.bool (okS l)] }) := by
  refine CallF.borrow [(52, z, 0, l.length, Sm.csL l)] rfl rfl (by intro q hq; simp only [List.mem_cons, List.not_mem_nil, or_false] at hq; subst hq; exact rowsOf_smc (T := 52) (by simp [lk]) rfl) ?_
  have := stmtsOk_ok l hs
  simp -implicitDefEqProofs (disch := omega) only [go_sem]
  exact this
theorem l4Some_ok (id : Nat) (bs : List Nat) (q : Int) (hbs : Bs bs) (hq0 : 0 ≤ q) (hq : q + 60000 ≤ 1000000000000) : SomeP 57 60000 60000 id bs q := by
  refine callF_of' Tryz.func57 rfl Tryz.ntmps57 (by simp) ?_
  intro f0 B ns Q hB hns hQ
  have hid : id < B := hB id (by simp [hasKey, lk])
  obtain ⟨z, rfl⟩ : ∃ z, ns = [z] := by
    match ns, hns with
    | [z], _ => exact ⟨z, rfl⟩
  have h3 : lb 3 = 54649 := rfl
  have h4 : ls 3 = 52836 := rfl
  refine g_ [0] ?_
  refine n_ ?_
  refine wpM_regionK [0,3] rfl fun Q1 hQ1 => ?_
  refine S_ ?_
  refine call_fn (l := [(id, rdObj bs q)]) (first := []) (cap := []) (ps := [.ptr id 0, .int .i64 3]) (l4List_ok id bs hbs 3 (by omega) q 3 (by omega) (by omega) (by omega) (by omega)) Tryz.call61 rfl rfl rfl G_ T_ ?_
  rintro out ⟨z', l, q', ⟨⟩, hsz, hqa, hqb, rfl⟩
  refine S_ ?_
  refine hQ1 _ _ (S_ ?_);clear hQ1 Q1
  refine n_ ?_
  refine wpM_regionK [0,3,8] rfl fun Q1 hQ1 => ?_
  refine S_ ?_
  refine call_fn (l := [(B, .cells 52 (smc l))]) (first := []) (cap := []) (ps := [.sl 52 B 0 l.length]) (stmtsOk_sl B l (by omega)) Tryz.call13 rfl rfl rfl G_ T_ ?_
  rintro out rfl
  refine S_ ?_
  refine hQ1 _ _ (S_ ?_);clear hQ1 Q1
  refine c_ (fun hc0 => ?_) fun hc0 => ?_
  ·
    refine n_ ?_
    refine wpM_regionK [2] rfl fun Q1 hQ1 => ?_
    refine S_ ?_
    refine call_fn (l := [(id, rdObj bs q')]) (first := []) (cap := []) (ps := [.ptr id 0]) (l4Count_ok id bs q' hbs (by omega) (by omega)) Tryz.call101 rfl rfl rfl G_ T_ ?_
    rintro out ⟨_, q2, ⟨s, hs, rfl⟩, hqc, hqd, rfl⟩
    refine S_ ?_
    refine hQ1 _ _ (S_ ?_);clear hQ1 Q1
    refine wpM_ret ?_
    try refine S_ ?_
    have e1 : [PV.int .i64 s.kind, .int .i64 s.to'.kind, .int .i64 s.to'.at', .int .i64 s.e.kind, .int .i64 s.e.n, .int .i64 s.e.a.kind, .int .i64 s.e.a.at', .rows 50 (Ex.csL s.e.kids), .rows 52 (Sm.csL s.th), .rows 52 (Sm.csL s.el)] = smc [s] := by rw [← smc_one, Sm.cs_eq]
    rw [e1]
    refine hQ _ _ (retK [B + 1] [(id, some (rdObj bs q2))] [(z, .cells 52 (smc [s]))] rfl rfl rfl (by rw [Tryz.results57] <;> simp (maxSteps := 1000000) -implicitDefEqProofs (disch := omega) only [go_sem] <;> rfl) ?_ ⟨z, [s], q2, rfl, by simp [Sm.szL]; omega, by omega, by omega, rfl⟩ ?_ ?_ ?_ ?_ ?_ ?_)
    all_goals (first | (simp -implicitDefEqProofs (disch := omega) only [go_sem, rdObj, List.nodup_cons, List.nodup_nil, true_or, or_true, List.mem_cons, List.not_mem_nil]; done) | (simp -implicitDefEqProofs (disch := omega) only [go_sem, rdObj, List.nodup_cons, List.nodup_nil, true_or, or_true, List.mem_cons, List.not_mem_nil]; first | omega | rfl))
  refine g_ [2] ?_
  refine wpM_ret ?_
  try refine S_ ?_
  refine hQ _ _ (retK [B] [(id, some (rdObj bs q'))] [(z, .cells 52 (smc l))] rfl rfl rfl (by rw [Tryz.results57] <;> simp (maxSteps := 1000000) -implicitDefEqProofs (disch := omega) only [go_sem] <;> rfl) ?_ ⟨z, l, q', rfl, by omega, by omega, by omega, rfl⟩ ?_ ?_ ?_ ?_ ?_ ?_)
  all_goals (simp -implicitDefEqProofs (disch := omega) only [go_sem, rdObj, List.nodup_cons, List.nodup_nil, true_or, or_true, List.mem_cons, List.not_mem_nil] <;> omega)
theorem l4Bent_ok (id : Nat) (bs : List Nat) (q : Int) (hbs : Bs bs) (hq0 : 0 ≤ q) (hq : q + 70000 ≤ 1000000000000) : SomeP 39 1000000 70000 id bs q := by
  refine callF_of' Tryz.func39 rfl Tryz.ntmps39 (by simp) ?_
  intro f0 B ns Q hB hns hQ
  have hid : id < B := hB id (by simp [hasKey, lk])
  obtain ⟨z, rfl⟩ : ∃ z, ns = [z] := by
    match ns, hns with
    | [z], _ => exact ⟨z, rfl⟩
  have b0 : eb 0 = 4 := rfl
  have s0 : es 0 = 1 := rfl
  refine g_ [0] ?_
  refine n_ ?_
  refine wpM_regionK [0,3] rfl fun Q1 hQ1 => ?_
  refine S_ ?_
  refine call_fn (l := [(id, rdObj bs q)]) (first := []) (cap := []) (ps := [.ptr id 0]) (l4Some_ok id bs q hbs (by omega) (by omega)) Tryz.call57 rfl rfl rfl G_ T_ ?_
  rintro out ⟨z', l, q', ⟨⟩, hsz, hqa, hqb, rfl⟩
  refine S_ ?_
  have hll : l.length ≤ 60000 := by have := Sm.len_szL l; omega
  refine hQ1 _ _ (S_ ?_);clear hQ1 Q1
  refine g_ [0,3,10] ?_
  refine c_ (fun hc0 => ?_) fun hc0 => ?_
  ·
    refine g_ [2] ?_
    refine wpM_ret ?_
    try refine S_ ?_
    refine hQ _ _ (retK [B] [(id, some (rdObj bs (q')))] [(z, .cells 52 (smc l))] rfl rfl rfl (by rw [Tryz.results39] <;> simp (maxSteps := 1000000) -implicitDefEqProofs (disch := omega) only [go_sem] <;> rfl) ?_ ⟨z, l, q', rfl, by omega, by omega, by omega, rfl⟩ ?_ ?_ ?_ ?_ ?_ ?_)
    all_goals (simp -implicitDefEqProofs (disch := omega) only [go_sem, rdObj, List.nodup_cons, List.nodup_nil, true_or, or_true, List.mem_cons, List.not_mem_nil] <;> omega)
  refine n_ ?_
  refine wpM_regionK [0,3,4] rfl fun Q1 hQ1 => ?_
  refine S_ ?_
  refine call_fn (l := [(id, rdObj bs q')]) (first := []) (cap := []) (ps := [.ptr id 0, .int .i64 (l.length : Nat)]) (pick_ok id bs q' l.length hbs (by omega) (by omega) (by omega)) Tryz.call58 rfl rfl rfl G_ T_ ?_
  rintro out ⟨k0, rfl, h01, h02, h03⟩
  refine S_ ?_
  refine hQ1 _ _ (S_ ?_);clear hQ1 Q1
  have hl0 : 0 < l.length := by
    rcases Nat.eq_zero_or_pos l.length with h | h
    · simp [h] at hc0
    · exact h
  obtain ⟨k, rfl, hk⟩ : ∃ k : Nat, k0 = (k : Int) ∧ k < l.length := ⟨k0.toNat, by omega, by have := h02 (by omega); omega⟩
  refine n_ ?_
  refine wpM_regionK [0,3,4,17] rfl fun Q1 hQ1 => ?_
  refine S_ ?_
  refine call_fn (l := [(id, rdObj bs (q' + 1))]) (first := []) (cap := []) (ps := [.ptr id 0, .int .i64 50]) (pick_ok id bs (q' + 1) 50 hbs (by omega) (by omega) (by omega)) Tryz.call58 rfl rfl rfl G_ T_ ?_
  rintro out ⟨k1, rfl, h11, h12, h13⟩
  refine S_ ?_
  refine hQ1 _ _ (S_ ?_);clear hQ1 Q1
  refine g_ [0,3,4,17,18] ?_
  refine c_ (fun hc1 => ?_) fun hc1 => ?_
  ·
    refine wpM_regionK [3] rfl fun Q1 hQ1 => ?_
    refine S_ ?_
    refine call_fn (l := [(id, rdObj bs (q' + 1 + 1)), (B + 1, .cells 3 (ints [0, 4, 1, 2, 3]))]) (first := []) (cap := []) (ps := [.ptr id 0, .sl 3 (B + 1) 0 5]) (num_ok id (B + 1) bs (q' + 1 + 1) [0, 4, 1, 2, 3] 5 rfl (by omega) (by omega) (by omega) hbs (by omega) (by omega)) Tryz.call41 rfl rfl rfl G_ (by simp -implicitDefEqProofs (disch := omega) only [go_sem, ints, List.map_cons, List.map_nil]) ?_
    rintro out ⟨k2, rfl, h4⟩
    refine S_ ?_
    refine hQ1 _ _ (S_ ?_);clear hQ1 Q1
    have hsp := smc_splice l k hk 0 [.int .i64 k2] (Sm.mk k2 (l.getD k default).to' (l.getD k default).e (l.getD k default).th (l.getD k default).el) (by simp) (by rw [Sm.cs_eq, Sm.cs_eq]; rfl)
    rw [Nat.add_zero] at hsp
    rw [hsp]
    have hszn : Sm.szL (l.set k (Sm.mk k2 (l.getD k default).to' (l.getD k default).e (l.getD k default).th (l.getD k default).el)) ≤ 1000000 := by
      have := szL_set l k hk (Sm.mk k2 (l.getD k default).to' (l.getD k default).e (l.getD k default).th (l.getD k default).el) 0 (by rw [Sm.sz_eq (Sm.mk k2 (l.getD k default).to' (l.getD k default).e (l.getD k default).th (l.getD k default).el), Sm.sz_eq (l.getD k default)]; simp only [Sm.mk_e, Sm.mk_th, Sm.mk_el]; omega)
      omega
    rw [show l.length = (l.set k (Sm.mk k2 (l.getD k default).to' (l.getD k default).e (l.getD k default).th (l.getD k default).el)).length from by simp]
    have hqn1 : q ≤ q' + 1 + 1 + 1 := by omega
    have hqn2 : q' + 1 + 1 + 1 ≤ q + 70000 := by omega
    have hYn1 : B ≤ B := Nat.le_refl B
    generalize hln : l.set k (Sm.mk k2 (l.getD k default).to' (l.getD k default).e (l.getD k default).th (l.getD k default).el) = ln at *
    generalize hqn : q' + 1 + 1 + 1 = qn at *
    obtain ⟨Yn, hYn⟩ : ∃ Yn, Yn = B := ⟨_, rfl⟩
    refine g_ [2] ?_
    refine wpM_ret ?_
    try refine S_ ?_
    refine hQ _ _ (retK [B] [(id, some (rdObj bs (qn)))] [(z, .cells 52 (smc ln))] rfl rfl rfl (by rw [Tryz.results39] <;> simp (maxSteps := 1000000) -implicitDefEqProofs (disch := omega) only [go_sem] <;> rfl) ?_ ⟨z, ln, qn, rfl, hszn, by omega, by omega, rfl⟩ ?_ ?_ ?_ ?_ ?_ ?_)
    all_goals (simp -implicitDefEqProofs (disch := omega) only [go_sem, rdObj, List.nodup_cons, List.nodup_nil, true_or, or_true, List.mem_cons, List.not_mem_nil] <;> omega)
  refine g_ [0,3,4,17,27] ?_
  refine c_ (fun hc2 => ?_) fun hc2 => ?_
  ·
    refine wpM_regionK [3] rfl fun Q1 hQ1 => ?_
    refine S_ ?_
    refine call_fn (l := [(id, rdObj bs (q' + 1 + 1))]) (first := []) (cap := []) (ps := [.ptr id 0]) (l2AddrBent_ok id bs (q' + 1 + 1) hbs (by omega) (by omega)) Tryz.call75 rfl rfl rfl G_ T_ ?_
    rintro out ⟨_, q2, ⟨a, rfl⟩, hqc, hqd, rfl⟩
    refine S_ ?_
    refine hQ1 _ _ (S_ ?_);clear hQ1 Q1
    have hsp := smc_splice l k hk 1 [.int .i64 a.kind, .int .i64 a.at'] (Sm.mk (l.getD k default).kind a (l.getD k default).e (l.getD k default).th (l.getD k default).el) (by simp) (by rw [Sm.cs_eq, Sm.cs_eq]; rfl)
    skip
    rw [hsp]
    have hszn : Sm.szL (l.set k (Sm.mk (l.getD k default).kind a (l.getD k default).e (l.getD k default).th (l.getD k default).el)) ≤ 1000000 := by
      have := szL_set l k hk (Sm.mk (l.getD k default).kind a (l.getD k default).e (l.getD k default).th (l.getD k default).el) 0 (by rw [Sm.sz_eq (Sm.mk (l.getD k default).kind a (l.getD k default).e (l.getD k default).th (l.getD k default).el), Sm.sz_eq (l.getD k default)]; simp only [Sm.mk_e, Sm.mk_th, Sm.mk_el]; omega)
      omega
    rw [show l.length = (l.set k (Sm.mk (l.getD k default).kind a (l.getD k default).e (l.getD k default).th (l.getD k default).el)).length from by simp]
    have hqn1 : q ≤ q2 := by omega
    have hqn2 : q2 ≤ q + 70000 := by omega
    have hYn1 : B ≤ B := Nat.le_refl B
    generalize hln : l.set k (Sm.mk (l.getD k default).kind a (l.getD k default).e (l.getD k default).th (l.getD k default).el) = ln at *
    generalize hqn : q2 = qn at *
    obtain ⟨Yn, hYn⟩ : ∃ Yn, Yn = B := ⟨_, rfl⟩
    refine g_ [2] ?_
    refine wpM_ret ?_
    try refine S_ ?_
    refine hQ _ _ (retK [B] [(id, some (rdObj bs (qn)))] [(z, .cells 52 (smc ln))] rfl rfl rfl (by rw [Tryz.results39] <;> simp (maxSteps := 1000000) -implicitDefEqProofs (disch := omega) only [go_sem] <;> rfl) ?_ ⟨z, ln, qn, rfl, hszn, by omega, by omega, rfl⟩ ?_ ?_ ?_ ?_ ?_ ?_)
    all_goals (simp -implicitDefEqProofs (disch := omega) only [go_sem, rdObj, List.nodup_cons, List.nodup_nil, true_or, or_true, List.mem_cons, List.not_mem_nil] <;> omega)
  refine g_ [0,3,4,17,35] ?_
  refine c_ (fun hc3 => ?_) fun hc3 => ?_
  ·
    refine wpM_regionK [3] rfl fun Q1 hQ1 => ?_
    refine S_ ?_
    refine call_fn (l := [(id, rdObj bs (q' + 1 + 1))]) (first := []) (cap := []) (ps := [.ptr id 0]) (l3Bent_ok id bs (q' + 1 + 1) hbs (by omega) (by omega)) Tryz.call76 rfl rfl rfl G_ T_ ?_
    rintro out ⟨_, q2, ⟨e, hes, rfl⟩, hqc, hqd, rfl⟩
    refine S_ ?_
    refine hQ1 _ _ (S_ ?_);clear hQ1 Q1
    have hsp := smc_splice l k hk 3 [.int .i64 e.kind, .int .i64 e.n, .int .i64 e.a.kind, .int .i64 e.a.at', .rows 50 (Ex.csL e.kids)] (Sm.mk (l.getD k default).kind (l.getD k default).to' e (l.getD k default).th (l.getD k default).el) (by simp) (by rw [Sm.cs_eq, Sm.cs_eq]; rfl)
    skip
    rw [hsp]
    have hszn : Sm.szL (l.set k (Sm.mk (l.getD k default).kind (l.getD k default).to' e (l.getD k default).th (l.getD k default).el)) ≤ 1000000 := by
      have := szL_set l k hk (Sm.mk (l.getD k default).kind (l.getD k default).to' e (l.getD k default).th (l.getD k default).el) 1000 (by rw [Sm.sz_eq (Sm.mk (l.getD k default).kind (l.getD k default).to' e (l.getD k default).th (l.getD k default).el), Sm.sz_eq (l.getD k default)]; simp only [Sm.mk_e, Sm.mk_th, Sm.mk_el]; omega)
      omega
    rw [show l.length = (l.set k (Sm.mk (l.getD k default).kind (l.getD k default).to' e (l.getD k default).th (l.getD k default).el)).length from by simp]
    have hqn1 : q ≤ q2 := by omega
    have hqn2 : q2 ≤ q + 70000 := by omega
    have hYn1 : B ≤ B := Nat.le_refl B
    generalize hln : l.set k (Sm.mk (l.getD k default).kind (l.getD k default).to' e (l.getD k default).th (l.getD k default).el) = ln at *
    generalize hqn : q2 = qn at *
    obtain ⟨Yn, hYn⟩ : ∃ Yn, Yn = B := ⟨_, rfl⟩
    refine g_ [2] ?_
    refine wpM_ret ?_
    try refine S_ ?_
    refine hQ _ _ (retK [B] [(id, some (rdObj bs (qn)))] [(z, .cells 52 (smc ln))] rfl rfl rfl (by rw [Tryz.results39] <;> simp (maxSteps := 1000000) -implicitDefEqProofs (disch := omega) only [go_sem] <;> rfl) ?_ ⟨z, ln, qn, rfl, hszn, by omega, by omega, rfl⟩ ?_ ?_ ?_ ?_ ?_ ?_)
    all_goals (simp -implicitDefEqProofs (disch := omega) only [go_sem, rdObj, List.nodup_cons, List.nodup_nil, true_or, or_true, List.mem_cons, List.not_mem_nil] <;> omega)
  refine g_ [0,3,17,43] ?_
  refine c_ (fun hc4 => ?_) fun hc4 => ?_
  ·
    refine g_ [0,3,5] ?_
    refine n_ ?_
    refine wpM_loopS (fun s r s' => ∃ (l3 : List Sm) (q3 : Int) (M Y i : Nat), i + r = 4 ∧ Sm.szL l3 ≤ 60000 + 2 * i ∧ q' + 1 + 1 ≤ q3 ∧ q3 ≤ q' + 1 + 1 + 4 * (i : Int) ∧ B ≤ Y ∧ Y < M ∧ s' = { s with env := setE 5 (.int .i64 (i : Nat)) (setE 3 (.sl 52 Y 0 l3.length) s.env), l := [(Y, .cells 52 (smc l3)), (id, rdObj bs q3)], M := M }) (4) ?_ ?_
    ·
      refine .of' _ _ ⟨l, q' + 1 + 1, _, B, 0, rfl, by omega, by omega, by omega, Nat.le_refl _, Nat.lt_succ_self _, rfl⟩ ?_ ?_ ?_
      all_goals exact L_
    rintro r s' ⟨l3, q3, M, Y, i, hir, hsz3, hqe, hqf, hBY, hYM, rfl⟩
    try refine S_ ?_
    refine g_ [0,3,5,46] ?_
    refine c_ (fun hc5 => ?_) fun hc5 => ?_
    ·
      refine n_ ?_
      refine wpM_regionK [0,3,5] rfl fun Q1 hQ1 => ?_
      refine S_ ?_
      refine call_fn (l := [(id, rdObj bs q3)]) (first := []) (cap := []) (ps := [.ptr id 0, .int .i64 1]) (l3Expr_ok id bs hbs 0 q3 1 (by omega) (by omega) (by omega) (by omega)) Tryz.call77 rfl rfl rfl G_ T_ ?_
      rintro out ⟨_, q4, ⟨e, hes, rfl⟩, hqg, hqh, rfl⟩
      refine S_ ?_
      refine hQ1 _ _ (S_ ?_);clear hQ1 Q1
      refine wpM_frz [Y] [(52, Y, 0, l3.length, Sm.csL l3)] (by intro q hq; simp at hq; subst hq; simp -implicitDefEqProofs (disch := omega) only [go_sem]) (by intro q hq; simp only [List.mem_cons, List.not_mem_nil, or_false] at hq; subst hq; exact ⟨by simp, rowsOf_smc (T := 52) T_ rfl⟩) ?_
      refine S_ ?_
      refine wpM_le [(0, .ptr id 0), (3, .sl 52 M 0 1), (5, .int .i64 (i : Nat))] [(M, .cells 52 (smc [(Sm.mk 2 ⟨0, 0⟩ e l3 [])])), (id, rdObj bs q4)] T_ (by simp -implicitDefEqProofs (disch := omega) only [go_sem, smc, Sm.csL, List.flatten_cons, List.flatten_nil, List.cons_append, List.nil_append, List.append_nil]) T_ ?_
      have hsz4 : Sm.szL [(Sm.mk 2 ⟨0, 0⟩ e l3 [])] ≤ 60000 + 2 * (i + 1) := by simp only [Sm.szL, Sm.sz]; omega
      refine g_ [0,3,5] ?_
      refine .of' _ _ ⟨r - 1, by omega, [(Sm.mk 2 ⟨0, 0⟩ e l3 [])], q4, _, M, i + 1, by omega, hsz4, by omega, by omega, by omega, Nat.lt_succ_self _, rfl⟩ ?_ ?_ ?_
      all_goals exact L_
    refine g_ [2] ?_
    refine wpM_ret ?_
    try refine S_ ?_
    refine hQ _ _ (retK [Y] [(id, some (rdObj bs (q3)))] [(z, .cells 52 (smc l3))] rfl rfl rfl (by rw [Tryz.results39] <;> simp (maxSteps := 1000000) -implicitDefEqProofs (disch := omega) only [go_sem] <;> rfl) ?_ ⟨z, l3, q3, rfl, by omega, by omega, by omega, rfl⟩ ?_ ?_ ?_ ?_ ?_ ?_)
    all_goals (simp -implicitDefEqProofs (disch := omega) only [go_sem, rdObj, List.nodup_cons, List.nodup_nil, true_or, or_true, List.mem_cons, List.not_mem_nil] <;> omega)
  refine g_ [0,3,54] ?_
  refine c_ (fun hc6 => ?_) fun hc6 => ?_
  ·
    refine n_ ?_
    refine wpM_loopS (fun s r s' => ∃ (l3 : List Sm) (cs : List PV) (q3 : Int) (M Y i : Nat), i + r = 17 ∧ PV.leL cs (smc l3) ∧ l3.length = l.length + i ∧ Sm.szL l3 ≤ 60000 + 2 * i ∧ q' + 1 + 1 ≤ q3 ∧ q3 ≤ q' + 1 + 1 + 6 * (i : Int) ∧ B ≤ Y ∧ Y < M ∧ s' = { s with env := [(0, .ptr id 0), (3, .sl 52 Y 0 l3.length)], l := [(Y, .cells 52 cs), (id, rdObj bs q3)], M := M }) (17) ?_ ?_
    ·
      refine .of' _ _ ⟨l, smc l, q' + 1 + 1, _, B, 0, rfl, leL_refl _, rfl, by omega, by omega, by omega, Nat.le_refl _, Nat.lt_succ_self _, rfl⟩ ?_ ?_ ?_
      all_goals exact L_
    rintro r s' ⟨l3, cs, q3, M, Y, i, hir, hle, hl3, hsz3, hqe, hqf, hBY, hYM, rfl⟩
    have hll3 : l3.length ≤ 70000 := by omega
    refine wpM_le [(0, .ptr id 0), (3, .sl 52 Y 0 l3.length)] [(Y, .cells 52 (smc l3)), (id, rdObj bs q3)] T_ (by simp -implicitDefEqProofs (disch := omega) only [go_sem, hle]) T_ ?_
    try refine S_ ?_
    refine g_ [0,3,58] ?_
    refine c_ (fun hc7 => ?_) fun hc7 => ?_
    ·
      refine n_ ?_
      refine wpM_regionK [0,3] rfl fun Q1 hQ1 => ?_
      refine S_ ?_
      refine call_fn (l := [(id, rdObj bs q3)]) (first := []) (cap := []) (ps := [.ptr id 0]) (l2To_ok id bs q3 hbs (by omega) (by omega)) Tryz.call59 rfl rfl rfl G_ T_ ?_
      rintro out ⟨_, q4, ⟨a, rfl⟩, hqg, hqh, rfl⟩
      refine S_ ?_
      refine call_fn (l := [(id, rdObj bs q4)]) (first := []) (cap := []) (ps := [.ptr id 0, .int .i64 1]) (l3Expr_ok id bs hbs 0 q4 1 (by omega) (by omega) (by omega) (by omega)) Tryz.call77 rfl rfl rfl G_ T_ ?_
      rintro out ⟨_, q5, ⟨e, hes, rfl⟩, hqi, hqj, rfl⟩
      refine S_ ?_
      refine hQ1 _ _ (S_ ?_);clear hQ1 Q1
      have hsz4 : Sm.szL (l3 ++ [(Sm.mk 1 a e [] [])]) ≤ 60000 + 2 * (i + 1) := by rw [Sm.szL_app]; simp only [Sm.szL, Sm.sz]; omega
      rw [show l3.length + 1 = (l3 ++ [(Sm.mk 1 a e [] [])]).length from by simp]
      refine .of' _ _ ⟨r - 1, by omega, l3 ++ [(Sm.mk 1 a e [] [])], smc l3 ++ [.int .i64 1, .int .i64 a.kind, .int .i64 a.at', .int .i64 e.kind, .int .i64 e.n, .int .i64 e.a.kind, .int .i64 e.a.at', .rows 50 (Ex.csL e.kids), .emp, .emp], q5, _, M + 1, i + 1, by omega, T_, by simp; omega, hsz4, by omega, by omega, by omega, Nat.lt_succ_self _, rfl⟩ ?_ ?_ ?_
      all_goals exact L_
    refine g_ [2] ?_
    refine wpM_ret ?_
    try refine S_ ?_
    refine hQ _ _ (retK [Y] [(id, some (rdObj bs (q3)))] [(z, .cells 52 (smc l3))] rfl rfl rfl (by rw [Tryz.results39] <;> simp (maxSteps := 1000000) -implicitDefEqProofs (disch := omega) only [go_sem] <;> rfl) ?_ ⟨z, l3, q3, rfl, by omega, by omega, by omega, rfl⟩ ?_ ?_ ?_ ?_ ?_ ?_)
    all_goals (simp -implicitDefEqProofs (disch := omega) only [go_sem, rdObj, List.nodup_cons, List.nodup_nil, true_or, or_true, List.mem_cons, List.not_mem_nil] <;> omega)
  refine g_ [2] ?_
  refine wpM_ret ?_
  try refine S_ ?_
  refine hQ _ _ (retK [B] [(id, some (rdObj bs (q' + 1 + 1)))] [(z, .cells 52 (smc l))] rfl rfl rfl (by rw [Tryz.results39] <;> simp (maxSteps := 1000000) -implicitDefEqProofs (disch := omega) only [go_sem] <;> rfl) ?_ ⟨z, l, q' + 1 + 1, rfl, by omega, by omega, by omega, rfl⟩ ?_ ?_ ?_ ?_ ?_ ?_)
  all_goals (simp -implicitDefEqProofs (disch := omega) only [go_sem, rdObj, List.nodup_cons, List.nodup_nil, true_or, or_true, List.mem_cons, List.not_mem_nil] <;> omega)
end Go.Proofs.YtmicbfojofcigaaGreatDoor
namespace Go.Proofs.YtmicbfojofcigaaGreatDoor
open Go Sg
set_option linter.unusedSectionVars false
variable [Glob]
set_option maxRecDepth 100000
set_option linter.unusedSimpArgs false
set_option linter.unusedVariables false
set_option maxHeartbeats 4000000
structure DRun (m : MM) (l : List Sm) (F : Int) : Prop where
  m : m.Sm
  l : Sm.szL l ≤ 1000000
  F0 : -1 ≤ F
  F1 : F ≤ 101
theorem drawRun_ok (code : List Nat) (hcode : ∀ x ∈ code, x < 256) (hl : code.length ≤ 1099511627776) :
    CallF Tryz.prog 15 [.rows 5 (u8s code)] [] 0 (fun _ o => ∃ m l F, DRun m l F ∧ o = { rs := [.agg m.cs, .rows 52 (Sm.csL l), .int .i64 F] }) := by
  refine callF_of' Tryz.func15 rfl Tryz.ntmps15 (by simp) ?_
  intro f0 B ns Q hB hns hQ
  obtain rfl : ns = [] := List.eq_nil_of_length_eq_zero hns
  refine g_ [0,2] ?_
  refine n_ ?_
  refine wpM_regionK [2,5] rfl fun Q1 hQ1 => ?_
  refine S_ ?_
  refine call_fn (l := []) (first := []) (cap := []) (ps := [.rows 5 (u8s code)]) (open_ok code hcode hl) Tryz.call28 rfl rfl rfl G_ T_ ?_
  rintro out ⟨j, bs, ⟨⟩, hbs, rfl, hbe⟩
  refine S_ ?_
  refine hQ1 _ _ (S_ ?_);clear hQ1 Q1
  refine n_ ?_
  refine wpM_regionK [2,5,6] rfl fun Q1 hQ1 => ?_
  refine S_ ?_
  refine call_fn (l := [(B + 1, rdObj bs 0)]) (first := []) (cap := []) (ps := [.ptr (B + 1) 0]) (l4Bent_ok (B + 1) bs 0 hbs (by omega) (by omega)) Tryz.call39 rfl rfl rfl G_ T_ ?_
  rintro out ⟨z', l, q1, ⟨⟩, hsz, hqa, hqb, rfl⟩
  refine S_ ?_
  refine hQ1 _ _ (S_ ?_);clear hQ1 Q1
  refine wpM_frz [B + 2] [(52, B + 2, 0, l.length, Sm.csL l)] (by intro q hq; simp at hq; subst hq; simp -implicitDefEqProofs (disch := omega) only [go_sem]) (by intro q hq; simp only [List.mem_cons, List.not_mem_nil, or_false] at hq; subst hq; exact ⟨by simp, rowsOf_smc (T := 52) T_ rfl⟩) ?_
  refine S_ ?_
  refine n_ ?_
  refine wpM_regionK [2,3,4] rfl fun Q1 hQ1 => ?_
  refine S_ ?_
  refine call_fn (l := [(B + 1, rdObj bs q1)]) (first := []) (cap := []) (ps := [.ptr (B + 1) 0]) (l2MemBent_ok (B + 1) bs q1 hbs (by omega) (by omega)) Tryz.call40 rfl rfl rfl G_ T_ ?_
  rintro out ⟨_, q2, ⟨m, hm, rfl⟩, hqc, hqd, rfl⟩
  refine S_ ?_
  refine call_fn (l := [(B + 1, rdObj bs q2), (B + 3, .cells 3 (ints [100, 100, 5, 0, 1, 101, -1]))]) (first := []) (cap := []) (ps := [.ptr (B + 1) 0, .sl 3 (B + 3) 0 7]) (num_ok (B + 1) (B + 3) bs q2 [100, 100, 5, 0, 1, 101, -1] 7 rfl (by omega) (by omega) (by omega) hbs (by omega) (by omega)) Tryz.call41 rfl rfl rfl G_ (by simp -implicitDefEqProofs (disch := omega) only [go_sem, ints, List.map_cons, List.map_nil]) ?_
  rintro out ⟨F, rfl, hF⟩
  refine S_ ?_
  refine hQ1 _ _ (S_ ?_);clear hQ1 Q1
  have hF2 : -1 ≤ F ∧ F ≤ 101 := by
    simp only [List.mem_cons, List.not_mem_nil, or_false] at hF
    omega
  refine wpM_ret ?_
  try refine S_ ?_
  refine hQ _ _ (ret0 [] rfl rfl rfl (by rw [Tryz.results15] <;> simp (maxSteps := 1000000) -implicitDefEqProofs (disch := omega) only [go_sem] <;> rfl) ⟨m, l, F, ⟨hm, hsz, hF2.1, hF2.2⟩, rfl⟩ ?_ ?_ ?_ ?_)
  all_goals simp -implicitDefEqProofs (disch := omega) only [go_sem, rdObj, true_or, or_true]
end Go.Proofs.YtmicbfojofcigaaGreatDoor
namespace Go.Proofs.YtmicbfojofcigaaGreatDoor
open Go Sg
set_option maxRecDepth 100000
set_option linter.unusedSimpArgs false
set_option linter.unusedVariables false
set_option linter.unusedSectionVars false
set_option maxHeartbeats 4000000
variable [ErrL]
def mxI (l : List Int) : Nat → Int
  | 0 => l.getD 0 0
  | i + 1 => if l.getD i 0 > mxI l i then l.getD i 0 else mxI l i
theorem max_ok (l : List Int) (h : 0 < l.length) (hl : l.length ≤ 1099511627776) : PureF Tryz.prog 56 [.rows 3 (rowsI l)] [.int .i64 (mxI l l.length)] := by
  refine pureF_of Tryz.func56 rfl Tryz.ntmps56 (by simp) T_ ?_
  intro f0 B Q hQ
  refine g_ [0] ?_
  refine g_ [0,7] ?_
  refine c_ (fun hc0 => ?_) fun hc0 => ?_
  · exfalso; omega
  refine g_ [0,3] ?_
  refine g_ [0,3,4] ?_
  refine n_ ?_
  refine wpM_loopS (fun s r s' => ∃ i : Nat, 1 ≤ i ∧ i + r = l.length ∧ s' = { s with env := setE 4 (.int .i64 (i : Nat)) (setE 3 (.int .i64 (mxI l i)) s.env) }) (l.length - 1) ?_ ?_
  ·
    have h1 : l.getD 0 0 = mxI l 1 := by simp [mxI]
    rw [h1]
    refine .of' _ _ ⟨1, Nat.le_refl _, by omega, rfl⟩ ?_ ?_ ?_ <;> exact L_
  rintro r s' ⟨i, hi1, hir, rfl⟩
  try refine S_ ?_
  refine g_ [0,3,4,15] ?_
  refine c_ (fun hc1 => ?_) fun hc1 => ?_
  ·
    have hil : i < l.length := by omega
    refine g_ [0,3,4] ?_
    refine g_ [0,3,4] ?_
    have h1 : (if l.getD i 0 > mxI l i then l.getD i 0 else mxI l i) = mxI l (i + 1) := rfl
    rw [h1]
    refine .of' _ _ ⟨r - 1, by omega, i + 1, by omega, by omega, rfl⟩ ?_ ?_ ?_ <;> exact L_
  refine g_ [2] ?_
  refine e_ Tryz.results56 ?_
  first
  | exact True.intro
  | have : i = l.length := by omega
    rw [this]
@[go_sem] theorem zeroI : ((0 : Nat) : Int) = 0 := rfl
@[go_sem] theorem repl0_one : List.replicate 1 (0 : Int) = [0] := rfl
theorem depths0_ok : CallF Tryz.prog 99 [.rows 81 []] [] 1 (fun ns o => ∃ z, ns = [z] ∧ o = { rs := [.sl 3 z 0 1], nw := [(z, .cells 3 [.int .i64 0])] }) := by
  refine callF_of' Tryz.func99 rfl Tryz.ntmps99 (by simp) ?_
  intro f0 B ns Q hB hns hQ
  obtain ⟨z, rfl⟩ : ∃ z, ns = [z] := by
    match ns, hns with
    | [z], _ => exact ⟨z, rfl⟩
  refine g_ [0] ?_
  refine g_ [0,3] ?_
  refine g_ [0,3,4] ?_
  refine n_ ?_
  refine wpM_loopS (fun s n s' => s' = s) (0) ?_ ?_
  ·
    exact .here rfl
  rintro n s' rfl
  try refine S_ ?_
  refine g_ [0,3,4,17] ?_
  refine c1_ ?_
  refine g_ [0,3,5] ?_
  refine n_ ?_
  refine wpM_loopS (fun s n s' => s' = s) (0) ?_ ?_
  ·
    exact .here rfl
  rintro n s' rfl
  try refine S_ ?_
  refine g_ [0,3,5,26] ?_
  refine c1_ ?_
  refine g_ [2] ?_
  refine wpM_ret ?_
  try refine S_ ?_
  refine hQ _ _ (retK [B] [] [(z, .cells 3 [.int .i64 0])] rfl rfl rfl (by rw [Tryz.results99] <;> simp (maxSteps := 1000000) -implicitDefEqProofs (disch := omega) only [go_sem] <;> rfl) ?_ ⟨z, rfl, rfl⟩ ?_ ?_ ?_ ?_ ?_ ?_)
  all_goals (first | (simp -implicitDefEqProofs (disch := omega) only [go_sem, List.nodup_cons, List.nodup_nil, true_or, or_true, List.mem_cons, List.not_mem_nil]; done) | (simp -implicitDefEqProofs (disch := omega) only [go_sem, List.nodup_cons, List.nodup_nil, true_or, or_true, List.mem_cons, List.not_mem_nil]; omega))
theorem codeOk0_ok : PureF Tryz.prog 53 [.rows 81 []] [.bool true] := by
  refine pureF_of Tryz.func53 rfl Tryz.ntmps53 (by simp) T_ ?_
  intro f0 B Q hQ
  refine g_ [0] ?_
  refine g_ [0,7] ?_
  refine c_ (fun hc0 => ?_) fun hc0 => ?_
  · exfalso; simp at hc0
  refine g_ [0,3] ?_
  refine n_ ?_
  refine wpM_loopS (fun s n s' => s' = s) (0) ?_ ?_
  ·
    exact .here rfl
  rintro n s' rfl
  try refine S_ ?_
  refine g_ [0,3,11] ?_
  refine c1_ ?_
  refine n_ ?_
  refine wpM_regionK [0,4] rfl fun Q1 hQ1 => ?_
  refine S_ ?_
  refine call_fn (l := []) (first := []) (cap := []) (ps := [.rows 81 []]) (depths0_ok) Tryz.call99 rfl rfl rfl G_ T_ ?_
  rintro out ⟨z, ⟨⟩, rfl⟩
  refine S_ ?_
  refine hQ1 _ _ (S_ ?_);clear hQ1 Q1
  refine gD_ [2] ?_
  refine e_ Tryz.results53 ?_
  first
  | exact True.intro
  | try rfl
theorem run0_ok (m : MM) (hm : m.Six) (F : Int) (x y z : Nat) (h1 : x ≠ y) (h2 : x ≠ z) (h3 : y ≠ z) : CallF Tryz.prog 54 [.agg (ocs x y z), .rows 81 [], .int .i64 F] (m.ol x y z) 0 (fun _ o => o = { rs := [.agg (ocs x y z), .int .i64 0, .int .i64 F] }) := by
  refine callF_of' Tryz.func54 rfl Tryz.ntmps54 (by simp) ?_
  intro f0 B ns Q hB hns hQ
  have hx : x < B := hB x (by simp [hasKey, lk, MM.ol])
  have hy : y < B := hB y (by simp [hasKey, lk, MM.ol, h1])
  have hz : z < B := hB z (by simp [hasKey, lk, MM.ol, h2, h3])
  obtain rfl : ns = [] := List.eq_nil_of_length_eq_zero hns
  refine g_ [1,2,3,6] ?_
  refine g_ [1,2,3,6,9] ?_
  refine g_ [1,2,3,6,9,10] ?_
  refine n_ ?_
  refine wpM_loopS (fun s n s' => s' = s) (0) ?_ ?_
  ·
    exact .here rfl
  rintro n s' rfl
  try refine S_ ?_
  refine g_ [1,2,3,6,9,10,17] ?_
  refine c1_ ?_
  refine g_ [6,7,8] ?_
  refine wpM_ret ?_
  try refine S_ ?_
  refine hQ _ _ (ret0 [] rfl rfl rfl (by rw [Tryz.results54] <;> simp (maxSteps := 1000000) -implicitDefEqProofs (disch := omega) only [go_sem] <;> rfl) rfl ?_ ?_ ?_ ?_)
  all_goals simp -implicitDefEqProofs (disch := omega) only [go_sem, h1, h2, h3, le_yes, true_or, or_true]
theorem okC_nil : okC [] = true := by
  have := okC_codeOf (l := []) (by decide) (by decide)
  exact this
theorem runC_nil (m : MM) (F : Int) : runC m [] F = if m.ok && decide (0 ≤ F) && decide (F ≤ 100) then (m, 0, F) else (noM, 2, 0) := by
  have h1 : mexR m [] F = (PS.start m F, false) := by
    unfold mexR
    rw [mex, if_neg]
    show ¬ (0 : Int) < ((0 : Nat) : Int)
    omega
  unfold runC runCok
  rw [h1, okC_nil, Bool.and_true]
  split
  · rename_i h
    simp only [Bool.and_eq_true, decide_eq_true_eq] at h
    show (m, (0 : Int), ((F.toNat : Nat) : Int)) = (m, 0, F)
    have : ((F.toNat : Nat) : Int) = F := by omega
    rw [this]
  · rfl
theorem codeRun0_ok (m : MM) (F : Int) (hm : m.Sm) : PureF Tryz.prog 25 [.agg m.cs, .rows 81 [], .int .i64 F] [.agg (runC m [] F).1.cs, .int .i64 (runC m [] F).2.1, .int .i64 (runC m [] F).2.2] := by
  refine pureF_of Tryz.func25 rfl Tryz.ntmps25 (by simp) T_ ?_
  intro f0 B Q hQ
  rw [runC_nil] at hQ
  refine g_ [1,2,3,6] ?_
  refine n_ ?_
  refine wpM_regionK [1,2,3,6,24] rfl fun Q1 hQ1 => ?_
  refine SD_ ?_
  refine cpD_ (memOk_ok m hm) Tryz.call52 ?_
  first | refine cg_ (fun hb => codeOk0_ok) Tryz.call53 ?_ | refine cpD_ (codeOk0_ok) Tryz.call53 ?_
  refine hQ1 _ _ (S_ ?_);clear hQ1 Q1
  refine c_ (fun hc0 => ?_) fun hc0 => ?_
  ·
    refine g_ [6,7,8] ?_
    refine wpM_le [(6, .ptr (B + 1) 0), (7, .int .i64 2), (8, .int .i64 0)] [(B + 1, .cells 33 [.rows 3 [], .rows 3 [], .rows 3 []])] T_ T_ T_ ?_
    refine e_ Tryz.results25 ?_
    first
    | exact True.intro
    | rw [if_neg]
      · repeat' apply And.intro
        all_goals first | rfl | trivial
      · cases h : m.ok <;> simp [h] at hc0 ⊢
        omega
  have hall : (m.ok && decide (0 ≤ F) && decide (F ≤ 100)) = true := by
    cases h : m.ok <;> simp [h] at hc0 ⊢
    omega
  have hmo : m.ok = true := by
    simp only [Bool.and_eq_true] at hall; exact hall.1.1
  have hsix := MM.ok_six hmo
  refine n_ ?_
  refine wpM_regionK [6,7,8] rfl fun Q1 hQ1 => ?_
  refine S_ ?_
  refine call_fn (l := []) (first := []) (cap := []) (ps := [.agg m.cs]) (copy_ok m hsix) Tryz.call55 rfl rfl rfl G_ T_ ?_
  rintro out ⟨x, y, z, ⟨⟩, rfl⟩
  refine S_ ?_
  refine call_fn (l := m.ol (B + 2) (B + 3) (B + 4)) (first := []) (cap := []) (ps := [.agg (ocs (B + 2) (B + 3) (B + 4)), .rows 81 [], .int .i64 F]) (run0_ok m hsix F (B + 2) (B + 3) (B + 4) (by omega) (by omega) (by omega)) Tryz.call54 rfl rfl rfl G_ T_ ?_
  rintro out rfl
  refine S_ ?_
  refine hQ1 _ _ (S_ ?_);clear hQ1 Q1
  refine wpM_frz [B + 2, B + 3, B + 4] (m.tb (B + 2) (B + 3) (B + 4)) (by intro q hq; simp at hq; rcases hq with rfl | rfl | rfl <;> simp -implicitDefEqProofs (disch := omega) only [go_sem]) (m.frz hsix T_ T_ T_) ?_
  simp -implicitDefEqProofs (disch := omega) only [go_sem, MM.tb]
  refine e_ Tryz.results25 ?_
  first
  | exact True.intro
  | rw [if_pos hall]
    repeat' apply And.intro
    all_goals first | rfl | trivial
theorem depV_nil : depV [] = ([0], true) := by rfl
theorem codeDepth0_ok : PureF Tryz.prog 26 [.rows 81 []] [.int .i64 0] := by
  refine pureF_of Tryz.func26 rfl Tryz.ntmps26 (by simp) T_ ?_
  intro f0 B Q hQ
  have hd := depths_ok [] (by simp)
  rw [depV_nil] at hd
  refine g_ [0] ?_
  refine n_ ?_
  refine wpM_regionK [3,4] rfl fun Q1 hQ1 => ?_
  refine S_ ?_
  refine cp_ (hd) Tryz.call50 ?_
  refine hQ1 _ _ (S_ ?_);clear hQ1 Q1
  refine g_ [3,11] ?_
  refine c1_ ?_
  refine n_ ?_
  refine wpM_regionK [2] rfl fun Q1 hQ1 => ?_
  refine S_ ?_
  refine cp_ (max_ok [0] (by simp) (by simp)) Tryz.call56 ?_
  refine hQ1 _ _ (S_ ?_);clear hQ1 Q1
  refine e_ Tryz.results26 ?_
  first
  | exact True.intro
  | rfl
end Go.Proofs.YtmicbfojofcigaaGreatDoor
namespace Go.Proofs.YtmicbfojofcigaaGreatDoor
open Go Sg
set_option maxRecDepth 100000
set_option linter.unusedSimpArgs false
set_option linter.unusedVariables false
set_option linter.unusedSectionVars false
set_option maxHeartbeats 4000000
variable [ErrL]
theorem codeOf_len (l : List Sm) (h : Sm.szL l ≤ 1000000) : (codeOf l).length ≤ 2000000 := by
  unfold codeOf
  split
  · have := Sm.cdL_len l 0; omega
  · simp
theorem runS_Sm (m : MM) (l : List Sm) (F : Int) : (runS m l F).1.Sm := by
  unfold runS
  split
  · rename_i h
    simp only [runOk, Bool.and_eq_true] at h
    exact MM.Six.sm (Sm.exL_six l m _ (MM.ok_six h.1.1.1))
  · exact ⟨by simp [noM], by simp [noM], by simp [noM]⟩
theorem codeOf_no {l : List Sm} (h : okS l = false) : codeOf l = [] := by rw [codeOf, h]; rfl
theorem codeOf_long {l : List Sm} (h : okS l = true) (h2 : okC (codeOf l) = false) : ((codeOf l).length : Int) > 400 := by
  by_cases hn : (codeOf l).length ≤ 400
  · rw [okC_codeOf h hn] at h2; cases h2
  · omega
theorem lawCode_ok (code : List Nat) (hcode : ∀ x ∈ code, x < 256) (hl : code.length ≤ 9223372036854775807) : PureF Tryz.prog 5 [.rows 5 (u8s code)] [.bool true] := by
  refine pureF_of Tryz.func5 rfl Tryz.ntmps5 (by simp) T_ ?_
  intro f0 B Q hQ
  refine g_ [0] ?_
  refine g_ [0,15] ?_
  refine c_ (fun hc0 => ?_) fun hc0 => ?_
  ·
    refine g_ [2] ?_
    refine e_ Tryz.results5 ?_
    first
    | exact True.intro
    | trivial
  have hl2 : code.length ≤ 1099511627776 := by
    have : ¬ ((code.length : Int) > 1048576) := by simpa using hc0
    omega
  refine n_ ?_
  refine wpM_regionK [3,4,5] rfl fun Q1 hQ1 => ?_
  refine S_ ?_
  refine call_fn (l := []) (first := []) (cap := []) (ps := [.rows 5 (u8s code)]) (drawRun_ok code hcode hl2) Tryz.call15 rfl rfl rfl G_ T_ ?_
  rintro out ⟨m, l, F, ⟨hm, hsz, hF0, hF1⟩, rfl⟩
  refine S_ ?_
  refine hQ1 _ _ (S_ ?_);clear hQ1 Q1
  refine n_ ?_
  refine wpM_regionK [3,4,5,6] rfl fun Q1 hQ1 => ?_
  refine S_ ?_
  refine cp_ (icodeOf_ok l (by omega)) Tryz.call19 ?_
  have hcl := codeOf_len l hsz
  refine hQ1 _ _ (S_ ?_);clear hQ1 Q1
  refine n_ ?_
  refine wpM_regionK [3,4,5,6,28] rfl fun Q1 hQ1 => ?_
  simp -implicitDefEqProofs (disch := omega) only [go_sem, sameC_self]
  refine call_p (codeOf_ok l (by omega)) Tryz.call21 rfl rfl rfl (by first | rfl | (simp -implicitDefEqProofs (disch := omega) only [go_sem] <;> rfl)) ?_
  simp -implicitDefEqProofs (disch := omega) only [go_sem, sameC_self]
  refine call_p (codeSame_ok (codeOf l) (codeOf l) (by omega)) Tryz.call20 rfl rfl rfl (by first | rfl | (simp -implicitDefEqProofs (disch := omega) only [go_sem] <;> rfl)) ?_
  simp -implicitDefEqProofs (disch := omega) only [go_sem, sameC_self]
  refine hQ1 _ _ (S_ ?_);clear hQ1 Q1
  refine c1_ ?_
  refine n_ ?_
  refine wpM_regionK [3,4,5,6,31] rfl fun Q1 hQ1 => ?_
  refine S_ ?_
  refine cp_ (stmtsOk_ok l (by omega)) Tryz.call13 ?_
  refine hQ1 _ _ (S_ ?_);clear hQ1 Q1
  refine c_ (fun hc2 => ?_) fun hc2 => ?_
  ·
    refine g_ [2] ?_
    refine e_ Tryz.results5 ?_
    first
    | exact True.intro
    | rw [codeOf_no (by simpa using hc2)]; rfl
  refine n_ ?_
  refine wpM_regionK [3,4,5,6,37] rfl fun Q1 hQ1 => ?_
  refine S_ ?_
  refine cp_ (icodeOk_ok (codeOf l) (by omega)) Tryz.call22 ?_
  refine hQ1 _ _ (S_ ?_);clear hQ1 Q1
  refine c_ (fun hc3 => ?_) fun hc3 => ?_
  ·
    refine g_ [2] ?_
    refine e_ Tryz.results5 ?_
    first
    | exact True.intro
    | exact codeOf_long (by simpa using hc2) (by simpa using hc3)
  have hokl : okS l = true := by simpa using hc2
  have hokc : okC (codeOf l) = true := by simpa using hc3
  refine n_ ?_
  refine wpM_regionK [3,4,5,7,8,9] rfl fun Q1 hQ1 => ?_
  refine S_ ?_
  refine cp_ (icodeRun_ok m (codeOf l) F hm (by omega)) Tryz.call23 ?_
  refine hQ1 _ _ (S_ ?_);clear hQ1 Q1
  rw [runC_codeOf m l F hokl hokc]
  refine n_ ?_
  refine wpM_regionK [7,8,9,10,11,12] rfl fun Q1 hQ1 => ?_
  refine S_ ?_
  refine cp_ (isrun_ok m l F hm (by omega)) Tryz.call16 ?_
  refine hQ1 _ _ (S_ ?_);clear hQ1 Q1
  refine n_ ?_
  refine wpM_regionK [2] rfl fun Q1 hQ1 => ?_
  refine SD_ ?_
  first | refine cg_ (fun hb => memSame_ok (runS m l F).1 (runS m l F).1 (runS_Sm m l F)) Tryz.call17 ?_ | refine cpD_ (memSame_ok (runS m l F).1 (runS m l F).1 (runS_Sm m l F)) Tryz.call17 ?_
  refine hQ1 _ _ (S_ ?_);clear hQ1 Q1
  refine e_ Tryz.results5 ?_
  first
  | exact True.intro
  | rw [beq_self_eq_true, beq_self_eq_true, memSame_self]; rfl
end Go.Proofs.YtmicbfojofcigaaGreatDoor
namespace Go.Proofs.YtmicbfojofcigaaGreatDoor
open Go Sg
set_option maxRecDepth 100000
set_option linter.unusedSimpArgs false
set_option linter.unusedVariables false
set_option linter.unusedSectionVars false
set_option maxHeartbeats 4000000
variable [ErrL]
def deadL (l : List Sm) : List Sm := [.mk 3 ⟨0, 0⟩ (.mk 1 0 ⟨0, 0⟩ []) l []]
theorem dead_run (m : MM) (l : List Sm) (F : Int) (hm : m.ok = true) (h0 : 0 ≤ F) (h1 : F ≤ 100) : runC m (codeOf (deadL l)) F = (m, 0, F) ∨ runC m (codeOf (deadL l)) F = (noM, 2, 0) := by
  cases hc : okC (codeOf (deadL l))
  · right
    have : runCok m (codeOf (deadL l)) F = false := by rw [runCok, hc]; simp
    rw [runC, this]; rfl
  · left
    cases ho : okS (deadL l)
    · rw [codeOf_no ho, runC_nil, if_pos (by simp [hm, h0, h1])]
    · rw [runC_codeOf m _ F ho hc, runS, if_pos (by simp [runOk, hm, ho, h0, h1])]
      have he : Sm.exL (deadL l) m F.toNat = (m, F.toNat, false) := by
        have h0 : (Ex.of m (Sm.mk 3 ⟨0, 0⟩ (Ex.mk 1 0 ⟨0, 0⟩ []) l []).e != 0) = false := by
          show (Ex.of m (Ex.mk 1 0 ⟨0, 0⟩ []) != 0) = false
          rw [Ex.of_eq]; rfl
        have hx : (Sm.mk 3 ⟨0, 0⟩ (Ex.mk 1 0 ⟨0, 0⟩ []) l []).ex m F.toNat = (m, F.toNat, false) := by
          rw [Sm.ex_eq, if_neg (by simp [Sm.kind]), if_pos (by simp [Sm.kind]), wh, if_neg (by rw [Bool.not_eq_true]; exact h0)]
        simp only [deadL, Sm.exL, hx]
        rfl
      rw [he]
      show (m, (0 : Int), ((F.toNat : Nat) : Int)) = (m, 0, F)
      have : ((F.toNat : Nat) : Int) = F := by omega
      rw [this]
theorem runC_Sm (m : MM) (p : List GI) (F : Int) (hm : m.Sm) : (runC m [] F).1.Sm := by
  rw [runC_nil]
  split
  · exact hm
  · exact ⟨by simp [noM], by simp [noM], by simp [noM]⟩
theorem dead_sz (l : List Sm) : Sm.szL (deadL l) = 2 + Sm.szL l := by
  simp only [deadL, Sm.szL, Sm.sz, Ex.sz, Ex.szL]; omega
theorem smc_dead (l : List Sm) : smc (deadL l) = [.int .i64 3, .int .i64 0, .int .i64 0, .int .i64 1, .int .i64 0, .int .i64 0, .int .i64 0, .rows 50 [], .rows 52 (Sm.csL l), .rows 52 []] := by
  simp only [smc, deadL, Sm.csL, Sm.cs_eq, List.flatten_cons, List.flatten_nil, List.append_nil]
  simp [Sm.kind, Sm.to', Sm.e, Sm.th, Sm.el, Ex.kind, Ex.n, Ex.a, Ex.kids, Ex.csL, Sm.csL]
theorem lawNone_ok (code : List Nat) (hcode : ∀ x ∈ code, x < 256) (hl : code.length ≤ 9223372036854775807) : PureF Tryz.prog 7 [.rows 5 (u8s code)] [.bool true] := by
  refine pureF_of Tryz.func7 rfl Tryz.ntmps7 (by simp) T_ ?_
  intro f0 B Q hQ
  refine g_ [0] ?_
  refine g_ [0,19] ?_
  refine c_ (fun hc0 => ?_) fun hc0 => ?_
  ·
    refine g_ [2] ?_
    refine e_ Tryz.results7 ?_
    first
    | exact True.intro
    | trivial
  have hl2 : code.length ≤ 1099511627776 := by
    have : ¬ ((code.length : Int) > 1048576) := by simpa using hc0
    omega
  refine n_ ?_
  refine wpM_regionK [3,4,5] rfl fun Q1 hQ1 => ?_
  refine S_ ?_
  refine call_fn (l := []) (first := []) (cap := []) (ps := [.rows 5 (u8s code)]) (drawRun_ok code hcode hl2) Tryz.call15 rfl rfl rfl G_ T_ ?_
  rintro out ⟨m, l, F, ⟨hm, hsz, hF0, hF1⟩, rfl⟩
  refine S_ ?_
  refine hQ1 _ _ (S_ ?_);clear hQ1 Q1
  refine n_ ?_
  have hnil := icodeOf_ok [] (by simp [Sm.szL])
  have hnil2 : PureF Tryz.prog 19 [.emp] [.rows 81 []] := CallF.le1 hnil (by simp -implicitDefEqProofs (disch := omega) only [go_sem, PV.le])
  refine wpM_regionK [3,4,5,6] rfl fun Q1 hQ1 => ?_
  refine S_ ?_
  refine call_p hnil2 Tryz.call19 rfl rfl rfl F_ ?_
  refine S_ ?_
  refine hQ1 _ _ (S_ ?_);clear hQ1 Q1
  refine n_ ?_
  refine wpM_regionK [3,4,5,6,7,8,9] rfl fun Q1 hQ1 => ?_
  refine S_ ?_
  refine cp_ (icodeRun_ok m [] F hm (by simp)) Tryz.call23 ?_
  refine hQ1 _ _ (S_ ?_);clear hQ1 Q1
  refine n_ ?_
  refine wpM_regionK [3,4,5,6,7,8,9,10,11,12] rfl fun Q1 hQ1 => ?_
  refine S_ ?_
  refine cp_ (codeRun0_ok m F hm) Tryz.call25 ?_
  refine hQ1 _ _ (S_ ?_);clear hQ1 Q1
  refine n_ ?_
  refine wpM_regionK [3,4,5,7,8,9,66] rfl fun Q1 hQ1 => ?_
  refine SD_ ?_
  first | refine cg_ (fun hb => memSame_ok (runC m [] F).1 (runC m [] F).1 (runC_Sm m [] F hm)) Tryz.call17 ?_ | refine cpD_ (memSame_ok (runC m [] F).1 (runC m [] F).1 (runC_Sm m [] F hm)) Tryz.call17 ?_
  first | refine cg_ (fun hb => codeDepth0_ok) Tryz.call26 ?_ | refine cpD_ (codeDepth0_ok) Tryz.call26 ?_
  refine hQ1 _ _ (S_ ?_);clear hQ1 Q1
  refine c_ (fun hc1 => ?_) fun hc1 => ?_
  · exfalso; simp [memSame_self] at hc1
  refine n_ ?_
  refine wpM_regionK [3,4,5,7,9,73] rfl fun Q1 hQ1 => ?_
  refine SD_ ?_
  first | refine cg_ (fun hb => stmtsOk_ok l (by omega)) Tryz.call13 ?_ | refine cpD_ (stmtsOk_ok l (by omega)) Tryz.call13 ?_
  refine hQ1 _ _ (S_ ?_);clear hQ1 Q1
  refine c_ (fun hc2 => ?_) fun hc2 => ?_
  ·
    refine g_ [2] ?_
    exact e_ Tryz.results7 True.intro
  have hc2' : (runC m [] F).2.1 = 0 := by
    have := hc2
    simp only [Bool.or_eq_false_iff, bne_eq_false_iff_eq] at this
    exact this.1
  have hall : (m.ok && decide (0 ≤ F) && decide (F ≤ 100)) = true := by
    rw [runC_nil] at hc2'
    split at hc2'
    · rename_i h; exact h
    · cases hc2'
  have hr : runC m [] F = (m, 0, F) := by rw [runC_nil, if_pos hall]
  simp only [Bool.and_eq_true, decide_eq_true_eq] at hall
  have hdr := dead_run m l F hall.1.1 hall.1.2 hall.2
  have hdz := dead_sz l
  have hdc : (codeOf (deadL l)).length ≤ 2000100 := by
    unfold codeOf
    split
    · have := Sm.cdL_len (deadL l) 0; omega
    · simp
  have hds : (runC m (codeOf (deadL l)) F).1.Sm := by
    rcases hdr with h | h
    · rw [h]; exact hm
    · rw [h]; exact ⟨by simp [noM], by simp [noM], by simp [noM]⟩
  simp only [hr]
  refine n_ ?_
  refine wpM_regionK [3,5,7,9,13] rfl fun Q1 hQ1 => ?_
  refine S_ ?_
  refine OpM_le [(77, .sl 52 (B + 3) 0 1), (3, .ptr B 0), (5, .int .i64 F), (7, .ptr (B + 1) 0), (9, .int .i64 F)] [(B + 3, .cells 52 [.int .i64 3, .int .i64 0, .int .i64 0, .int .i64 1, .int .i64 0, .int .i64 0, .int .i64 0, .rows 50 [], .rows 52 (Sm.csL l), .rows 52 []]), (B + 1, .cells 33 m.cs), (B, .cells 33 m.cs)] T_ T_ T_ ?_
  refine OpM_frz [B + 3] [(52, B + 3, 0, 1, Sm.csL (deadL l))] (by intro q hq; simp at hq; subst hq; simp -implicitDefEqProofs (disch := omega) only [go_sem]) (by intro q hq; simp only [List.mem_cons, List.not_mem_nil, or_false] at hq; subst hq; exact ⟨by simp, rowsOf_smc (T := 52) (l := deadL l) (by rw [smc_dead]; simp -implicitDefEqProofs (disch := omega) only [go_sem]) rfl⟩) ?_
  simp -implicitDefEqProofs (disch := omega) only [go_sem]
  refine call_p (icodeOf_ok (deadL l) (by omega)) Tryz.call19 rfl rfl rfl F_ ?_
  refine S_ ?_
  refine hQ1 _ _ (S_ ?_);clear hQ1 Q1
  refine n_ ?_
  refine wpM_regionK [3,5,7,9,14,15,16] rfl fun Q1 hQ1 => ?_
  refine S_ ?_
  refine cp_ (icodeRun_ok m (codeOf (deadL l)) F hm (by omega)) Tryz.call23 ?_
  refine hQ1 _ _ (S_ ?_);clear hQ1 Q1
  refine n_ ?_
  refine wpM_regionK [2] rfl fun Q1 hQ1 => ?_
  refine SD_ ?_
  refine cpD_ (memSame_ok m m hm) Tryz.call17 ?_
  first | refine cg_ (fun hb => memSame_ok (runC m (codeOf (deadL l)) F).1 m hds) Tryz.call17 ?_ | refine cpD_ (memSame_ok (runC m (codeOf (deadL l)) F).1 m hds) Tryz.call17 ?_
  refine hQ1 _ _ (S_ ?_);clear hQ1 Q1
  refine e_ Tryz.results7 ?_
  first
  | exact True.intro
  | rcases hdr with h | h
    · rw [h]; simp [memSame_self]
    · rw [h]; simp [memSame_self]
end Go.Proofs.YtmicbfojofcigaaGreatDoor
