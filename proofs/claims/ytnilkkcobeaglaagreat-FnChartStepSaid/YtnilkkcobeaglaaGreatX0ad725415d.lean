/- A part of a proof: lemmas and contracts of functions; the last text of the claim says what is proved. -/
import Derived.Test.YtnilkkcobeaglaaGreatX4d19e0f0fd
set_option linter.unusedSectionVars false
set_option linter.unusedSimpArgs false
set_option linter.unusedVariables false
namespace Go.Proofs.YtnilkkcobeaglaaGreat
open Go Sg
set_option maxRecDepth 100000
set_option linter.unusedSimpArgs false
set_option linter.unusedVariables false
set_option maxHeartbeats 4000000
def newM (c : Cht) : Mrk := ⟨(List.replicate c.steps.toNat false).set 0 true, List.replicate 6 false⟩
theorem new_ok (c : Cht) (h : 1 ≤ c.steps ∧ c.steps ≤ 6) : PureF Tryz.prog 77 [.agg c.cs] [.agg (newM c).cs] := by
  have hl : (List.replicate c.steps.toNat false).length = c.steps.toNat := List.length_replicate
  refine pureF_of Tryz.func77 rfl Tryz.ntmps77 (by simp) T_ ?_
  intro f0 B Q hQ
  refine wpM_seq ?_
  refine wpM_regionK [1, 2] rfl ?_; intro Q1 hQ1
  refine S_ ?_
  refine hQ1 _ _ ?_; clear hQ1 Q1
  refine S_ ?_
  refine wpM_seq ?_
  refine wpM_keep [2, 3] (wpM_dr mixed 3 1 [B, B + 2, B + 3, B + 4] [⟨[1], [], [], [], false⟩, ⟨[4], [0], [], [], false⟩, ⟨[5], [], [], [1], false⟩, ⟨[], [], [], [2], false⟩, ⟨[6, 7], [], [], [], false⟩, ⟨[], [], [], [3], false⟩, ⟨[3, 8], [3], [3], [], false⟩] [0, 1, 2, 3, 4, 5, 6] [[], [0], [0, 1], [], [0, 1, 2, 3], [], [0, 1, 2, 3, 4, 5]] 4 rfl (by simp) (by decide +kernel) (by simp) ?_)
  intro O A K hO hA hK; simp only [atL_cons, atL_nil, Nat.reduceAdd, Nat.zero_add] at hO hA
  refine SO_ ?_
  refine hK _ ?_; clear hK K hO hA O A
  refine S_ ?_
  refine wpM_seq ?_
  refine wpM_regionK [2, 3] rfl ?_; intro Q1 hQ1
  refine S_ ?_
  refine hQ1 _ _ ?_; clear hQ1 Q1
  refine S_ ?_
  refine wpM_seq ?_
  refine wpM_regionK [2] rfl ?_; intro Q1 hQ1
  refine S_ ?_
  refine hQ1 _ _ ?_; clear hQ1 Q1
  refine S_ ?_
  refine wpM_frz [B + 2, B + 3] [(4, B + 2, 0, c.steps.toNat, rowsB (newM c).on), (4, B + 3, 0, 6, rowsB (newM c).kept)] (by intro q hq; simp at hq; rcases hq with rfl | rfl <;> simp -implicitDefEqProofs (disch := omega) only [go_sem]) (by
    intro q hq
    simp only [List.mem_cons, List.not_mem_nil, or_false] at hq
    rcases hq with rfl | rfl
    · exact ⟨by simp, rowsOf_bls' (T := 4) (newM c).on (by simp -implicitDefEqProofs (disch := omega) only [go_sem]; rfl) (by simp [newM])⟩
    · exact ⟨by simp, rowsOf_bls' (T := 4) (newM c).kept (by simp -implicitDefEqProofs (disch := omega) only [go_sem]; rfl) (by simp [newM])⟩) ?_
  simp -implicitDefEqProofs (disch := omega) only [go_sem]
  refine wpM_ret ?_
  try refine S_ ?_
  refine hQ _ _ rfl rfl rfl (by simp -implicitDefEqProofs (disch := omega) only [go_sem, le_yes, true_or]) ?_ (.inl rfl)
  rw [Tryz.results77]
  try simp -implicitDefEqProofs (disch := omega) only [go_sem, List.cons.injEq, PV.bool.injEq, PV.int.injEq, PV.agg.injEq]
  all_goals
    rfl
theorem Cht.ok_st {c : Cht} (h : c.ok = true) : 1 ≤ c.steps ∧ c.steps ≤ 6 ∧ c.ts.length ≤ 6 ∧ c.as'.length ≤ 6 := by
  unfold Cht.ok at h
  split at h
  · cases h
  · rename_i hh
    simp only [Bool.or_eq_true, decide_eq_true_eq, not_or] at hh
    omega
def chtNew (c : Cht) : Mrk := if c.ok then newM c else ⟨[], []⟩
theorem chtNew_ok (c : Cht) (hc : c.Sm) : PureF Tryz.prog 32 [.agg c.cs] [.agg (chtNew c).cs] := by
  refine pureF_of Tryz.func32 rfl Tryz.ntmps32 (by simp) T_ ?_
  intro f0 B Q hQ
  refine wpM_seq ?_
  refine wpM_regionK [1, 2] rfl ?_; intro Q1 hQ1
  refine S_ ?_
  refine hQ1 _ _ ?_; clear hQ1 Q1
  refine S_ ?_
  refine wpM_seq ?_
  refine wpM_seq ?_
  refine wpM_regionK [1, 2, 5] rfl ?_; intro Q1 hQ1
  refine S_ ?_
  refine call_p (chtOk_ok c hc) Tryz.call34 rfl rfl rfl (by first | rfl | (simp -implicitDefEqProofs (disch := omega) only [go_sem] <;> rfl)) ?_
  refine S_ ?_
  refine hQ1 _ _ ?_; clear hQ1 Q1
  refine S_ ?_
  refine wpM_condK ?_
  refine S_ ?_
  refine ⟨fun hc0 => ?_, fun hc0 => ?_⟩
  ·
    refine wpM_seq ?_
    refine wpM_regionK [2] rfl ?_; intro Q1 hQ1
    refine S_ ?_
    refine hQ1 _ _ ?_; clear hQ1 Q1
    refine S_ ?_
    refine wpM_le [(2, .ptr (B + 1) 0)] [(B + 1, .cells 29 [.rows 4 [], .rows 4 []])] T_ T_ T_ ?_
    refine wpM_ret ?_
    try refine S_ ?_
    refine hQ _ _ rfl rfl rfl (by simp -implicitDefEqProofs (disch := omega) only [go_sem, le_yes, true_or]) ?_ (.inl rfl)
    rw [Tryz.results32]
    try simp -implicitDefEqProofs (disch := omega) only [go_sem, List.cons.injEq, PV.bool.injEq, PV.int.injEq, PV.agg.injEq]
    all_goals
      first
      | (have h1 : c.ok = false := by simpa using hc0
         rw [chtNew, h1]; constructor <;> rfl)
      | (have h1 : c.ok = true := by simpa using hc0
         rw [chtNew, h1]; constructor <;> rfl)
  refine wpM_skip ?_
  refine S_ ?_
  refine wpM_seq ?_
  refine wpM_regionK [2] rfl ?_; intro Q1 hQ1
  refine S_ ?_
  refine call_p (new_ok c ⟨(Cht.ok_st (by simpa using hc0)).1, (Cht.ok_st (by simpa using hc0)).2.1⟩) Tryz.call77 rfl rfl rfl (by first | rfl | (simp -implicitDefEqProofs (disch := omega) only [go_sem] <;> rfl)) ?_
  refine S_ ?_
  refine hQ1 _ _ ?_; clear hQ1 Q1
  refine S_ ?_
  refine wpM_ret ?_
  try refine S_ ?_
  refine hQ _ _ rfl rfl rfl (by simp -implicitDefEqProofs (disch := omega) only [go_sem, le_yes, true_or]) ?_ (.inl rfl)
  rw [Tryz.results32]
  try simp -implicitDefEqProofs (disch := omega) only [go_sem, List.cons.injEq, PV.bool.injEq, PV.int.injEq, PV.agg.injEq]
  all_goals
    first
    | (have h1 : c.ok = false := by simpa using hc0
       rw [chtNew, h1]; constructor <;> rfl)
    | (have h1 : c.ok = true := by simpa using hc0
       rw [chtNew, h1]; constructor <;> rfl)
def mstep (c : Cht) (kp on bg : List Bool) (m : MM) (a : GAct) : MM := m.put a.to' (numIs (kp.getD a.to'.at'.toNat false || lit c a.to'.at' on bg))
def mfold (c : Cht) (kp on bg : List Bool) (m : MM) (l : List GAct) : MM := l.foldl (mstep c kp on bg) m
@[go_sem] theorem mfold_nil (c : Cht) (kp on bg : List Bool) (m : MM) : mfold c kp on bg m [] = m := rfl
theorem mfold_take (c : Cht) (kp on bg : List Bool) (m : MM) (l : List GAct) (i : Nat) (h : i < l.length) : mfold c kp on bg m (l.take (i + 1)) = mstep c kp on bg (mfold c kp on bg m (l.take i)) (l.getD i default) := by
  rw [List.take_succ_eq_append_getElem h, mfold, List.foldl_append]
  simp [List.getD, h, mfold]
theorem mfold_six (c : Cht) (kp on bg : List Bool) (l : List GAct) : ∀ m : MM, m.Six → (mfold c kp on bg m l).Six := by
  induction l with
  | nil => intro m h; exact h
  | cons a l ih => intro m h; exact ih _ (MM.put_six h _ _)
def stepM (c : Cht) (k : Mrk) (m : MM) : Mrk × MM :=
  let fs := fires m c k.on
  let on := goes c k.on fs
  let kp := keptM c k.kept on
  (⟨on, kp⟩, mfold c kp on (begins c fs) m c.as')
theorem fires_Fs (m : MM) (c : Cht) (on : List Bool) : Fs c (fires m c on) ∧ (fires m c on).length ≤ c.ts.length := by
  have h : ∀ n, (∀ x ∈ (fpre m c on n).2, 0 ≤ x ∧ x < (n : Int)) := by
    intro n
    induction n with
    | zero => intro x hx; simp [fpre] at hx
    | succ n ih =>
      rw [fpre_succ, fstep]
      intro x hx
      split at hx
      · have := ih x hx; omega
      · simp only [List.mem_append, List.mem_singleton] at hx
        rcases hx with hx | rfl
        · have := ih x hx; omega
        · omega
  refine ⟨fun i hi => ?_, (fpre_len m c on c.ts.length).2⟩
  refine h c.ts.length _ ?_
  rw [List.getD_eq_getElem?_getD, List.getElem?_eq_getElem hi]; exact List.getElem_mem hi
structure Cht.Go (c : Cht) (n : Nat) : Prop where
  steps : c.steps.toNat = n
  st : 0 ≤ c.steps
  n6 : n ≤ 6
  t : ∀ i, i < c.ts.length → (c.ts.getD i default).Go n
  a : ∀ i, i < c.as'.length → (c.as'.getD i default).In n
theorem step_ok (c : Cht) (k : Mrk) (m : MM) (x y z : Nat) (hm : m.Six) (h1 : x ≠ y) (h2 : x ≠ z) (h3 : y ≠ z) (hc : c.Sm) (hk : k.kept.length = 6) (hg : c.Go k.on.length) :
    CallF Tryz.prog 35 [.agg c.cs, .agg k.cs, .agg (ocs x y z)] (m.ol x y z) 0 (fun _ o => o = { rs := [.agg (stepM c k m).1.cs, .agg (ocs x y z)], u := (stepM c k m).2.ou x y z }) := by
  have hts := hc.ts
  have has := hc.as'
  have hon6 := hg.n6
  have hst := hg.st
  have hst2 := hg.steps
  obtain ⟨hfs, hfl⟩ := fires_Fs m c k.on
  have hs : stepM c k m = (⟨goes c k.on (fires m c k.on), keptM c k.kept (goes c k.on (fires m c k.on))⟩, mfold c (keptM c k.kept (goes c k.on (fires m c k.on))) (goes c k.on (fires m c k.on)) (begins c (fires m c k.on)) m c.as') := rfl
  rw [hs]
  clear hs
  generalize hF : fires m c k.on = fs at *
  have honl : (goes c k.on fs).length = k.on.length := goes_len c k.on fs
  generalize hO : goes c k.on fs = on at *
  have hkpl : (keptM c k.kept on).length = 6 := by rw [keptM_len, hk]
  generalize hK : keptM c k.kept on = kp at *
  have hbgl : (begins c fs).length = on.length := by rw [begins, spread_len, List.length_replicate, honl, hst2]
  generalize hG : begins c fs = bg at *
  refine callF_of' Tryz.func35 rfl Tryz.ntmps35 (by simp) ?_
  intro f0 B ns Q hB hns hQ
  have hx : x < B := hB x (by simp [hasKey, lk, MM.ol])
  have hy : y < B := hB y (by simp [hasKey, lk, MM.ol, h1])
  have hz : z < B := hB z (by simp [hasKey, lk, MM.ol, h2, h3])
  obtain rfl : ns = [] := List.eq_nil_of_length_eq_zero hns
  refine wpM_seq ?_
  refine wpM_regionK [3, 4, 5, 6, 7] rfl ?_; intro Q1 hQ1
  refine S_ ?_
  refine hQ1 _ _ ?_; clear hQ1 Q1
  refine S_ ?_
  refine wpM_seq ?_
  refine wpM_regionK [3, 4, 5, 6, 7, 8] rfl ?_; intro Q1 hQ1
  refine S_ ?_
  refine call_rs (fires_ok c k m x y z hm h1 h2 h3 hc (by omega) hg.t) (by simp -implicitDefEqProofs (disch := omega) only [go_sem, h1, h2, h3]) Tryz.call80 rfl rfl rfl F_ ?_
  rw [hF]
  refine S_ ?_
  refine hQ1 _ _ ?_; clear hQ1 Q1
  refine S_ ?_
  refine wpM_seq ?_
  refine wpM_regionK [3, 4, 5, 6, 7, 8, 9] rfl ?_; intro Q1 hQ1
  refine S_ ?_
  refine call_p (hG ▸ begins_ok c fs hc (by omega) (by omega) hfs (hst2 ▸ hg.t)) Tryz.call81 rfl rfl rfl (by first | rfl | (simp -implicitDefEqProofs (disch := omega) only [go_sem] <;> rfl)) ?_
  refine S_ ?_
  refine hQ1 _ _ ?_; clear hQ1 Q1
  refine S_ ?_
  refine wpM_seq ?_
  refine wpM_regionK [3, 4, 5, 6, 7, 9] rfl ?_; intro Q1 hQ1
  refine S_ ?_
  refine call_p (hO ▸ go_ok c k.on fs hc (by omega) (by omega) hfs hg.t) Tryz.call82 rfl rfl rfl (by first | rfl | (simp -implicitDefEqProofs (disch := omega) only [go_sem] <;> rfl)) ?_
  refine S_ ?_
  refine hQ1 _ _ ?_; clear hQ1 Q1
  refine S_ ?_
  refine wpM_seq ?_
  refine wpM_regionK [3, 4, 5, 6, 7, 9] rfl ?_; intro Q1 hQ1
  refine S_ ?_
  refine call_p (hK ▸ kept_ok c k.kept on hc hk (by omega) (honl ▸ hg.a)) Tryz.call83 rfl rfl rfl (by first | rfl | (simp -implicitDefEqProofs (disch := omega) only [go_sem] <;> rfl)) ?_
  refine S_ ?_
  refine hQ1 _ _ ?_; clear hQ1 Q1
  refine S_ ?_
  refine wpM_seq ?_
  refine wpM_seq ?_
  refine wpM_regionK [3, 4, 5, 6, 7, 9, 10] rfl ?_; intro Q1 hQ1
  refine S_ ?_
  refine hQ1 _ _ ?_; clear hQ1 Q1
  refine S_ ?_
  refine wpM_block ?_
  refine wpM_loopS (fun s n s' => ∃ (i0 M0 : Nat) , i0 + n = c.as'.length ∧ s.M ≤ M0 ∧ (Tr i0) ∧ s' = { s with env := setE 10 (.int .i64 (i0 : Nat)) s.env, l := setl x (.cells 3 (ints (mfold c kp on bg m (c.as'.take i0)).i)) (setl y (.cells 3 (ints (mfold c kp on bg m (c.as'.take i0)).o)) (setl z (.cells 3 (ints (mfold c kp on bg m (c.as'.take i0)).v)) s.l)), M := M0 }) (c.as'.length) ?_ ?_
  ·
    refine .of' _ _ ⟨0, _, by omega, Nat.le_refl _, trivial, rfl⟩ ?_ ?_ ?_ <;> (first | (simp -implicitDefEqProofs (disch := omega) only [go_sem, PV.int.injEq, Int.natCast_add, Int.natCast_one, Int.natCast_zero, true_or, le_yes]; done) | rfl | trivial | (simp -implicitDefEqProofs (disch := omega) only [go_sem, PV.int.injEq, Int.natCast_add, Int.natCast_one, Int.natCast_zero, true_or]; simp; done) | (simp; done))
  rintro n0 s' ⟨i0, M0, hi0, hM0, hv0, rfl⟩
  try dsimp only at hM0
  try refine S_ ?_
  refine wpM_seq ?_
  refine wpM_seq ?_
  refine wpM_regionK [3, 4, 5, 6, 7, 9, 10, 36] rfl ?_; intro Q1 hQ1
  refine S_ ?_
  refine hQ1 _ _ ?_; clear hQ1 Q1
  refine S_ ?_
  refine wpM_condK ?_
  refine S_ ?_
  refine ⟨fun hc0 => ?_, fun hc0 => ?_⟩
  ·
    have hl0 : i0 < c.as'.length := by omega
    have hin : (c.as'.getD i0 default).In k.on.length := hg.a i0 hl0
    have hin2 := hin
    unfold GAct.In at hin
    have hms : (mfold c kp on bg m (c.as'.take i0)).Six := mfold_six _ _ _ _ _ _ hm
    have hmt := mfold_take c kp on bg m c.as' i0 hl0
    generalize hM : mfold c kp on bg m (c.as'.take i0) = mm at *
    refine wpM_skip ?_
    refine S_ ?_
    refine wpM_seq ?_
    refine wpM_block ?_
    refine wpM_seq ?_
    refine wpM_regionK [3, 4, 5, 6, 7, 9, 10, 11] rfl ?_; intro Q1 hQ1
    refine S_ ?_
    refine hQ1 _ _ ?_; clear hQ1 Q1
    refine S_ ?_
    refine wpM_keep [3, 4, 5, 6, 7, 9, 10] (wpM_dr mixed 0 6 [B, B + 1, B + 2, x, y, z] [⟨[5], [2], [], [], false⟩, ⟨[3], [], [], [], false⟩, ⟨[47], [0], [], [], false⟩, ⟨[10], [], [], [], false⟩, ⟨[48, 49], [], [], [], false⟩, ⟨[50], [], [], [], false⟩, ⟨[51], [], [], [], false⟩, ⟨[4], [], [], [], false⟩, ⟨[53], [1], [], [], false⟩, ⟨[11], [], [], [], false⟩, ⟨[54, 55], [], [], [], false⟩, ⟨[56], [], [], [], false⟩, ⟨[57], [], [], [], false⟩, ⟨[3, 58], [0], [], [], false⟩, ⟨[11, 58], [], [], [], false⟩, ⟨[4, 58], [], [], [], false⟩, ⟨[58, 61], [1], [], [], false⟩, ⟨[9, 58], [], [], [], false⟩, ⟨[58, 59, 60, 62, 63], [], [], [], true⟩, ⟨[58, 64], [], [], [], false⟩, ⟨[65], [], [], [], true⟩, ⟨[46, 52, 66], [3, 4, 5], [3, 4, 5], [], true⟩, ⟨[5, 67], [2], [2], [], false⟩] [0, 1, 2, 3, 4, 5, 6, 7, 8, 9, 10, 11, 12, 13, 14, 15, 16, 17, 18, 19, 20, 21, 22] [[], [], [1], [], [1, 2, 3], [1, 2, 3, 4], [1, 2, 3, 4, 5], [], [7], [], [7, 8, 9], [7, 8, 9, 10], [7, 8, 9, 10, 11], [7, 8, 9, 10, 11, 12], [7, 8, 9, 10, 11, 12], [7, 8, 9, 10, 11, 12], [7, 8, 9, 10, 11, 12, 15], [7, 8, 9, 10, 11, 12], [7, 8, 9, 10, 11, 12, 13, 14, 15, 16, 17], [7, 8, 9, 10, 11, 12, 13, 14, 15, 16, 17, 18], [7, 8, 9, 10, 11, 12, 13, 14, 15, 16, 17, 18, 19], [0, 1, 2, 3, 4, 5, 6, 7, 8, 9, 10, 11, 12, 13, 14, 15, 16, 17, 18, 19, 20], [0, 1, 2, 3, 4, 5, 6, 7, 8, 9, 10, 11, 12, 13, 14, 15, 16, 17, 18, 19, 20, 21]] 6 rfl (by simp [h1, h2, h3]; omega) (by decide +kernel) (by simp) ?_)
    intro O A K hO hA hK; simp only [atL_cons, atL_nil, Nat.reduceAdd, Nat.zero_add] at hO hA
    refine SE_ ?_
    first | refine loudG_p (fun hb => lit_ok c (c.as'.getD i0 default).to'.at' on bg hc (by omega) hbgl (honl ▸ hg.a)) Tryz.call86 rfl (fun hb => by simp -implicitDefEqProofs (disch := omega) only [go_sem]) (fun hb => by first | rfl | (simp -implicitDefEqProofs (disch := omega) only [go_sem, hb, gd_of hb] <;> rfl)) rfl ?_ | refine loud_p (lit_ok c (c.as'.getD i0 default).to'.at' on bg hc (by omega) hbgl (honl ▸ hg.a)) Tryz.call86 rfl rfl (by first | rfl | (simp -implicitDefEqProofs (disch := omega) only [go_sem] <;> rfl)) rfl ?_
    refine SE_ ?_
    refine loud_p (is_ok (kp.getD (c.as'.getD i0 default).to'.at'.toNat false || lit c (c.as'.getD i0 default).to'.at' on bg)) Tryz.call85 rfl rfl (by first | rfl | (simp -implicitDefEqProofs (disch := omega) only [go_sem] <;> rfl)) rfl ?_
    refine SE_ ?_
    refine loud_fn (first := []) (cap := []) (l := mm.ol x y z) (put_ok mm (c.as'.getD i0 default).to' (numIs (kp.getD (c.as'.getD i0 default).to'.at'.toNat false || lit c (c.as'.getD i0 default).to'.at' on bg)) x y z hms h1 h2 h3 (by omega)) Tryz.call84 rfl rfl F_ (subG_spec (by simp -implicitDefEqProofs (disch := omega) only [go_sem, h1, h2, h3])) rfl ?_
    rintro out rfl
    refine ⟨rfl, ?_⟩
    refine SE_ ?_
    refine hK _ ?_; clear hK K hO hA O A
    refine S_ ?_
    refine wpM_regionK [3, 4, 5, 6, 7, 9, 10] rfl ?_; intro Q1 hQ1
    refine S_ ?_
    refine hQ1 _ _ ?_; clear hQ1 Q1
    refine S_ ?_
    change mfold c kp on bg m (c.as'.take (i0 + 1)) = mm.put (c.as'.getD i0 default).to' (numIs (kp.getD (c.as'.getD i0 default).to'.at'.toNat false || lit c (c.as'.getD i0 default).to'.at' on bg)) at hmt
    rw [← hmt]
    refine .of' _ _ ⟨n0 - 1, by omega, i0 + 1, _, by omega, ?_, ?_, rfl⟩ ?_ ?_ ?_
    · first | omega | (simp -implicitDefEqProofs (disch := omega) only [go_sem]; done) | (simp -implicitDefEqProofs (disch := omega) only [go_sem]; omega)
    · first | trivial | omega
    all_goals (first | (simp -implicitDefEqProofs (disch := omega) only [go_sem, PV.int.injEq, Int.natCast_add, Int.natCast_one, Int.natCast_zero, true_or, le_yes]; done) | rfl | trivial | (simp -implicitDefEqProofs (disch := omega) only [go_sem, PV.int.injEq, Int.natCast_add, Int.natCast_one, Int.natCast_zero, true_or]; simp; done) | (simp; done))
  refine wpM_exit ?_
  refine S_ ?_
  refine wpM_seq ?_
  have hie : i0 = c.as'.length := by omega
  rw [hie, List.take_of_length_le (Nat.le_refl _)]
  refine wpM_keep [6, 7] (wpM_dr mixed 0 4 [B+1, B+2, B+3, B+4] [⟨[4], [0], [], [], false⟩, ⟨[5], [1], [], [], false⟩, ⟨[6, 68], [2], [2], [], false⟩, ⟨[7, 69], [3], [3], [], false⟩] [0, 1, 2, 3] [[], [], [0], [0, 1, 2]] 4 rfl (by simp) (by decide +kernel) (by simp) ?_)
  intro O A K hO hA hK; simp only [atL_cons, atL_nil, Nat.reduceAdd, Nat.zero_add] at hO hA
  refine SO_ ?_
  refine hK _ ?_; clear hK K hO hA O A
  refine S_ ?_
  refine wpM_ret ?_
  try refine S_ ?_
  refine hQ _ _ (ret0 (MM.ou _ x y z) rfl rfl rfl (by rw [Tryz.results35]; simp (maxSteps := 1000000) -implicitDefEqProofs (disch := omega) only [go_sem] <;> rfl) rfl ?_ ?_ ?_ ?_)
  all_goals simp -implicitDefEqProofs (disch := omega) only [go_sem, h1, h2, h3, true_or, or_true]
theorem plOk_in {l : List Int} {b : Int} (h : plOk l b = true) : ∀ i, i < l.length → 0 ≤ l.getD i 0 ∧ l.getD i 0 < b := by
  intro i hi
  simp only [plOk, Bool.and_eq_true, List.all_eq_true, List.mem_range] at h
  have := h.1 i hi
  simp only [plBad, Bool.not_eq_true', Bool.or_eq_false_iff, decide_eq_false_iff_not] at this
  omega
theorem Cht.ok_Go {c : Cht} (h : c.ok = true) : c.Go c.steps.toNat := by
  have h0 := Cht.ok_st h
  unfold Cht.ok at h
  split at h
  · cases h
  · simp only [Bool.and_eq_true, List.all_eq_true] at h
    refine ⟨rfl, by omega, by omega, fun i hi => ?_, fun i hi => ?_⟩
    · have hm : c.ts.getD i default ∈ c.ts := by rw [List.getD_eq_getElem?_getD, List.getElem?_eq_getElem hi]; exact List.getElem_mem hi
      have := h.1 _ hm
      simp only [Trn.bad, Bool.not_eq_true', Bool.or_eq_false_iff, Bool.not_eq_false'] at this
      obtain ⟨⟨a1, a2⟩, a3⟩ := this
      simp only [Ex.ok, Bool.and_eq_true] at a3
      exact ⟨fun j hj => by have := plOk_in a1 j hj; omega, fun j hj => by have := plOk_in a2 j hj; omega, a3.1⟩
    · have hm : c.as'.getD i default ∈ c.as' := by rw [List.getD_eq_getElem?_getD, List.getElem?_eq_getElem hi]; exact List.getElem_mem hi
      have := h.2 _ hm
      simp only [GAct.bad, Bool.not_eq_true', Bool.or_eq_false_iff, Bool.not_eq_false', decide_eq_false_iff_not] at this
      obtain ⟨⟨⟨⟨_, a2⟩, a3⟩, a4⟩, _⟩ := this
      have := AD.ok_at a4
      exact ⟨by omega, by omega, this.1, this.2⟩
theorem stepM_len (c : Cht) (k : Mrk) (m : MM) : (stepM c k m).1.on.length = k.on.length ∧ (stepM c k m).1.kept.length = k.kept.length := ⟨goes_len _ _ _, keptM_len _ _ _⟩
theorem stepM_six {c : Cht} {k : Mrk} {m : MM} (hm : m.Six) : (stepM c k m).2.Six := mfold_six _ _ _ _ _ _ hm
def chtStep (c : Cht) (k : Mrk) (m : MM) : Mrk × MM := if c.ok && mrkOk c k && m.ok then stepM c k m else (⟨[], []⟩, ⟨[], [], []⟩)
theorem chtStep_ok (c : Cht) (k : Mrk) (m : MM) (hc : c.Sm) (hm : m.Sm) : PureF Tryz.prog 10 [.agg c.cs, .agg k.cs, .agg m.cs] [.agg (chtStep c k m).1.cs, .agg (chtStep c k m).2.cs] := by
  refine pureF_of Tryz.func10 rfl Tryz.ntmps10 (by simp) T_ ?_
  intro f0 B Q hQ
  refine wpM_seq ?_
  refine wpM_regionK [3, 4, 5, 6, 7] rfl ?_; intro Q1 hQ1
  refine S_ ?_
  refine hQ1 _ _ ?_; clear hQ1 Q1
  refine S_ ?_
  refine wpM_seq ?_
  refine wpM_seq ?_
  refine wpM_regionK [3, 4, 5, 6, 7, 23] rfl ?_; intro Q1 hQ1
  refine SD_ ?_
  refine call_p (chtOk_ok c hc) Tryz.call34 rfl rfl rfl (by first | rfl | (simp -implicitDefEqProofs (disch := omega) only [go_sem] <;> rfl)) ?_
  refine SD_ ?_
  first | refine callG_p (fun hb => mrkOk_ok c k) Tryz.call41 rfl rfl (fun hb => by simp -implicitDefEqProofs (disch := omega) only [go_sem]) (fun hb => by first | rfl | (simp -implicitDefEqProofs (disch := omega) only [go_sem, hb, gd_of hb] <;> rfl)) ?_ | refine call_p (mrkOk_ok c k) Tryz.call41 rfl rfl rfl (by first | rfl | (simp -implicitDefEqProofs (disch := omega) only [go_sem] <;> rfl)) ?_
  refine SD_ ?_
  first | refine callG_p (fun hb => memOk_ok m hm) Tryz.call42 rfl rfl (fun hb => by simp -implicitDefEqProofs (disch := omega) only [go_sem]) (fun hb => by first | rfl | (simp -implicitDefEqProofs (disch := omega) only [go_sem, hb, gd_of hb] <;> rfl)) ?_ | refine call_p (memOk_ok m hm) Tryz.call42 rfl rfl rfl (by first | rfl | (simp -implicitDefEqProofs (disch := omega) only [go_sem] <;> rfl)) ?_
  refine SD_ ?_
  refine hQ1 _ _ ?_; clear hQ1 Q1
  refine S_ ?_
  refine wpM_condK ?_
  refine S_ ?_
  refine ⟨fun hc0 => ?_, fun hc0 => ?_⟩
  ·
    refine wpM_seq ?_
    refine wpM_regionK [6, 7] rfl ?_; intro Q1 hQ1
    refine S_ ?_
    refine hQ1 _ _ ?_; clear hQ1 Q1
    refine S_ ?_
    have hcs : chtStep c k m = (⟨[], []⟩, ⟨[], [], []⟩) := by rw [chtStep, if_neg]; intro hh; rw [Bool.and_eq_true, Bool.and_eq_true] at hh; rw [hh.1.1, hh.1.2, hh.2] at hc0; cases hc0
    refine wpM_le [(6, .ptr (B + 3) 0), (7, .ptr (B + 4) 0)] [(B + 3, .cells 29 [.rows 4 [], .rows 4 []]), (B + 4, .cells 32 [.rows 3 [], .rows 3 [], .rows 3 []])] T_ T_ T_ ?_
    refine wpM_ret ?_
    try refine S_ ?_
    refine hQ _ _ rfl rfl rfl (by simp -implicitDefEqProofs (disch := omega) only [go_sem, le_yes, true_or]) ?_ (.inl rfl)
    rw [Tryz.results10]
    try simp -implicitDefEqProofs (disch := omega) only [go_sem, List.cons.injEq, PV.bool.injEq, PV.int.injEq, PV.agg.injEq]
    all_goals
      rw [hcs]
      repeat' apply And.intro
      all_goals rfl
  have hok : (c.ok && mrkOk c k && m.ok) = true := by
    simp only [Bool.or_eq_false_iff, Bool.not_eq_false'] at hc0
    rw [hc0.1.1, hc0.1.2, hc0.2]; rfl
  have hcs : chtStep c k m = stepM c k m := by rw [chtStep, if_pos hok]
  rw [Bool.and_eq_true, Bool.and_eq_true] at hok
  obtain ⟨⟨hok1, hok2⟩, hok3⟩ := hok
  have hsix := MM.ok_six hok3
  have hst := Cht.ok_st hok1
  simp only [mrkOk, Bool.and_eq_true, beq_iff_eq] at hok2
  have hgo : c.Go k.on.length := by
    have := Cht.ok_Go hok1
    rwa [show c.steps.toNat = k.on.length by omega] at this
  have hl2 := stepM_len c k m
  have hs6 := stepM_six (c := c) (k := k) hsix
  have e1 := hsix.i
  have e2 := hsix.o
  have e3 := hsix.v
  have d1 := hs6.i
  have d2 := hs6.o
  have d3 := hs6.v
  refine wpM_skip ?_
  refine S_ ?_
  refine wpM_seq ?_
  refine wpM_keep [6, 7, 8, 9] (wpM_dr mixed 5 3 [B, B + 1, B + 2, B + 5, B + 6, B + 7, B + 8, B + 9] [⟨[3], [0], [], [], false⟩, ⟨[4], [1], [], [], false⟩, ⟨[28], [], [], [], true⟩, ⟨[5], [2], [], [], false⟩, ⟨[30], [], [], [3, 4, 5], true⟩, ⟨[27, 29, 31], [3, 4, 5], [3, 4, 5], [], true⟩, ⟨[32], [], [], [], false⟩, ⟨[26], [], [], [], false⟩, ⟨[26], [], [], [], false⟩, ⟨[], [], [], [6], false⟩, ⟨[], [], [], [7], false⟩, ⟨[8, 33], [6], [6], [], false⟩, ⟨[9, 34], [7], [7], [], false⟩] [0, 1, 3, 9, 10, 2, 4, 5, 6, 7, 8, 11, 12] [[], [], [1], [], [1, 2, 3], [0, 1, 2, 3, 4], [0, 1, 2, 3, 4, 5], [0, 1, 2, 3, 4, 5, 6], [0, 1, 2, 3, 4, 5, 6], [], [], [0, 1, 2, 3, 4, 5, 6, 7, 9, 10], [0, 1, 2, 3, 4, 5, 6, 7, 8, 9, 10, 11]] 8 rfl (by simp) (by decide +kernel) (by simp) ?_)
  intro O A K hO hA hK; simp only [atL_cons, atL_nil, Nat.reduceAdd, Nat.zero_add] at hO hA
  refine SO_ ?_
  refine loud_p (mcopy_ok k (by omega) (by omega)) Tryz.call43 rfl rfl (by first | rfl | (simp -implicitDefEqProofs (disch := omega) only [go_sem] <;> rfl)) rfl ?_
  refine SO_ ?_
  refine loud_fn (first := []) (cap := []) (l := []) (copy_ok m hsix) Tryz.call44 rfl rfl F_ (fun i o h => by simp [lk] at h) rfl ?_
  rintro out ⟨x, y, z, hns, rfl⟩
  injection hns with hn1 hns
  injection hns with hn2 hns
  injection hns with hn3 hns
  subst hn1 hn2 hn3
  refine ⟨rfl, ?_⟩
  refine SO_ ?_
  refine loud_fn (first := []) (cap := []) (l := m.ol (B + 5) (B + 6) (B + 7)) (step_ok c k m (B + 5) (B + 6) (B + 7) hsix (by omega) (by omega) (by omega) hc (by omega) hgo) Tryz.call35 rfl rfl F_ (subG_spec T_) rfl ?_
  rintro out rfl
  refine ⟨rfl, ?_⟩
  refine SO_ ?_
  refine hK _ ?_; clear hK K hO hA O A
  refine S_ ?_
  generalize hS : stepM c k m = S at *
  refine wpM_frz [B + 5, B + 6, B + 7] (S.2.tb (B + 5) (B + 6) (B + 7)) (by intro q hq; simp at hq; rcases hq with rfl | rfl | rfl <;> simp -implicitDefEqProofs (disch := omega) only [go_sem]) (S.2.frz hs6 T_ T_ T_) ?_
  simp -implicitDefEqProofs (disch := omega) only [go_sem, MM.tb]
  refine wpM_seq ?_
  refine wpM_keep [6, 7] (wpM_dr mixed 3 4 [B + 3, B + 4, B + 8, B + 9, B + 10, B + 11, B + 12] [⟨[8], [2], [], [], false⟩, ⟨[35], [], [], [], true⟩, ⟨[9], [3], [], [], false⟩, ⟨[37], [], [], [4, 5, 6], true⟩, ⟨[6, 36], [0], [0], [], false⟩, ⟨[7, 38], [1], [1], [], false⟩] [0, 2, 1, 3, 4, 5] [[], [0], [], [0, 1, 2], [0, 1, 2, 3], [0, 1, 2, 3, 4]] 7 rfl (by simp) (by decide +kernel) (by simp) ?_)
  intro O A K hO hA hK; simp only [atL_cons, atL_nil, Nat.reduceAdd, Nat.zero_add] at hO hA
  refine SO_ ?_
  refine loud_p (mcopy_ok S.1 (by omega) (by omega)) Tryz.call43 rfl rfl (by first | rfl | (simp -implicitDefEqProofs (disch := omega) only [go_sem] <;> rfl)) rfl ?_
  refine SO_ ?_
  refine loud_fn (first := []) (cap := []) (l := []) (copy_ok S.2 hs6) Tryz.call44 rfl rfl F_ (fun i o h => by simp [lk] at h) rfl ?_
  rintro out ⟨x, y, z, hns, rfl⟩
  injection hns with hn1 hns
  injection hns with hn2 hns
  injection hns with hn3 hns
  subst hn1 hn2 hn3
  refine ⟨rfl, ?_⟩
  refine SO_ ?_
  refine hK _ ?_; clear hK K hO hA O A
  refine S_ ?_
  refine wpM_frz [B + 10, B + 11, B + 12] (S.2.tb (B + 10) (B + 11) (B + 12)) (by intro q hq; simp at hq; rcases hq with rfl | rfl | rfl <;> simp -implicitDefEqProofs (disch := omega) only [go_sem]) (S.2.frz hs6 T_ T_ T_) ?_
  simp -implicitDefEqProofs (disch := omega) only [go_sem, MM.tb]
  refine wpM_ret ?_
  try refine S_ ?_
  refine hQ _ _ rfl rfl rfl (by simp -implicitDefEqProofs (disch := omega) only [go_sem, le_yes, true_or]) ?_ (.inl rfl)
  rw [Tryz.results10]
  try simp -implicitDefEqProofs (disch := omega) only [go_sem, List.cons.injEq, PV.bool.injEq, PV.int.injEq, PV.agg.injEq]
  all_goals
    rw [hcs]
    repeat' apply And.intro
    all_goals rfl
end Go.Proofs.YtnilkkcobeaglaaGreat
namespace Go.Proofs.YtnilkkcobeaglaaGreat
open Go Sg
set_option maxRecDepth 100000
set_option linter.unusedSimpArgs false
set_option linter.unusedVariables false
set_option maxHeartbeats 4000000
theorem icut_ok (n : Int) : PureF Tryz.prog 133 [.int .i64 n] [.int .i64 (cut n)] := by
  refine pureF_of Tryz.func133 rfl Tryz.ntmps133 (by simp) T_ ?_
  intro f0 B Q hQ
  refine wpM_seq ?_
  refine wpM_regionK [0] rfl ?_; intro Q1 hQ1
  refine S_ ?_
  refine hQ1 _ _ ?_; clear hQ1 Q1
  refine S_ ?_
  refine wpM_seq ?_
  refine wpM_regionK [2] rfl ?_; intro Q1 hQ1
  refine S_ ?_
  refine hQ1 _ _ ?_; clear hQ1 Q1
  refine S_ ?_
  refine wpM_ret ?_
  try refine S_ ?_
  refine hQ _ _ rfl rfl rfl (by simp -implicitDefEqProofs (disch := omega) only [go_sem, le_yes, true_or]) ?_ (.inl rfl)
  rw [Tryz.results133]
  try simp -implicitDefEqProofs (disch := omega) only [go_sem, List.cons.injEq, PV.bool.injEq, PV.int.injEq, PV.agg.injEq]
  all_goals
    unfold cut; omega
def isNum (n : Int) : Bool := decide (n ≥ -1000000) && decide (n ≤ 1000000)
theorem isNum_cut (n : Int) : isNum n = (cut n == n) := by
  unfold isNum cut
  rw [Bool.eq_iff_iff]
  simp only [Bool.and_eq_true, decide_eq_true_eq, beq_iff_eq]
  omega
theorem isNum_ok (n : Int) : PureF Tryz.prog 101 [.int .i64 n] [.bool (isNum n)] := by
  refine pureF_of Tryz.func101 rfl Tryz.ntmps101 (by simp) T_ ?_
  intro f0 B Q hQ
  refine wpM_seq ?_
  refine wpM_regionK [0] rfl ?_; intro Q1 hQ1
  refine S_ ?_
  refine hQ1 _ _ ?_; clear hQ1 Q1
  refine S_ ?_
  refine wpM_seq ?_
  refine wpM_regionK [2] rfl ?_; intro Q1 hQ1
  refine SD_ ?_
  refine hQ1 _ _ ?_; clear hQ1 Q1
  refine S_ ?_
  refine wpM_ret ?_
  try refine S_ ?_
  refine hQ _ _ rfl rfl rfl (by simp -implicitDefEqProofs (disch := omega) only [go_sem, le_yes, true_or]) ?_ (.inl rfl)
  rw [Tryz.results101]
  try simp -implicitDefEqProofs (disch := omega) only [go_sem, List.cons.injEq, PV.bool.injEq, PV.int.injEq, PV.agg.injEq]
  all_goals
    rfl
theorem iis_ok (b : Bool) : PureF Tryz.prog 95 [.bool b] [.int .i64 (numIs b)] := by
  refine pureF_of Tryz.func95 rfl Tryz.ntmps95 (by simp) T_ ?_
  intro f0 B Q hQ
  refine wpM_seq ?_
  refine wpM_regionK [0] rfl ?_; intro Q1 hQ1
  refine S_ ?_
  refine hQ1 _ _ ?_; clear hQ1 Q1
  refine S_ ?_
  refine wpM_seq ?_
  refine wpM_seq ?_
  refine wpM_regionK [3] rfl ?_; intro Q1 hQ1
  refine S_ ?_
  refine hQ1 _ _ ?_; clear hQ1 Q1
  refine S_ ?_
  refine wpM_condK ?_
  refine S_ ?_
  refine ⟨fun hc0 => ?_, fun hc0 => ?_⟩
  ·
    refine wpM_seq ?_
    refine wpM_regionK [2] rfl ?_; intro Q1 hQ1
    refine S_ ?_
    refine hQ1 _ _ ?_; clear hQ1 Q1
    refine S_ ?_
    refine wpM_ret ?_
    try refine S_ ?_
    refine hQ _ _ rfl rfl rfl (by simp -implicitDefEqProofs (disch := omega) only [go_sem, le_yes, true_or]) ?_ (.inl rfl)
    rw [Tryz.results95]
    try simp -implicitDefEqProofs (disch := omega) only [go_sem, List.cons.injEq, PV.bool.injEq, PV.int.injEq, PV.agg.injEq]
    all_goals
      simp [numIs, *]
  refine wpM_skip ?_
  refine S_ ?_
  refine wpM_seq ?_
  refine wpM_regionK [2] rfl ?_; intro Q1 hQ1
  refine S_ ?_
  refine hQ1 _ _ ?_; clear hQ1 Q1
  refine S_ ?_
  refine wpM_ret ?_
  try refine S_ ?_
  refine hQ _ _ rfl rfl rfl (by simp -implicitDefEqProofs (disch := omega) only [go_sem, le_yes, true_or]) ?_ (.inl rfl)
  rw [Tryz.results95]
  try simp -implicitDefEqProofs (disch := omega) only [go_sem, List.cons.injEq, PV.bool.injEq, PV.int.injEq, PV.agg.injEq]
  all_goals
    simp [numIs, *]
theorem ion_ok (a : Int) : PureF Tryz.prog 12 [.int .i64 a] [.bool (a != 0)] := by
  refine pureF_of Tryz.func12 rfl Tryz.ntmps12 (by simp) T_ ?_
  intro f0 B Q hQ
  refine wpM_seq ?_
  refine wpM_regionK [0] rfl ?_; intro Q1 hQ1
  refine S_ ?_
  refine hQ1 _ _ ?_; clear hQ1 Q1
  refine S_ ?_
  refine wpM_seq ?_
  refine wpM_regionK [2] rfl ?_; intro Q1 hQ1
  refine S_ ?_
  refine hQ1 _ _ ?_; clear hQ1 Q1
  refine S_ ?_
  refine wpM_ret ?_
  try refine S_ ?_
  refine hQ _ _ rfl rfl rfl (by simp -implicitDefEqProofs (disch := omega) only [go_sem, le_yes, true_or]) ?_ (.inl rfl)
  rw [Tryz.results12]
  try simp -implicitDefEqProofs (disch := omega) only [go_sem, List.cons.injEq, PV.bool.injEq, PV.int.injEq, PV.agg.injEq]
  all_goals
    rfl
theorem iaddrOk_ok (a : AD) : PureF Tryz.prog 130 [.agg a.cs] [.bool a.ok] := by
  refine pureF_of Tryz.func130 rfl Tryz.ntmps130 (by simp) T_ ?_
  intro f0 B Q hQ
  refine wpM_seq ?_
  refine wpM_regionK [1] rfl ?_; intro Q1 hQ1
  refine S_ ?_
  refine hQ1 _ _ ?_; clear hQ1 Q1
  refine S_ ?_
  refine wpM_seq ?_
  refine wpM_regionK [2] rfl ?_; intro Q1 hQ1
  refine SD_ ?_
  refine hQ1 _ _ ?_; clear hQ1 Q1
  refine S_ ?_
  refine wpM_ret ?_
  try refine S_ ?_
  refine hQ _ _ rfl rfl rfl (by simp -implicitDefEqProofs (disch := omega) only [go_sem, le_yes, true_or]) ?_ (.inl rfl)
  rw [Tryz.results130]
  try simp -implicitDefEqProofs (disch := omega) only [go_sem, List.cons.injEq, PV.bool.injEq, PV.int.injEq, PV.agg.injEq]
  all_goals
    rfl
def isTwo (k : Int) : Bool := decide (k ≥ 3) && decide (k ≤ 9)
theorem isTwo_ok (k : Int) : PureF Tryz.prog 112 [.int .i64 k] [.bool (isTwo k)] := by
  refine pureF_of Tryz.func112 rfl Tryz.ntmps112 (by simp) T_ ?_
  intro f0 B Q hQ
  refine wpM_seq ?_
  refine wpM_regionK [0] rfl ?_; intro Q1 hQ1
  refine S_ ?_
  refine hQ1 _ _ ?_; clear hQ1 Q1
  refine S_ ?_
  refine wpM_seq ?_
  refine wpM_regionK [2] rfl ?_; intro Q1 hQ1
  refine SD_ ?_
  refine hQ1 _ _ ?_; clear hQ1 Q1
  refine S_ ?_
  refine wpM_ret ?_
  try refine S_ ?_
  refine hQ _ _ rfl rfl rfl (by simp -implicitDefEqProofs (disch := omega) only [go_sem, le_yes, true_or]) ?_ (.inl rfl)
  rw [Tryz.results112]
  try simp -implicitDefEqProofs (disch := omega) only [go_sem, List.cons.injEq, PV.bool.injEq, PV.int.injEq, PV.agg.injEq]
  all_goals
    rfl
def recOf (k : Int) : PV := if k == 1 then .iface 164 (.agg []) else if k == 2 then .iface 165 (.agg []) else if isTwo k then .iface 166 (.agg []) else if k == 10 then .iface 167 (.agg []) else .nilif
@[go_sem] theorem buildA_numReckoning : buildA Tryz.prog 164 [] = some (.agg []) := buildA_of (pl := []) (z := []) zeroA164 (placesA_struct Tryz.underlying164 rfl rfl) []
@[go_sem] theorem buildA_addrReckoning : buildA Tryz.prog 165 [] = some (.agg []) := buildA_of (pl := []) (z := []) zeroA165 (placesA_struct Tryz.underlying165 rfl rfl) []
@[go_sem] theorem buildA_twoReckoning : buildA Tryz.prog 166 [] = some (.agg []) := buildA_of (pl := []) (z := []) zeroA166 (placesA_struct Tryz.underlying166 rfl rfl) []
@[go_sem] theorem buildA_notReckoning : buildA Tryz.prog 167 [] = some (.agg []) := buildA_of (pl := []) (z := []) zeroA167 (placesA_struct Tryz.underlying167 rfl rfl) []
theorem recOf_pure (k : Int) : (recOf k).pure = true := by
  unfold recOf
  repeat' split
  all_goals rfl
theorem recOf_ok (k : Int) : PureF Tryz.prog 60 [.int .i64 k] [recOf k] := by
  refine pureF_of Tryz.func60 rfl Tryz.ntmps60 (by simp) (by simp [PV.pureL, recOf_pure]) ?_
  intro f0 B Q hQ
  refine wpM_seq ?_
  refine wpM_regionK [0] rfl ?_; intro Q1 hQ1
  refine S_ ?_
  refine hQ1 _ _ ?_; clear hQ1 Q1
  refine S_ ?_
  refine wpM_seq ?_
  refine wpM_block ?_
  refine wpM_seq ?_
  refine wpM_regionK [0, 3] rfl ?_; intro Q1 hQ1
  refine S_ ?_
  refine hQ1 _ _ ?_; clear hQ1 Q1
  refine S_ ?_
  refine wpM_condK ?_
  refine S_ ?_
  refine ⟨fun hc0 => ?_, fun hc0 => ?_⟩
  ·
    refine wpM_seq ?_
    refine wpM_regionK [2] rfl ?_; intro Q1 hQ1
    refine S_ ?_
    refine hQ1 _ _ ?_; clear hQ1 Q1
    refine S_ ?_
    refine wpM_ret ?_
    try refine S_ ?_
    refine hQ _ _ rfl rfl rfl (by simp -implicitDefEqProofs (disch := omega) only [go_sem, le_yes, true_or]) ?_ (.inl rfl)
    rw [Tryz.results60]
    try simp -implicitDefEqProofs (disch := omega) only [go_sem, List.cons.injEq, PV.bool.injEq, PV.int.injEq, PV.agg.injEq]
    all_goals
      simp only [recOf, *, ↓reduceIte, Bool.false_eq_true]
  refine wpM_seq ?_
  refine wpM_regionK [0, 8] rfl ?_; intro Q1 hQ1
  refine S_ ?_
  refine hQ1 _ _ ?_; clear hQ1 Q1
  refine S_ ?_
  refine wpM_condK ?_
  refine S_ ?_
  refine ⟨fun hc1 => ?_, fun hc1 => ?_⟩
  ·
    refine wpM_seq ?_
    refine wpM_regionK [2] rfl ?_; intro Q1 hQ1
    refine S_ ?_
    refine hQ1 _ _ ?_; clear hQ1 Q1
    refine S_ ?_
    refine wpM_ret ?_
    try refine S_ ?_
    refine hQ _ _ rfl rfl rfl (by simp -implicitDefEqProofs (disch := omega) only [go_sem, le_yes, true_or]) ?_ (.inl rfl)
    rw [Tryz.results60]
    try simp -implicitDefEqProofs (disch := omega) only [go_sem, List.cons.injEq, PV.bool.injEq, PV.int.injEq, PV.agg.injEq]
    all_goals
      simp only [recOf, *, ↓reduceIte, Bool.false_eq_true]
  refine wpM_seq ?_
  refine wpM_regionK [0, 13] rfl ?_; intro Q1 hQ1
  refine S_ ?_
  refine call_p (isTwo_ok k) Tryz.call112 rfl rfl rfl (by first | rfl | (simp -implicitDefEqProofs (disch := omega) only [go_sem] <;> rfl)) ?_
  refine S_ ?_
  refine hQ1 _ _ ?_; clear hQ1 Q1
  refine S_ ?_
  refine wpM_condK ?_
  refine S_ ?_
  refine ⟨fun hc2 => ?_, fun hc2 => ?_⟩
  ·
    refine wpM_seq ?_
    refine wpM_regionK [2] rfl ?_; intro Q1 hQ1
    refine S_ ?_
    refine hQ1 _ _ ?_; clear hQ1 Q1
    refine S_ ?_
    refine wpM_ret ?_
    try refine S_ ?_
    refine hQ _ _ rfl rfl rfl (by simp -implicitDefEqProofs (disch := omega) only [go_sem, le_yes, true_or]) ?_ (.inl rfl)
    rw [Tryz.results60]
    try simp -implicitDefEqProofs (disch := omega) only [go_sem, List.cons.injEq, PV.bool.injEq, PV.int.injEq, PV.agg.injEq]
    all_goals
      simp only [recOf, *, ↓reduceIte, Bool.false_eq_true]
  refine wpM_seq ?_
  refine wpM_regionK [18] rfl ?_; intro Q1 hQ1
  refine S_ ?_
  refine hQ1 _ _ ?_; clear hQ1 Q1
  refine S_ ?_
  refine wpM_condK ?_
  refine S_ ?_
  refine ⟨fun hc3 => ?_, fun hc3 => ?_⟩
  ·
    refine wpM_seq ?_
    refine wpM_regionK [2] rfl ?_; intro Q1 hQ1
    refine S_ ?_
    refine hQ1 _ _ ?_; clear hQ1 Q1
    refine S_ ?_
    refine wpM_ret ?_
    try refine S_ ?_
    refine hQ _ _ rfl rfl rfl (by simp -implicitDefEqProofs (disch := omega) only [go_sem, le_yes, true_or]) ?_ (.inl rfl)
    rw [Tryz.results60]
    try simp -implicitDefEqProofs (disch := omega) only [go_sem, List.cons.injEq, PV.bool.injEq, PV.int.injEq, PV.agg.injEq]
    all_goals
      simp only [recOf, *, ↓reduceIte, Bool.false_eq_true]
  refine wpM_skip ?_
  refine S_ ?_
  refine wpM_seq ?_
  refine wpM_regionK [2] rfl ?_; intro Q1 hQ1
  refine S_ ?_
  refine hQ1 _ _ ?_; clear hQ1 Q1
  refine S_ ?_
  refine wpM_ret ?_
  try refine S_ ?_
  refine hQ _ _ rfl rfl rfl (by simp -implicitDefEqProofs (disch := omega) only [go_sem, le_yes, true_or]) ?_ (.inl rfl)
  rw [Tryz.results60]
  try simp -implicitDefEqProofs (disch := omega) only [go_sem, List.cons.injEq, PV.bool.injEq, PV.int.injEq, PV.agg.injEq]
  all_goals
    simp only [recOf, *, ↓reduceIte, Bool.false_eq_true]
theorem kids1_ok : PureF Tryz.prog 176 [.agg []] [.int .i64 0] := by
  refine pureF_of Tryz.func176 rfl Tryz.ntmps176 (by simp) T_ ?_
  intro f0 B Q hQ
  refine wpM_seq ?_
  refine wpM_regionK [] rfl ?_; intro Q1 hQ1
  refine S_ ?_
  refine hQ1 _ _ ?_; clear hQ1 Q1
  refine S_ ?_
  refine wpM_seq ?_
  refine wpM_regionK [2] rfl ?_; intro Q1 hQ1
  refine S_ ?_
  refine hQ1 _ _ ?_; clear hQ1 Q1
  refine S_ ?_
  refine wpM_ret ?_
  try refine S_ ?_
  refine hQ _ _ rfl rfl rfl (by simp -implicitDefEqProofs (disch := omega) only [go_sem, le_yes, true_or]) ?_ (.inl rfl)
  rw [Tryz.results176]
  try simp -implicitDefEqProofs (disch := omega) only [go_sem, List.cons.injEq, PV.bool.injEq, PV.int.injEq, PV.agg.injEq]
  all_goals
    rfl
theorem kids2_ok : PureF Tryz.prog 194 [.agg []] [.int .i64 0] := by
  refine pureF_of Tryz.func194 rfl Tryz.ntmps194 (by simp) T_ ?_
  intro f0 B Q hQ
  refine wpM_seq ?_
  refine wpM_regionK [] rfl ?_; intro Q1 hQ1
  refine S_ ?_
  refine hQ1 _ _ ?_; clear hQ1 Q1
  refine S_ ?_
  refine wpM_seq ?_
  refine wpM_regionK [2] rfl ?_; intro Q1 hQ1
  refine S_ ?_
  refine hQ1 _ _ ?_; clear hQ1 Q1
  refine S_ ?_
  refine wpM_ret ?_
  try refine S_ ?_
  refine hQ _ _ rfl rfl rfl (by simp -implicitDefEqProofs (disch := omega) only [go_sem, le_yes, true_or]) ?_ (.inl rfl)
  rw [Tryz.results194]
  try simp -implicitDefEqProofs (disch := omega) only [go_sem, List.cons.injEq, PV.bool.injEq, PV.int.injEq, PV.agg.injEq]
  all_goals
    rfl
theorem kids3_ok : PureF Tryz.prog 200 [.agg []] [.int .i64 2] := by
  refine pureF_of Tryz.func200 rfl Tryz.ntmps200 (by simp) T_ ?_
  intro f0 B Q hQ
  refine wpM_seq ?_
  refine wpM_regionK [] rfl ?_; intro Q1 hQ1
  refine S_ ?_
  refine hQ1 _ _ ?_; clear hQ1 Q1
  refine S_ ?_
  refine wpM_seq ?_
  refine wpM_regionK [2] rfl ?_; intro Q1 hQ1
  refine S_ ?_
  refine hQ1 _ _ ?_; clear hQ1 Q1
  refine S_ ?_
  refine wpM_ret ?_
  try refine S_ ?_
  refine hQ _ _ rfl rfl rfl (by simp -implicitDefEqProofs (disch := omega) only [go_sem, le_yes, true_or]) ?_ (.inl rfl)
  rw [Tryz.results200]
  try simp -implicitDefEqProofs (disch := omega) only [go_sem, List.cons.injEq, PV.bool.injEq, PV.int.injEq, PV.agg.injEq]
  all_goals
    rfl
theorem kids4_ok : PureF Tryz.prog 210 [.agg []] [.int .i64 1] := by
  refine pureF_of Tryz.func210 rfl Tryz.ntmps210 (by simp) T_ ?_
  intro f0 B Q hQ
  refine wpM_seq ?_
  refine wpM_regionK [] rfl ?_; intro Q1 hQ1
  refine S_ ?_
  refine hQ1 _ _ ?_; clear hQ1 Q1
  refine S_ ?_
  refine wpM_seq ?_
  refine wpM_regionK [2] rfl ?_; intro Q1 hQ1
  refine S_ ?_
  refine hQ1 _ _ ?_; clear hQ1 Q1
  refine S_ ?_
  refine wpM_ret ?_
  try refine S_ ?_
  refine hQ _ _ rfl rfl rfl (by simp -implicitDefEqProofs (disch := omega) only [go_sem, le_yes, true_or]) ?_ (.inl rfl)
  rw [Tryz.results210]
  try simp -implicitDefEqProofs (disch := omega) only [go_sem, List.cons.injEq, PV.bool.injEq, PV.int.injEq, PV.agg.injEq]
  all_goals
    rfl
def noAddr (e : Ex) : Bool := e.a.kind == 0 && e.a.at' == 0
theorem shape1_ok (e : Ex) : PureF Tryz.prog 178 [.agg [], .agg e.cs] [.bool (isNum e.n && noAddr e)] := by
  refine pureF_of Tryz.func178 rfl Tryz.ntmps178 (by simp) T_ ?_
  intro f0 B Q hQ
  refine wpM_seq ?_
  refine wpM_regionK [3] rfl ?_; intro Q1 hQ1
  refine S_ ?_
  refine hQ1 _ _ ?_; clear hQ1 Q1
  refine S_ ?_
  refine wpM_seq ?_
  refine wpM_regionK [4] rfl ?_; intro Q1 hQ1
  refine SD_ ?_
  refine call_p (isNum_ok e.n) Tryz.call101 rfl rfl rfl (by first | rfl | (simp -implicitDefEqProofs (disch := omega) only [go_sem] <;> rfl)) ?_
  refine SD_ ?_
  refine hQ1 _ _ ?_; clear hQ1 Q1
  refine S_ ?_
  refine wpM_ret ?_
  try refine S_ ?_
  refine hQ _ _ rfl rfl rfl (by simp -implicitDefEqProofs (disch := omega) only [go_sem, le_yes, true_or]) ?_ (.inl rfl)
  rw [Tryz.results178]
  try simp -implicitDefEqProofs (disch := omega) only [go_sem, List.cons.injEq, PV.bool.injEq, PV.int.injEq, PV.agg.injEq]
  all_goals
    rfl
theorem shape2_ok (e : Ex) : PureF Tryz.prog 196 [.agg [], .agg e.cs] [.bool (e.a.ok && e.n == 0)] := by
  refine pureF_of Tryz.func196 rfl Tryz.ntmps196 (by simp) T_ ?_
  intro f0 B Q hQ
  refine wpM_seq ?_
  refine wpM_regionK [3] rfl ?_; intro Q1 hQ1
  refine S_ ?_
  refine hQ1 _ _ ?_; clear hQ1 Q1
  refine S_ ?_
  refine wpM_seq ?_
  refine wpM_regionK [4] rfl ?_; intro Q1 hQ1
  refine SD_ ?_
  refine call_p (iaddrOk_ok e.a) Tryz.call130 rfl rfl rfl (by first | rfl | (simp -implicitDefEqProofs (disch := omega) only [go_sem] <;> rfl)) ?_
  refine SD_ ?_
  refine hQ1 _ _ ?_; clear hQ1 Q1
  refine S_ ?_
  refine wpM_ret ?_
  try refine S_ ?_
  refine hQ _ _ rfl rfl rfl (by simp -implicitDefEqProofs (disch := omega) only [go_sem, le_yes, true_or]) ?_ (.inl rfl)
  rw [Tryz.results196]
  try simp -implicitDefEqProofs (disch := omega) only [go_sem, List.cons.injEq, PV.bool.injEq, PV.int.injEq, PV.agg.injEq]
  all_goals
    rfl
theorem shape3_ok (e : Ex) : PureF Tryz.prog 202 [.agg [], .agg e.cs] [.bool (e.n == 0 && noAddr e)] := by
  refine pureF_of Tryz.func202 rfl Tryz.ntmps202 (by simp) T_ ?_
  intro f0 B Q hQ
  refine wpM_seq ?_
  refine wpM_regionK [3] rfl ?_; intro Q1 hQ1
  refine S_ ?_
  refine hQ1 _ _ ?_; clear hQ1 Q1
  refine S_ ?_
  refine wpM_seq ?_
  refine wpM_regionK [4] rfl ?_; intro Q1 hQ1
  refine SD_ ?_
  refine hQ1 _ _ ?_; clear hQ1 Q1
  refine S_ ?_
  refine wpM_ret ?_
  try refine S_ ?_
  refine hQ _ _ rfl rfl rfl (by simp -implicitDefEqProofs (disch := omega) only [go_sem, le_yes, true_or]) ?_ (.inl rfl)
  rw [Tryz.results202]
  try simp -implicitDefEqProofs (disch := omega) only [go_sem, List.cons.injEq, PV.bool.injEq, PV.int.injEq, PV.agg.injEq]
  all_goals
    rfl
theorem shape4_ok (e : Ex) : PureF Tryz.prog 212 [.agg [], .agg e.cs] [.bool (e.n == 0 && noAddr e)] := by
  refine pureF_of Tryz.func212 rfl Tryz.ntmps212 (by simp) T_ ?_
  intro f0 B Q hQ
  refine wpM_seq ?_
  refine wpM_regionK [3] rfl ?_; intro Q1 hQ1
  refine S_ ?_
  refine hQ1 _ _ ?_; clear hQ1 Q1
  refine S_ ?_
  refine wpM_seq ?_
  refine wpM_regionK [4] rfl ?_; intro Q1 hQ1
  refine SD_ ?_
  refine hQ1 _ _ ?_; clear hQ1 Q1
  refine S_ ?_
  refine wpM_ret ?_
  try refine S_ ?_
  refine hQ _ _ rfl rfl rfl (by simp -implicitDefEqProofs (disch := omega) only [go_sem, le_yes, true_or]) ?_ (.inl rfl)
  rw [Tryz.results212]
  try simp -implicitDefEqProofs (disch := omega) only [go_sem, List.cons.injEq, PV.bool.injEq, PV.int.injEq, PV.agg.injEq]
  all_goals
    rfl
theorem imaker_ok (k : Nat) (hk : k < 3) (a b : Int) : PureF Tryz.prog 209 [.int .i64 (k : Int), .int .i64 a, .int .i64 b] [.int .i64 (if k = 0 then cut (cut a + cut b) else if k = 1 then cut (cut a - cut b) else cut (cut a * cut b))] := by
  have ha := cut_bd a
  have hb := cut_bd b
  have hm := cut_mul a b
  refine pureF_of Tryz.func209 rfl Tryz.ntmps209 (by simp) T_ ?_
  intro f0 B Q hQ
  refine wpM_seq ?_
  refine wpM_regionK [0, 1, 2] rfl ?_; intro Q1 hQ1
  refine S_ ?_
  refine hQ1 _ _ ?_; clear hQ1 Q1
  refine S_ ?_
  refine wpM_seq ?_
  refine wpM_regionK [0, 1, 2] rfl ?_; intro Q1 hQ1
  refine S_ ?_
  refine call_p (icut_ok a) Tryz.call133 rfl rfl rfl (by first | rfl | (simp -implicitDefEqProofs (disch := omega) only [go_sem] <;> rfl)) ?_
  refine S_ ?_
  refine call_p (icut_ok b) Tryz.call133 rfl rfl rfl (by first | rfl | (simp -implicitDefEqProofs (disch := omega) only [go_sem] <;> rfl)) ?_
  refine S_ ?_
  refine hQ1 _ _ ?_; clear hQ1 Q1
  refine S_ ?_
  refine wpM_seq ?_
  refine wpM_seq ?_
  refine wpM_regionK [1, 2, 11] rfl ?_; intro Q1 hQ1
  refine S_ ?_
  refine hQ1 _ _ ?_; clear hQ1 Q1
  refine S_ ?_
  refine wpM_block ?_
  refine wpM_seq ?_
  refine wpM_regionK [1, 2, 11, 12] rfl ?_; intro Q1 hQ1
  refine S_ ?_
  refine hQ1 _ _ ?_; clear hQ1 Q1
  refine S_ ?_
  refine wpM_condK ?_
  refine S_ ?_
  refine ⟨fun hc0 => ?_, fun hc0 => ?_⟩
  ·
    refine wpM_seq ?_
    refine wpM_regionK [6] rfl ?_; intro Q1 hQ1
    refine S_ ?_
    refine call_p (icut_ok (cut a + cut b)) Tryz.call133 rfl rfl rfl (by first | rfl | (simp -implicitDefEqProofs (disch := omega) only [go_sem] <;> rfl)) ?_
    refine S_ ?_
    refine hQ1 _ _ ?_; clear hQ1 Q1
    refine S_ ?_
    refine wpM_ret ?_
    try refine S_ ?_
    refine hQ _ _ rfl rfl rfl (by simp -implicitDefEqProofs (disch := omega) only [go_sem, le_yes, true_or]) ?_ (.inl rfl)
    rw [Tryz.results209]
    try simp -implicitDefEqProofs (disch := omega) only [go_sem, List.cons.injEq, PV.bool.injEq, PV.int.injEq, PV.agg.injEq]
    all_goals
      simp only [beq_iff_eq, beq_eq_false_iff_ne, ne_eq] at *
      have : k = 0 ∨ k = 1 ∨ k = 2 := by omega
      rcases this with rfl | rfl | rfl <;> simp_all
  refine wpM_seq ?_
  refine wpM_regionK [1, 2, 18] rfl ?_; intro Q1 hQ1
  refine S_ ?_
  refine hQ1 _ _ ?_; clear hQ1 Q1
  refine S_ ?_
  refine wpM_condK ?_
  refine S_ ?_
  refine ⟨fun hc1 => ?_, fun hc1 => ?_⟩
  ·
    refine wpM_seq ?_
    refine wpM_regionK [6] rfl ?_; intro Q1 hQ1
    refine S_ ?_
    refine call_p (icut_ok (cut a - cut b)) Tryz.call133 rfl rfl rfl (by first | rfl | (simp -implicitDefEqProofs (disch := omega) only [go_sem] <;> rfl)) ?_
    refine S_ ?_
    refine hQ1 _ _ ?_; clear hQ1 Q1
    refine S_ ?_
    refine wpM_ret ?_
    try refine S_ ?_
    refine hQ _ _ rfl rfl rfl (by simp -implicitDefEqProofs (disch := omega) only [go_sem, le_yes, true_or]) ?_ (.inl rfl)
    rw [Tryz.results209]
    try simp -implicitDefEqProofs (disch := omega) only [go_sem, List.cons.injEq, PV.bool.injEq, PV.int.injEq, PV.agg.injEq]
    all_goals
      simp only [beq_iff_eq, beq_eq_false_iff_ne, ne_eq] at *
      have : k = 0 ∨ k = 1 ∨ k = 2 := by omega
      rcases this with rfl | rfl | rfl <;> simp_all
  refine wpM_skip ?_
  refine S_ ?_
  refine wpM_seq ?_
  refine wpM_regionK [6] rfl ?_; intro Q1 hQ1
  refine S_ ?_
  refine call_p (icut_ok (cut a * cut b)) Tryz.call133 rfl rfl rfl (by first | rfl | (simp -implicitDefEqProofs (disch := omega) only [go_sem] <;> rfl)) ?_
  refine S_ ?_
  refine hQ1 _ _ ?_; clear hQ1 Q1
  refine S_ ?_
  refine wpM_ret ?_
  try refine S_ ?_
  refine hQ _ _ rfl rfl rfl (by simp -implicitDefEqProofs (disch := omega) only [go_sem, le_yes, true_or]) ?_ (.inl rfl)
  rw [Tryz.results209]
  try simp -implicitDefEqProofs (disch := omega) only [go_sem, List.cons.injEq, PV.bool.injEq, PV.int.injEq, PV.agg.injEq]
  all_goals
    simp only [beq_iff_eq, beq_eq_false_iff_ne, ne_eq] at *
    have : k = 0 ∨ k = 1 ∨ k = 2 := by omega
    rcases this with rfl | rfl | rfl <;> simp_all
theorem iadd_ok (a b : Int) : PureF Tryz.prog 206 [.int .i64 a, .int .i64 b] [.int .i64 (cut (cut a + cut b))] := by
  refine pureF_of Tryz.func206 rfl Tryz.ntmps206 (by simp) T_ ?_
  intro f0 B Q hQ
  refine wpM_seq ?_
  refine wpM_regionK [0, 1] rfl ?_; intro Q1 hQ1
  refine S_ ?_
  refine hQ1 _ _ ?_; clear hQ1 Q1
  refine S_ ?_
  refine wpM_seq ?_
  refine wpM_regionK [4] rfl ?_; intro Q1 hQ1
  refine S_ ?_
  refine call_p (imaker_ok 0 (by omega) a b) Tryz.call209 rfl rfl rfl (by first | rfl | (simp -implicitDefEqProofs (disch := omega) only [go_sem] <;> rfl)) ?_
  refine S_ ?_
  refine hQ1 _ _ ?_; clear hQ1 Q1
  refine S_ ?_
  refine wpM_ret ?_
  try refine S_ ?_
  refine hQ _ _ rfl rfl rfl (by simp -implicitDefEqProofs (disch := omega) only [go_sem, le_yes, true_or]) ?_ (.inl rfl)
  rw [Tryz.results206]
  try simp -implicitDefEqProofs (disch := omega) only [go_sem, List.cons.injEq, PV.bool.injEq, PV.int.injEq, PV.agg.injEq]
  all_goals
    rfl
theorem isub_ok (a b : Int) : PureF Tryz.prog 207 [.int .i64 a, .int .i64 b] [.int .i64 (cut (cut a - cut b))] := by
  refine pureF_of Tryz.func207 rfl Tryz.ntmps207 (by simp) T_ ?_
  intro f0 B Q hQ
  refine wpM_seq ?_
  refine wpM_regionK [0, 1] rfl ?_; intro Q1 hQ1
  refine S_ ?_
  refine hQ1 _ _ ?_; clear hQ1 Q1
  refine S_ ?_
  refine wpM_seq ?_
  refine wpM_regionK [4] rfl ?_; intro Q1 hQ1
  refine S_ ?_
  refine call_p (imaker_ok 1 (by omega) a b) Tryz.call209 rfl rfl rfl (by first | rfl | (simp -implicitDefEqProofs (disch := omega) only [go_sem] <;> rfl)) ?_
  refine S_ ?_
  refine hQ1 _ _ ?_; clear hQ1 Q1
  refine S_ ?_
  refine wpM_ret ?_
  try refine S_ ?_
  refine hQ _ _ rfl rfl rfl (by simp -implicitDefEqProofs (disch := omega) only [go_sem, le_yes, true_or]) ?_ (.inl rfl)
  rw [Tryz.results207]
  try simp -implicitDefEqProofs (disch := omega) only [go_sem, List.cons.injEq, PV.bool.injEq, PV.int.injEq, PV.agg.injEq]
  all_goals
    rfl
theorem imul_ok (a b : Int) : PureF Tryz.prog 208 [.int .i64 a, .int .i64 b] [.int .i64 (cut (cut a * cut b))] := by
  refine pureF_of Tryz.func208 rfl Tryz.ntmps208 (by simp) T_ ?_
  intro f0 B Q hQ
  refine wpM_seq ?_
  refine wpM_regionK [0, 1] rfl ?_; intro Q1 hQ1
  refine S_ ?_
  refine hQ1 _ _ ?_; clear hQ1 Q1
  refine S_ ?_
  refine wpM_seq ?_
  refine wpM_regionK [4] rfl ?_; intro Q1 hQ1
  refine S_ ?_
  refine call_p (imaker_ok 2 (by omega) a b) Tryz.call209 rfl rfl rfl (by first | rfl | (simp -implicitDefEqProofs (disch := omega) only [go_sem] <;> rfl)) ?_
  refine S_ ?_
  refine hQ1 _ _ ?_; clear hQ1 Q1
  refine S_ ?_
  refine wpM_ret ?_
  try refine S_ ?_
  refine hQ _ _ rfl rfl rfl (by simp -implicitDefEqProofs (disch := omega) only [go_sem, le_yes, true_or]) ?_ (.inl rfl)
  rw [Tryz.results208]
  try simp -implicitDefEqProofs (disch := omega) only [go_sem, List.cons.injEq, PV.bool.injEq, PV.int.injEq, PV.agg.injEq]
  all_goals
    rfl
end Go.Proofs.YtnilkkcobeaglaaGreat
namespace Go.Proofs.YtnilkkcobeaglaaGreat
open Go Sg
set_option maxRecDepth 100000
set_option linter.unusedSimpArgs false
set_option linter.unusedVariables false
set_option maxHeartbeats 4000000
theorem ex_idsL (p : Nat → Prop) (e : Ex) : PV.idsL p e.cs = True := by rw [Ex.cs_eq]; simp [PV.idsL, PV.ids]
theorem parts_ok (e : Ex) : CallF Tryz.prog 59 [.agg e.cs] [] 1 (fun ns o => ∃ x, ns = [x] ∧ o = { rs := [.fn (.func 110) [] [.ptr x 0]], nw := [(x, .cells 46 e.cs)] }) := by
  refine callF_of' Tryz.func59 rfl Tryz.ntmps59 (by simp) ?_
  intro f0 B ns Q hB hns hQ
  obtain ⟨x, rfl⟩ : ∃ x, ns = [x] := by
    match ns, hns with
    | [x], _ => exact ⟨x, rfl⟩
  refine wpM_seq ?_
  refine wpM_regionK [1] rfl ?_; intro Q1 hQ1
  refine S_ ?_
  refine hQ1 _ _ ?_; clear hQ1 Q1
  refine S_ ?_
  refine wpM_seq ?_
  refine wpM_regionK [2] rfl ?_; intro Q1 hQ1
  refine S_ ?_
  refine hQ1 _ _ ?_; clear hQ1 Q1
  refine S_ ?_
  refine wpM_ret ?_
  try refine S_ ?_
  refine hQ _ _ (retK [B] [] [(x, .cells 46 e.cs)] rfl rfl rfl (by rw [Tryz.results59]; simp (maxSteps := 1000000) -implicitDefEqProofs (disch := omega) only [go_sem] <;> rfl) ?_ ⟨x, rfl, rfl⟩ ?_ ?_ ?_ ?_ ?_ ?_)
  all_goals (first | (simp -implicitDefEqProofs (disch := omega) only [go_sem, List.nodup_cons, List.nodup_nil, true_or, or_true, List.mem_cons, List.not_mem_nil]; done) | (simp -implicitDefEqProofs (disch := omega) only [go_sem, List.nodup_cons, List.nodup_nil, true_or, or_true, List.mem_cons, List.not_mem_nil]; omega))
def rfs : Code → List (Code × Code)
  | .seq a b | .cond _ a b => rfs a ++ rfs b
  | .block _ a | .loop a => rfs a
  | .rangeFunc _ _ a b => [(a, b)]
  | _ => []
def recNil (k : Int) : Bool := !(k == 1 || k == 2 || isTwo k || k == 10)
def kidsR (k : Int) : Int := if k == 10 then 1 else if isTwo k then 2 else 0
def shapeR (e : Ex) : Bool := if e.kind == 1 then isNum e.n && noAddr e else if e.kind == 2 then e.a.ok && e.n == 0 else e.n == 0 && noAddr e
@[go_sem] theorem eql_rec (x : Operand) (v : Value) (k : Int) : binOpA Tryz.prog .eql 104 x (.const v) (recOf k) .nilif = some (.bool (recNil k)) := by
  unfold recOf recNil
  cases h1 : k == 1 <;> cases h2 : k == 2 <;> cases h3 : isTwo k <;> cases h4 : k == 10 <;> simp [binOpA, eqPair, eqA, Tryz.underlying104, isConstOp]
@[go_sem] theorem isConstOp_const (v : Value) : isConstOp (.const v) = true := rfl
theorem rec_meth (k : Int) (hn : recNil k = false) : ∃ t fk fs, recOf k = .iface t (.agg []) ∧
    (∀ args w, (callFunc fk args).run Tryz.prog w = .ok (.enter fk args) w) ∧ (∀ (v : Value) w, (method (Tryz.prog.types.size + Made.depth) t v "loop.example/stopgate/impl.kids").run Tryz.prog w = .ok (fk, v) w) ∧ PureF Tryz.prog fk [.agg []] [.int .i64 (kidsR k)] ∧
    (∀ args w, (callFunc fs args).run Tryz.prog w = .ok (.enter fs args) w) ∧ (∀ (v : Value) w, (method (Tryz.prog.types.size + Made.depth) t v "loop.example/stopgate/impl.shape").run Tryz.prog w = .ok (fs, v) w) ∧ (∀ e : Ex, e.kind = k → PureF Tryz.prog fs [.agg [], .agg e.cs] [.bool (shapeR e)]) := by
  by_cases h1 : k = 1
  · subst h1
    refine ⟨164, 176, 178, rfl, Tryz.call176, method_run info164 Tryz.underlying164 (by simp) (by rfl) rfl rfl, kids1_ok, Tryz.call178, method_run info164 Tryz.underlying164 (by simp) (by rfl) rfl rfl, fun e he => ?_⟩
    have : shapeR e = (isNum e.n && noAddr e) := by simp [shapeR, he]
    rw [this]; exact shape1_ok e
  by_cases h2 : k = 2
  · subst h2
    refine ⟨165, 194, 196, rfl, Tryz.call194, method_run info165 Tryz.underlying165 (by simp) (by rfl) rfl rfl, kids2_ok, Tryz.call196, method_run info165 Tryz.underlying165 (by simp) (by rfl) rfl rfl, fun e he => ?_⟩
    have : shapeR e = (e.a.ok && e.n == 0) := by simp [shapeR, he]
    rw [this]; exact shape2_ok e
  by_cases h3 : isTwo k = true
  · have h10 : (k == 10) = false := by
      simp only [isTwo, Bool.and_eq_true, decide_eq_true_eq] at h3
      simp; omega
    have hk : kidsR k = 2 := by simp [kidsR, h3, h10]
    rw [hk]
    refine ⟨166, 200, 202, by simp [recOf, h1, h2, h3], Tryz.call200, method_run info166 Tryz.underlying166 (by simp) (by rfl) rfl rfl, kids3_ok, Tryz.call202, method_run info166 Tryz.underlying166 (by simp) (by rfl) rfl rfl, fun e he => ?_⟩
    have : shapeR e = (e.n == 0 && noAddr e) := by simp [shapeR, he, h1, h2]
    rw [this]; exact shape3_ok e
  have h10 : k = 10 := by
    simp only [Bool.not_eq_true] at h3
    simpa [recNil, h1, h2, h3] using hn
  subst h10
  refine ⟨167, 210, 212, rfl, Tryz.call210, method_run info167 Tryz.underlying167 (by simp) (by rfl) rfl rfl, kids4_ok, Tryz.call212, method_run info167 Tryz.underlying167 (by simp) (by rfl) rfl rfl, fun e he => ?_⟩
  have : shapeR e = (e.n == 0 && noAddr e) := by simp [shapeR, he]
  rw [this]; exact shape4_ok e
def badE (n : Int) (deep : Int) (e : Ex) : Bool := decide (n > 14) || decide (deep ≥ 6) || recNil e.kind || (e.kids.length : Int) != kidsR e.kind || !shapeR e
mutual
def vis : Ex → Nat → Nat → Option Nat
  | .mk k n a l, deep, c => if badE ((c : Int) + 1) (deep : Int) (.mk k n a l) then none else visL l (deep + 1) (c + 1)
def visL : List Ex → Nat → Nat → Option Nat
  | [], _, c => some c
  | e :: l, deep, c => match vis e deep c with
    | none => none
    | some c' => visL l deep c'
end
theorem vis_eq (e : Ex) (deep c : Nat) : vis e deep c = if badE ((c : Int) + 1) (deep : Int) e then none else visL e.kids (deep + 1) (c + 1) := by cases e; rfl
theorem visL_append (l l' : List Ex) (deep : Nat) : ∀ c, visL (l ++ l') deep c = (visL l deep c).bind (visL l' deep) := by
  induction l with
  | nil => intro c; rfl
  | cons e l ih =>
    intro c
    simp only [List.cons_append, visL]
    cases vis e deep c with
    | none => rfl
    | some c' => exact ih c'
theorem visL_take (l : List Ex) (deep c i : Nat) (h : i < l.length) : visL (l.take (i + 1)) deep c = (visL (l.take i) deep c).bind (vis (l.getD i default) deep) := by
  rw [List.take_succ_eq_append_getElem h, visL_append]
  have : l.getD i default = l[i] := by simp [List.getD, h]
  rw [this]
  congr 1
  funext c'
  simp only [visL]
  cases vis l[i] deep c' <;> rfl
theorem visL_none {l : List Ex} {deep c i : Nat} (h : visL (l.take i) deep c = none) : visL l deep c = none := by
  conv => lhs; rw [← List.take_append_drop i l]
  rw [visL_append, h]; rfl
def okSt (x : Nat) (rc : AObj) (b n : Nat) : List (Nat × AObj) :=
  [(x + 7, .cells 3 [.int .i64 (n : Int)]), (x + 5, rc), (x + 2, .cells 3 [.int .i64 (n : Int)]), (x + 1, .cells 4 [.bool false]),
   (x + 6, .cells 162 [.fn (.yield b) [] []]), (x + 8, .cells 98 [.fn (.func 111) [] [.ptr (x + 7) 0, .ptr (x + 6) 0, .ptr (x + 8) 0]])]
def okRec (x b d fn : Nat) (fv : PV) (asg body : Code) (st : LoopState) (pe : Option Code) : AObj := .loop b d st pe fn 40 [(2, .ptr (x + 1) 0), (3, .ptr (x + 2) 0), (8, fv)] #[9, 10] asg body
@[go_sem] theorem okRec_eq (x b d fn : Nat) (fv : PV) (asg body : Code) (st : LoopState) (pe : Option Code) : okRec x b d fn fv asg body st pe = .loop b d st pe fn 40 [(2, .ptr (x + 1) 0), (3, .ptr (x + 2) 0), (8, fv)] #[9, 10] asg body := rfl
@[go_sem] theorem okSt_eq (x : Nat) (rc : AObj) (b n : Nat) : okSt x rc b n = [(x + 7, .cells 3 [.int .i64 (n : Int)]), (x + 5, rc), (x + 2, .cells 3 [.int .i64 (n : Int)]), (x + 1, .cells 4 [.bool false]),
   (x + 6, .cells 162 [.fn (.yield b) [] []]), (x + 8, .cells 98 [.fn (.func 111) [] [.ptr (x + 7) 0, .ptr (x + 6) 0, .ptr (x + 8) 0]])] := rfl
def visQ (x b d fn : Nat) (fv : PV) (asg body : Code) (e : Ex) (deep cnt : Nat) (f0 : Nat → Option AObj) (B : Nat) (ex : ExitA) (s : MS) : Prop :=
  ex = .ret ∧ ((∃ cnt' M', vis e deep cnt = some cnt' ∧ cnt' ≤ 14 ∧ B ≤ M' ∧ s = ⟨[(7, .bool true)], okSt x (okRec x b d fn fv asg body .ready none) b cnt', f0, B, M', []⟩) ∨
    (∃ cnt' M', vis e deep cnt = none ∧ B ≤ M' ∧ s = ⟨[(7, .bool false)], okSt x (okRec x b d fn fv asg body .done (some .ret)) b cnt', f0, B, M', []⟩))
theorem walk_ok (x b d fn : Nat) (fv : PV) (asg body c : Code) (hcode : Tryz.f21.body.map rfs = some [(asg, body)]) (hc : Tryz.f111.body = some c) : ∀ (N : Nat) (e : Ex), e.sz ≤ N → e.sz ≤ 1099511627776 →
    ∀ (deep cnt : Nat) (dI : Int) (f0 : Nat → Option AObj) (B : Nat), dI = (deep : Int) → x + 9 ≤ B → deep ≤ 6 → cnt ≤ 14 →
      wpM Tryz.prog none 39 c ⟨envOf 0 [.agg e.cs, .int .i64 dI, .ptr (x + 7) 0, .ptr (x + 6) 0, .ptr (x + 8) 0], okSt x (okRec x b d fn fv asg body .ready none) b cnt, f0, B, B, []⟩ (visQ x b d fn fv asg body e deep cnt f0 B) := by
  have hcode' := Option.some.inj hcode
  simp only [rfs, List.nil_append, List.append_nil, List.cons.injEq, Prod.mk.injEq, and_true] at hcode'
  obtain ⟨hasg, hbody⟩ := hcode'
  obtain rfl : _ = c := Option.some.inj hc
  intro N
  induction N with
  | zero => intro e h; have := e.sz_pos; omega
  | succ N ih =>
    intro e hN hs deep cnt dI f0 B hdI hB hd hcn
    have hlen := e.kids_len
    refine wpM_wk ?_
    refine wpM_seq ?_
    refine wpM_regionK [1, 2, 3, 4, 5] rfl ?_; intro Q1 hQ1
    refine S_ ?_
    refine hQ1 _ _ ?_; clear hQ1 Q1
    refine S_ ?_
    refine wpM_seq ?_
    refine wpM_regionK [1, 2, 3, 4, 5] rfl ?_; intro Q1 hQ1
    refine S_ ?_
    refine hQ1 _ _ ?_; clear hQ1 Q1
    refine S_ ?_
    refine wpM_seq ?_
    refine wpM_seq ?_
    refine wpM_regionK [1, 4, 5, 24] rfl ?_; intro Q1 hQ1
    refine S_ ?_
    refine OpM_roundK (x + 5) rfl rfl rfl rfl (by simp -implicitDefEqProofs (disch := omega) only [go_sem]; rfl) rfl rfl ?_
    intro K' hK'
    refine wpM_code hasg ?_
    simp -implicitDefEqProofs (disch := omega) only [go_sem]
    refine wpM_seq ?_
    refine wpM_regionK [2, 3, 4, 10] rfl ?_; intro Q1 hQ1
    refine S_ ?_
    refine hQ1 _ _ ?_; clear hQ1 Q1
    refine S_ ?_
    refine wpM_regionK [2, 3, 4, 5] rfl ?_; intro Q1 hQ1
    refine S_ ?_
    refine hQ1 _ _ ?_; clear hQ1 Q1
    refine S_ ?_
    refine ⟨d, none, fn, 40, [(2, .ptr (x + 1) 0), (3, .ptr (x + 2) 0), (8, fv)], #[9, 10], asg, body, rfl, ?_⟩
    refine wpM_code hbody ?_
    refine wpM_block ?_
    refine wpM_seq ?_
    refine wpM_regionK [2, 3, 4, 5] rfl ?_; intro Q1 hQ1
    refine S_ ?_
    refine hQ1 _ _ ?_; clear hQ1 Q1
    refine S_ ?_
    refine wpM_seq ?_
    refine wpM_regionK [2, 3, 4, 5, 6] rfl ?_; intro Q1 hQ1
    refine S_ ?_
    refine call_p (recOf_ok e.kind) Tryz.call60 rfl rfl rfl (by first | rfl | (simp -implicitDefEqProofs (disch := omega) only [go_sem] <;> rfl)) ?_
    refine S_ ?_
    refine hQ1 _ _ ?_; clear hQ1 Q1
    refine S_ ?_
    refine wpM_seq ?_
    refine wpM_keep [2, 39] (wpM_dr mixed 0 2 [x+2, B+1] [⟨[3], [0], [], [], false⟩, ⟨[16], [], [], [], false⟩, ⟨[17], [], [], [], false⟩, ⟨[4, 18], [], [], [], false⟩, ⟨[18, 19], [], [], [], false⟩, ⟨[18, 20], [], [], [], false⟩, ⟨[21], [], [], [], false⟩, ⟨[6, 22], [], [], [], false⟩, ⟨[22, 23], [], [], [], false⟩, ⟨[22, 24], [], [], [], false⟩, ⟨[25], [], [], [], false⟩, ⟨[5, 26], [], [], [], false⟩, ⟨[26, 27], [1], [], [], false⟩, ⟨[26, 28], [], [], [], false⟩, ⟨[6, 26], [], [], [], false⟩, ⟨[26, 30], [], [], [], true⟩, ⟨[26, 29, 31], [], [], [], false⟩, ⟨[26, 32], [], [], [], false⟩, ⟨[33], [], [], [], false⟩, ⟨[6, 34], [], [], [], false⟩, ⟨[5, 34], [1], [], [], false⟩, ⟨[34, 35, 36], [], [], [], true⟩, ⟨[34, 37], [], [], [], false⟩, ⟨[34, 38], [], [], [], false⟩] [0, 1, 2, 3, 4, 5, 6, 7, 8, 9, 10, 11, 12, 13, 14, 15, 16, 17, 18, 19, 20, 21, 22, 23] [[], [0], [0, 1], [0, 1, 2], [0, 1, 2, 3], [0, 1, 2, 3, 4], [0, 1, 2, 3, 4, 5], [0, 1, 2, 3, 4, 5, 6], [0, 1, 2, 3, 4, 5, 6, 7], [0, 1, 2, 3, 4, 5, 6, 7, 8], [0, 1, 2, 3, 4, 5, 6, 7, 8, 9], [0, 1, 2, 3, 4, 5, 6, 7, 8, 9, 10], [0, 1, 2, 3, 4, 5, 6, 7, 8, 9, 10, 11], [0, 1, 2, 3, 4, 5, 6, 7, 8, 9, 10, 11, 12], [0, 1, 2, 3, 4, 5, 6, 7, 8, 9, 10], [0, 1, 2, 3, 4, 5, 6, 7, 8, 9, 10, 14], [0, 1, 2, 3, 4, 5, 6, 7, 8, 9, 10, 11, 12, 13, 14, 15], [0, 1, 2, 3, 4, 5, 6, 7, 8, 9, 10, 11, 12, 13, 14, 15, 16], [0, 1, 2, 3, 4, 5, 6, 7, 8, 9, 10, 11, 12, 13, 14, 15, 16, 17], [0, 1, 2, 3, 4, 5, 6, 7, 8, 9, 10, 11, 12, 13, 14, 15, 16, 17, 18], [0, 1, 2, 3, 4, 5, 6, 7, 8, 9, 10, 11, 12, 13, 14, 15, 16, 17, 18], [0, 1, 2, 3, 4, 5, 6, 7, 8, 9, 10, 11, 12, 13, 14, 15, 16, 17, 18, 19, 20], [0, 1, 2, 3, 4, 5, 6, 7, 8, 9, 10, 11, 12, 13, 14, 15, 16, 17, 18, 19, 20, 21], [0, 1, 2, 3, 4, 5, 6, 7, 8, 9, 10, 11, 12, 13, 14, 15, 16, 17, 18, 19, 20, 21, 22]] 2 rfl (by simp; omega) (by decide +kernel) (by simp) ?_)
    intro O A K hO hA hK; simp only [atL_cons, atL_nil, Nat.reduceAdd, Nat.zero_add] at hO hA
    refine SE_ ?_
    refine loudG (v := .int .i64 (kidsR e.kind)) (fun K2 hb h2 => ?_) ?_
    · have hb2 := hb
      simp only [Bool.not_eq_true', Bool.or_eq_false_iff] at hb2
      obtain ⟨t, fk, fs, hr, q1, q2, q3, q4, q5, q6⟩ := rec_meth e.kind hb2.2
      exact loudi_p (args := []) q3 q1 q2 rfl (by simp -implicitDefEqProofs (disch := omega) only [go_sem, hb, gd_of hb, hr]) rfl rfl h2
    refine SE_ ?_
    refine loudG (v := .bool (shapeR e)) (fun K2 hb h2 => ?_) ?_
    · have hb2 := hb
      simp only [Bool.not_eq_true', Bool.or_eq_false_iff] at hb2
      obtain ⟨t, fk, fs, hr, q1, q2, q3, q4, q5, q6⟩ := rec_meth e.kind hb2.1.2
      exact loudi_p (args := [.agg e.cs]) (q6 e rfl) q4 q5 rfl (by simp -implicitDefEqProofs (disch := omega) only [go_sem, hb, gd_of hb, hr]) (by simp -implicitDefEqProofs (disch := omega) only [go_sem, hb, gd_of hb]) rfl h2
    refine SE_ ?_
    refine hK _ ?_; clear hK K hO hA O A
    refine S_ ?_
    refine wpM_condK ?_
    refine S_ ?_
    refine ⟨fun hc0 => ?_, fun hc0 => ?_⟩
    ·
      refine wpM_seq ?_
      refine wpM_regionK [2] rfl ?_; intro Q1 hQ1
      refine S_ ?_
      refine hQ1 _ _ ?_; clear hQ1 Q1
      refine S_ ?_
      refine wpM_ret ?_
      try refine S_ ?_
      have hbad : badE ((cnt : Int) + 1) dI e = true := hc0
      refine ⟨d, .busy, none, fn, 40, [(2, .ptr (x + 1) 0), (3, .ptr (x + 2) 0), (8, fv)], #[9, 10], asg, body, by simp -implicitDefEqProofs (disch := omega) only [go_sem], ?_⟩
      refine hK' _ ?_; clear hK' K'
      simp -implicitDefEqProofs (disch := omega) only [go_sem]
      refine hQ1 _ _ ?_; clear hQ1 Q1
      simp -implicitDefEqProofs (disch := omega) only [go_sem]
      refine wpM_condK ?_
      simp -implicitDefEqProofs (disch := omega) only [go_sem]
      refine wpM_seq ?_
      refine wpM_regionK [7] rfl ?_; intro Q1 hQ1
      simp -implicitDefEqProofs (disch := omega) only [go_sem]
      refine hQ1 _ _ ?_; clear hQ1 Q1
      simp -implicitDefEqProofs (disch := omega) only [go_sem]
      refine wpM_ret ?_
      refine .of' _ _ ⟨rfl, .inr ⟨cnt + 1, _, ?_, ?_, rfl⟩⟩ ?_ ?_ ?_
      · rw [vis_eq, ← hdI, if_pos hbad]
      · first | omega | (simp -implicitDefEqProofs (disch := omega) only [go_sem]; done)
      all_goals (first | (simp -implicitDefEqProofs (disch := omega) only [go_sem, PV.int.injEq, Int.natCast_add, Int.natCast_one, Int.natCast_zero, true_or, le_yes]; done) | rfl | trivial | (simp -implicitDefEqProofs (disch := omega) only [go_sem, PV.int.injEq, Int.natCast_add, Int.natCast_one, Int.natCast_zero, true_or]; simp; done) | (simp; done))
    refine wpM_skip ?_
    refine S_ ?_
    have hbad : badE ((cnt : Int) + 1) dI e = false := hc0
    clear hc0
    have hb2 := hbad
    simp only [badE, Bool.or_eq_false_iff] at hb2
    obtain ⟨⟨⟨⟨hg1, hg2⟩, _⟩, _⟩, _⟩ := hb2
    have hg2' : deep < 6 := by simp at hg2; omega
    have hg1' : cnt + 1 ≤ 14 := by simp at hg1; omega
    refine ⟨d, .busy, none, fn, 40, [(2, .ptr (x + 1) 0), (3, .ptr (x + 2) 0), (8, fv)], #[9, 10], asg, body, by simp -implicitDefEqProofs (disch := omega) only [go_sem], ?_⟩
    refine hK' _ ?_; clear hK' K'
    simp -implicitDefEqProofs (disch := omega) only [go_sem, hg1, hg2]
    refine hQ1 _ _ ?_; clear hQ1 Q1
    refine S_ ?_
    refine wpM_condK ?_
    refine S_ ?_
    refine wpM_skip ?_
    refine S_ ?_
    refine wpM_seq ?_
    refine wpM_seq ?_
    refine wpM_regionK [1, 4, 26, 27, 28] rfl ?_; intro Q1 hQ1
    refine S_ ?_
    refine hQ1 _ _ ?_; clear hQ1 Q1
    refine S_ ?_
    refine wpM_block ?_
    refine wpM_loopS (fun s n s' => ∃ (i M ci : Nat), i + n = e.kids.length ∧ B + 1 ≤ M ∧ visL (e.kids.take i) (deep + 1) (cnt + 1) = some ci ∧ ci ≤ 14 ∧ s' = { s with env := setE 28 (.int .i64 (i : Nat)) s.env, l := okSt x (okRec x b d fn fv asg body .ready none) b ci ++ [(B, .cells 46 e.cs)], M := M }) (e.kids.length) ?_ ?_
    ·
      refine .of' _ _ ⟨0, _, cnt + 1, by omega, ?_, rfl, hg1', rfl⟩ ?_ ?_ ?_
      · first | omega | (simp -implicitDefEqProofs (disch := omega) only [go_sem]; done)
      all_goals (first | (simp -implicitDefEqProofs (disch := omega) only [go_sem, PV.int.injEq, Int.natCast_add, Int.natCast_one, Int.natCast_zero, true_or, le_yes]; done) | rfl | trivial | (simp -implicitDefEqProofs (disch := omega) only [go_sem, PV.int.injEq, Int.natCast_add, Int.natCast_one, Int.natCast_zero, true_or]; simp; done) | (simp; done))
    rintro n s' ⟨i, M, ci, hi, hM, hv, hci, rfl⟩
    try refine S_ ?_
    refine wpM_seq ?_
    refine wpM_regionK [1, 4, 26, 27, 28, 29] rfl ?_; intro Q1 hQ1
    refine S_ ?_
    refine hQ1 _ _ ?_; clear hQ1 Q1
    refine S_ ?_
    refine wpM_seq ?_
    refine wpM_condK ?_
    refine S_ ?_
    refine ⟨fun hc1 => ?_, fun hc1 => ?_⟩
    ·
      have hl0 : i < e.kids.length := by omega
      have hks := Ex.kid_sz hl0
      refine wpM_skip ?_
      refine S_ ?_
      refine wpM_seq ?_
      refine wpM_block ?_
      refine wpM_seq ?_
      refine wpM_regionK [1, 4, 9, 26, 27, 28] rfl ?_; intro Q1 hQ1
      refine S_ ?_
      refine hQ1 _ _ ?_; clear hQ1 Q1
      refine S_ ?_
      refine wpM_seq ?_
      refine wpM_regionK [1, 4, 26, 27, 28, 37] rfl ?_; intro Q1 hQ1
      refine S_ ?_
      refine OpM_inlineK (first := []) (ps := [.agg (e.kids.getD i default).cs, .int .i64 (dI + 1)]) (cap := [.ptr (x + 7) 0, .ptr (x + 6) 0, .ptr (x + 8) 0]) Tryz.func111 rfl Tryz.ntmps111 (by simp) Tryz.call111 rfl rfl F_ F_ ?_
      intro K' hK'
      refine wpM_frame (okSt x (okRec x b d fn fv asg body .ready none) b ci) [(M, .cells 46 (e.kids.getD i default).cs), (B, .cells 46 e.cs)] T_ T_ T_ (by simp -implicitDefEqProofs (disch := omega) only [go_sem, true_or, or_true]) T_ ?_
      intro f1
      refine wpM_mono (ih (e.kids.getD i default) (by omega) (by omega) (deep + 1) ci (dI + 1) f1 (M + 1) (by rw [hdI]; rfl) (by omega) (by omega) hci) ?_
      rintro ex s' ⟨rfl, ⟨cnt', M', h1, h2, h3, rfl⟩ | ⟨cnt', M', h1, h3, rfl⟩⟩
      rotate_left
      · refine ⟨rfl, rfl, T_, (by simp -implicitDefEqProofs (disch := omega) only [go_sem, true_or, or_true]), ?_⟩
        refine ⟨[], rfl, trivial, [.bool false], (by rw [Tryz.results111]; simp -implicitDefEqProofs (disch := omega) only [go_sem]), ?_⟩
        refine hK' _ ?_; clear hK' K'
        simp -implicitDefEqProofs (disch := omega) only [go_sem]
        refine hQ1 _ _ ?_; clear hQ1 Q1
        simp -implicitDefEqProofs (disch := omega) only [go_sem]
        refine wpM_condK ?_
        simp -implicitDefEqProofs (disch := omega) only [go_sem]
        refine wpM_seq ?_
        refine wpM_regionK [7] rfl ?_; intro Q1 hQ1
        simp -implicitDefEqProofs (disch := omega) only [go_sem]
        refine hQ1 _ _ ?_; clear hQ1 Q1
        simp -implicitDefEqProofs (disch := omega) only [go_sem]
        refine wpM_ret ?_
        refine .of' _ _ ⟨rfl, .inr ⟨cnt', _, ?_, ?_, rfl⟩⟩ ?_ ?_ ?_
        · rw [vis_eq, ← hdI, hbad]
          exact visL_none (i := i + 1) (by rw [visL_take _ _ _ _ hl0, hv]; exact h1)
        · first | omega | (simp -implicitDefEqProofs (disch := omega) only [go_sem]; done) | (simp -implicitDefEqProofs (disch := omega) only [go_sem]; omega)
        all_goals (first | (simp -implicitDefEqProofs (disch := omega) only [go_sem, PV.int.injEq, Int.natCast_add, Int.natCast_one, Int.natCast_zero, true_or, le_yes]; done) | rfl | trivial | (simp -implicitDefEqProofs (disch := omega) only [go_sem, PV.int.injEq, Int.natCast_add, Int.natCast_one, Int.natCast_zero, true_or]; simp; done) | (simp; done))
      refine ⟨rfl, rfl, T_, (by simp -implicitDefEqProofs (disch := omega) only [go_sem, true_or, or_true]), ?_⟩
      refine ⟨[], rfl, trivial, [.bool true], (by rw [Tryz.results111]; simp -implicitDefEqProofs (disch := omega) only [go_sem]), ?_⟩
      refine hK' _ ?_; clear hK' K'
      have hv2 : visL (e.kids.take (i + 1)) (deep + 1) (cnt + 1) = some cnt' := by rw [visL_take _ _ _ _ hl0, hv]; exact h1
      refine S_ ?_
      refine hQ1 _ _ ?_; clear hQ1 Q1
      refine S_ ?_
      refine wpM_condK ?_
      refine S_ ?_
      refine wpM_skip ?_
      refine S_ ?_
      refine wpM_regionK [1, 4, 26, 27, 28] rfl ?_; intro Q1 hQ1
      refine S_ ?_
      refine hQ1 _ _ ?_; clear hQ1 Q1
      refine S_ ?_
      refine .of' _ _ ⟨n - 1, by omega, i + 1, _, cnt', by omega, ?_, hv2, h2, rfl⟩ ?_ ?_ ?_
      · first | omega | (simp -implicitDefEqProofs (disch := omega) only [go_sem]; done) | (simp -implicitDefEqProofs (disch := omega) only [go_sem]; omega)
      all_goals (first | (simp -implicitDefEqProofs (disch := omega) only [go_sem, PV.int.injEq, Int.natCast_add, Int.natCast_one, Int.natCast_zero, true_or, le_yes]; done) | rfl | trivial | (simp -implicitDefEqProofs (disch := omega) only [go_sem, PV.int.injEq, Int.natCast_add, Int.natCast_one, Int.natCast_zero, true_or]; simp; done) | (simp; done))
    refine wpM_exit ?_
    refine S_ ?_
    refine wpM_seq ?_
    refine wpM_regionK [7] rfl ?_; intro Q1 hQ1
    refine S_ ?_
    refine hQ1 _ _ ?_; clear hQ1 Q1
    refine S_ ?_
    refine wpM_ret ?_
    try refine S_ ?_
    have hie : i = e.kids.length := by omega
    rw [hie, List.take_of_length_le (Nat.le_refl _)] at hv
    refine .of' _ _ ⟨rfl, .inl ⟨ci, _, ?_, hci, ?_, rfl⟩⟩ ?_ ?_ ?_
    · rw [vis_eq, ← hdI, hbad]; exact hv
    · first | omega | (simp -implicitDefEqProofs (disch := omega) only [go_sem]; done) | (simp -implicitDefEqProofs (disch := omega) only [go_sem]; omega)
    all_goals (first | (simp -implicitDefEqProofs (disch := omega) only [go_sem, PV.int.injEq, Int.natCast_add, Int.natCast_one, Int.natCast_zero, true_or, le_yes]; done) | rfl | trivial | (simp -implicitDefEqProofs (disch := omega) only [go_sem, PV.int.injEq, Int.natCast_add, Int.natCast_one, Int.natCast_zero, true_or]; simp; done) | (simp; done))
end Go.Proofs.YtnilkkcobeaglaaGreat
namespace Go.Proofs.YtnilkkcobeaglaaGreat
open Go Sg
set_option maxRecDepth 100000
set_option linter.unusedSimpArgs false
set_option linter.unusedVariables false
set_option maxHeartbeats 4000000
theorem iexprOk_ok (e : Ex) (hs : e.sz ≤ 1099511627776) : PureF Tryz.prog 21 [.agg e.cs] [.bool (vis e 0 0).isSome] := by
  refine pureF_ofM Tryz.func21 rfl Tryz.ntmps21 (by simp) T_ ?_
  intro f0 B Q hQ
  obtain ⟨asg, body, hcode⟩ : ∃ asg body, Tryz.f21.body.map rfs = some [(asg, body)] := ⟨_, _, rfl⟩
  have hcode' := Option.some.inj hcode
  simp only [rfs, List.nil_append, List.append_nil, List.cons.injEq, Prod.mk.injEq, and_true] at hcode'
  obtain ⟨hasg, hbody⟩ := hcode'
  refine wpM_seq ?_
  refine wpM_regionK [1, 2, 9, 10] rfl ?_; intro Q1 hQ1
  refine S_ ?_
  refine hQ1 _ _ ?_; clear hQ1 Q1
  refine S_ ?_
  refine wpM_seq ?_
  refine wpM_regionK [1, 2, 3, 9, 10] rfl ?_; intro Q1 hQ1
  refine S_ ?_
  refine hQ1 _ _ ?_; clear hQ1 Q1
  refine S_ ?_
  refine wpM_seq ?_
  refine wpM_seq ?_
  refine wpM_regionK [2, 3, 8, 9, 10] rfl ?_; intro Q1 hQ1
  refine S_ ?_
  refine call_fn (l := []) (first := []) (cap := []) (ps := [.agg e.cs]) (parts_ok e) Tryz.call59 rfl rfl rfl T_ T_ ?_
  rintro out ⟨x, hns, rfl⟩
  injection hns with hn1 hns
  subst hn1
  refine S_ ?_
  refine hQ1 _ _ ?_; clear hQ1 Q1
  refine S_ ?_
  refine wpM_block ?_
  refine wpM_code (c' := Code.rangeFunc (.tmp 8) #[9, 10] asg body) (by rw [← hasg, ← hbody]) ?_
  refine wpM_rangeFunc (first := []) (cap := [.ptr (B + 3) 0]) T_ Tryz.func110 rfl Tryz.ntmps110 (by simp) Tryz.call110 ?_
  intro fn b d
  refine wpM_seq ?_
  refine wpM_regionK [1, 2] rfl ?_; intro Q1 hQ1
  refine S_ ?_
  refine hQ1 _ _ ?_; clear hQ1 Q1
  refine S_ ?_
  refine wpM_seq ?_
  refine wpM_regionK [1, 2, 3] rfl ?_; intro Q1 hQ1
  refine S_ ?_
  refine hQ1 _ _ ?_; clear hQ1 Q1
  refine S_ ?_
  refine wpM_seq ?_
  refine wpM_regionK [1, 2, 3, 4] rfl ?_; intro Q1 hQ1
  refine S_ ?_
  refine hQ1 _ _ ?_; clear hQ1 Q1
  refine S_ ?_
  refine wpM_seq ?_
  refine wpM_regionK [1, 4] rfl ?_; intro Q1 hQ1
  refine S_ ?_
  refine hQ1 _ _ ?_; clear hQ1 Q1
  refine S_ ?_
  refine wpM_regionK [] rfl ?_; intro Q1 hQ1
  refine S_ ?_
  simp -implicitDefEqProofs (disch := omega) only [go_sem, Nat.add_assoc]
  refine OpM_inlineK (first := []) (ps := [.agg e.cs, .int .i64 0]) (cap := [.ptr (B + 7) 0, .ptr (B + 6) 0, .ptr (B + 8) 0]) Tryz.func111 rfl Tryz.ntmps111 (by simp) Tryz.call111 rfl rfl F_ F_ ?_
  intro K' hK'
  refine wpM_frame (okSt B (okRec B b d fn (.fn (.func 110) [] [.ptr (B + 3) 0]) asg body .ready none) b 0) [(B + 4, .dfr d), (B + 3, .cells 46 e.cs), (B, .cells 46 e.cs)] (by simp -implicitDefEqProofs (disch := omega) only [go_sem, Int.natCast_zero]) T_ T_ (by simp -implicitDefEqProofs (disch := omega) only [go_sem, true_or, or_true]) T_ ?_
  intro f1
  refine wpM_mono (walk_ok B b d fn (.fn (.func 110) [] [.ptr (B + 3) 0]) asg body _ hcode rfl e.sz e (Nat.le_refl _) hs 0 0 0 f1 (B + 9) rfl (by omega) (by omega) (by omega)) ?_
  rintro ex s' ⟨rfl, ⟨cnt', M', q1, q2, q3, rfl⟩ | ⟨cnt', M', q1, q3, rfl⟩⟩
  rotate_left
  · refine ⟨rfl, rfl, T_, (by simp -implicitDefEqProofs (disch := omega) only [go_sem, true_or, or_true]), ?_⟩
    refine ⟨[], rfl, trivial, [.bool false], (by rw [Tryz.results111]; simp -implicitDefEqProofs (disch := omega) only [go_sem]), ?_⟩
    refine hK' _ ?_; clear hK' K'
    simp -implicitDefEqProofs (disch := omega) only [go_sem]
    refine hQ1 _ _ ?_; clear hQ1 Q1
    simp -implicitDefEqProofs (disch := omega) only [go_sem]
    refine ⟨[], rfl, trivial, [], (by rw [Tryz.results110]; simp -implicitDefEqProofs (disch := omega) only [go_sem]), ?_⟩
    refine ⟨d, .done, some .ret, fn, 40, [(2, .ptr (B + 1) 0), (3, .ptr (B + 2) 0), (8, .fn (.func 110) [] [.ptr (B + 3) 0])], #[9, 10], asg, body, T_, (by simp), ?_⟩
    simp -implicitDefEqProofs (disch := omega) only [go_sem, Nat.add_assoc]
    refine hQ [B + 4] _ _ rfl rfl rfl ⟨⟨by simp -implicitDefEqProofs (disch := omega) only [go_sem], ⟨d, by simp -implicitDefEqProofs (disch := omega) only [go_sem]⟩, by simp⟩, trivial⟩ (by simp -implicitDefEqProofs (disch := omega) only [go_sem, true_or]) ?_ (.inl rfl)
    rw [Tryz.results21, q1]
    simp -implicitDefEqProofs (disch := omega) only [go_sem, Option.isSome_none]
  refine ⟨rfl, rfl, T_, (by simp -implicitDefEqProofs (disch := omega) only [go_sem, true_or, or_true]), ?_⟩
  refine ⟨[], rfl, trivial, [.bool true], (by rw [Tryz.results111]; simp -implicitDefEqProofs (disch := omega) only [go_sem]), ?_⟩
  refine hK' _ ?_; clear hK' K'
  refine S_ ?_
  refine hQ1 _ _ ?_; clear hQ1 Q1
  refine S_ ?_
  refine ⟨[], rfl, trivial, [], (by rw [Tryz.results110]; simp -implicitDefEqProofs (disch := omega) only [go_sem]), ?_⟩
  refine ⟨d, .ready, none, fn, 40, [(2, .ptr (B + 1) 0), (3, .ptr (B + 2) 0), (8, .fn (.func 110) [] [.ptr (B + 3) 0])], #[9, 10], asg, body, T_, (by simp), ?_⟩
  simp -implicitDefEqProofs (disch := omega) only [go_sem, Nat.add_assoc]
  refine wpM_seq ?_
  refine wpM_regionK [2] rfl ?_; intro Q1 hQ1
  refine S_ ?_
  refine hQ1 _ _ ?_; clear hQ1 Q1
  refine S_ ?_
  refine wpM_ret ?_
  try refine S_ ?_
  refine hQ [B + 4] _ _ rfl rfl rfl ⟨⟨by simp -implicitDefEqProofs (disch := omega) only [go_sem], ⟨d, by simp -implicitDefEqProofs (disch := omega) only [go_sem]⟩, by simp⟩, trivial⟩ (by simp -implicitDefEqProofs (disch := omega) only [go_sem, true_or]) ?_ (.inl rfl)
  rw [Tryz.results21, q1]
  simp -implicitDefEqProofs (disch := omega) only [go_sem, Option.isSome_some]
end Go.Proofs.YtnilkkcobeaglaaGreat
namespace Go.Proofs.YtnilkkcobeaglaaGreat
open Go Sg
set_option maxRecDepth 100000
set_option linter.unusedSimpArgs false
set_option linter.unusedVariables false
set_option maxHeartbeats 4000000
def idxOf {α : Type} (p : α → Bool) (l : List α) : Int := if l.any p then (l.findIdx p : Int) else -1
theorem idxOf_at {α : Type} {p : α → Bool} {l : List α} {z : α} {i : Nat} (h : i < l.length) (ha : (l.take i).all (fun x => !p x) = true) (hp : p (l.getD i z) = true) : idxOf p l = (i : Int) := by
  have hg : l.getD i z = l[i] := by simp [List.getD, h]
  rw [hg] at hp
  have hany : l.any p = true := List.any_eq_true.2 ⟨l[i], List.getElem_mem h, hp⟩
  rw [idxOf, if_pos hany]
  have : l.findIdx p = i := by
    rw [List.findIdx_eq h]
    refine ⟨hp, fun j hj => ?_⟩
    rw [List.all_eq_true] at ha
    have hm : l[j] ∈ l.take i := by
      rw [List.mem_take_iff_getElem]
      exact ⟨j, by omega, rfl⟩
    have := ha _ hm
    simpa using this
  rw [this]
theorem idxOf_no {α : Type} {p : α → Bool} {l : List α} (ha : l.all (fun x => !p x) = true) : idxOf p l = -1 := by
  have : l.any p = false := by
    rw [List.all_eq_not_any_not] at ha
    simpa using ha
  rw [idxOf, if_neg (by rw [this]; simp)]
theorem idxOf_ge {α : Type} (p : α → Bool) (l : List α) : decide (idxOf p l ≥ 0) = l.any p := by
  unfold idxOf
  cases h : l.any p <;> simp
theorem idxI_ok (l : List Int) (fid : Nat) (cap : List PV) (p : Int → Bool) (lst : List (Nat × AObj)) (hl : l.length ≤ 1099511627776) (henter : ∀ args w, (callFunc fid args).run Tryz.prog w = .ok (.enter fid args) w)
    (hf : ∀ i, i < l.length → CallF Tryz.prog fid ([.int .i64 (l.getD i 0)] ++ cap) lst 0 (fun _ o => o = { rs := [.bool (p (l.getD i 0))] })) :
    CallF Tryz.prog 137 [.rows 3 (rowsI l), .fn (.func fid) [] cap] lst 0 (fun _ o => o = { rs := [.int .i64 (idxOf p l)] }) := by
  refine callF_ofR Tryz.func137 rfl Tryz.ntmps137 (by simp) T_ ?_
  intro f0 B Q hhid hQ
  refine wpM_seq ?_
  refine wpM_regionK [0, 1] rfl ?_; intro Q1 hQ1
  refine S_ ?_
  refine hQ1 _ _ ?_; clear hQ1 Q1
  refine S_ ?_
  refine wpM_seq ?_
  refine wpM_seq ?_
  refine wpM_regionK [0, 1, 7, 8] rfl ?_; intro Q1 hQ1
  refine S_ ?_
  refine hQ1 _ _ ?_; clear hQ1 Q1
  refine S_ ?_
  refine wpM_block ?_
  refine wpM_loopS (fun s n s' => ∃ (i0 M0 : Nat) , i0 + n = l.length ∧ s.M ≤ M0 ∧ ((l.take i0).all (fun x => !p x) = true) ∧ s' = { s with env := setE 8 (.int .i64 (i0 : Nat)) s.env, M := M0 }) (l.length) ?_ ?_
  ·
    refine .of' _ _ ⟨0, _, by omega, Nat.le_refl _, by simp, rfl⟩ ?_ ?_ ?_ <;> (first | (simp -implicitDefEqProofs (disch := omega) only [go_sem, PV.int.injEq, Int.natCast_add, Int.natCast_one, Int.natCast_zero, true_or, le_yes]; done) | rfl | trivial | (simp -implicitDefEqProofs (disch := omega) only [go_sem, PV.int.injEq, Int.natCast_add, Int.natCast_one, Int.natCast_zero, true_or]; simp; done) | (simp; done))
  rintro n0 s' ⟨i0, M0, hi0, hM0, hv0, rfl⟩
  try dsimp only at hM0
  try refine S_ ?_
  refine wpM_seq ?_
  refine wpM_regionK [0, 1, 7, 8, 9] rfl ?_; intro Q1 hQ1
  refine S_ ?_
  refine hQ1 _ _ ?_; clear hQ1 Q1
  refine S_ ?_
  refine wpM_seq ?_
  refine wpM_condK ?_
  refine S_ ?_
  refine ⟨fun hc0 => ?_, fun hc0 => ?_⟩
  ·
    have hl0 : i0 < l.length := by omega
    refine wpM_skip ?_
    refine S_ ?_
    refine wpM_seq ?_
    refine wpM_block ?_
    refine wpM_seq ?_
    refine wpM_regionK [0, 1, 5, 7, 8] rfl ?_; intro Q1 hQ1
    refine S_ ?_
    refine hQ1 _ _ ?_; clear hQ1 Q1
    refine S_ ?_
    refine wpM_seq ?_
    refine wpM_regionK [0, 1, 5, 7, 8, 16] rfl ?_; intro Q1 hQ1
    refine S_ ?_
    refine call_cap (args := [.int .i64 (l.getD i0 0)]) (hf i0 hl0) (hidden_f hhid (by simp -implicitDefEqProofs (disch := omega) only [go_sem, true_or])) henter rfl rfl T_ T_ ?_
    refine S_ ?_
    refine hQ1 _ _ ?_; clear hQ1 Q1
    refine S_ ?_
    refine wpM_condK ?_
    refine S_ ?_
    refine ⟨fun hc1 => ?_, fun hc1 => ?_⟩
    ·
      refine wpM_seq ?_
      refine wpM_regionK [4] rfl ?_; intro Q1 hQ1
      refine S_ ?_
      refine hQ1 _ _ ?_; clear hQ1 Q1
      refine S_ ?_
      refine wpM_ret ?_
      try refine S_ ?_
      refine hQ _ _ rfl rfl rfl (by simp -implicitDefEqProofs (disch := omega) only [go_sem, le_yes, true_or]) ?_ (.inl rfl)
      rw [Tryz.results137]
      try simp -implicitDefEqProofs (disch := omega) only [go_sem, List.cons.injEq, PV.bool.injEq, PV.int.injEq, PV.agg.injEq]
      all_goals
        first | rw [idxOf_at hl0 hv0 hc1] | rw [idxOf_no (all_yes' hi0 hc0 hv0)]
    refine wpM_skip ?_
    refine S_ ?_
    refine wpM_regionK [0, 1, 7, 8] rfl ?_; intro Q1 hQ1
    refine S_ ?_
    refine hQ1 _ _ ?_; clear hQ1 Q1
    refine S_ ?_
    refine .of' _ _ ⟨n0 - 1, by omega, i0 + 1, _, by omega, ?_, ?_, rfl⟩ ?_ ?_ ?_
    · first | omega | (simp -implicitDefEqProofs (disch := omega) only [go_sem]; done) | (simp -implicitDefEqProofs (disch := omega) only [go_sem]; omega)
    · rw [take_all' _ _ 0 _ hl0, hv0, hc1]; rfl
    all_goals (first | (simp -implicitDefEqProofs (disch := omega) only [go_sem, PV.int.injEq, Int.natCast_add, Int.natCast_one, Int.natCast_zero, true_or, le_yes]; done) | rfl | trivial | (simp -implicitDefEqProofs (disch := omega) only [go_sem, PV.int.injEq, Int.natCast_add, Int.natCast_one, Int.natCast_zero, true_or]; simp; done) | (simp; done))
  refine wpM_exit ?_
  refine S_ ?_
  refine wpM_seq ?_
  refine wpM_regionK [4] rfl ?_; intro Q1 hQ1
  refine S_ ?_
  refine hQ1 _ _ ?_; clear hQ1 Q1
  refine S_ ?_
  refine wpM_ret ?_
  try refine S_ ?_
  refine hQ _ _ rfl rfl rfl (by simp -implicitDefEqProofs (disch := omega) only [go_sem, le_yes, true_or]) ?_ (.inl rfl)
  rw [Tryz.results137]
  try simp -implicitDefEqProofs (disch := omega) only [go_sem, List.cons.injEq, PV.bool.injEq, PV.int.injEq, PV.agg.injEq]
  all_goals
    first | rw [idxOf_at hl0 hv0 hc1] | rw [idxOf_no (all_yes' hi0 hc0 hv0)]
theorem hasI_ok (l : List Int) (fid : Nat) (cap : List PV) (p : Int → Bool) (lst : List (Nat × AObj)) (hl : l.length ≤ 1099511627776) (henter : ∀ args w, (callFunc fid args).run Tryz.prog w = .ok (.enter fid args) w)
    (hf : ∀ i, i < l.length → CallF Tryz.prog fid ([.int .i64 (l.getD i 0)] ++ cap) lst 0 (fun _ o => o = { rs := [.bool (p (l.getD i 0))] })) :
    CallF Tryz.prog 99 [.rows 3 (rowsI l), .fn (.func fid) [] cap] lst 0 (fun _ o => o = { rs := [.bool (l.any p)] }) := by
  refine callF_ofR Tryz.func99 rfl Tryz.ntmps99 (by simp) T_ ?_
  intro f0 B Q hhid hQ
  refine wpM_seq ?_
  refine wpM_regionK [0, 1] rfl ?_; intro Q1 hQ1
  refine S_ ?_
  refine hQ1 _ _ ?_; clear hQ1 Q1
  refine S_ ?_
  refine wpM_seq ?_
  refine wpM_regionK [4] rfl ?_; intro Q1 hQ1
  refine S_ ?_
  refine call_r (idxI_ok l fid cap p lst hl henter hf) (hidden_f hhid (by simp -implicitDefEqProofs (disch := omega) only [go_sem, true_or])) Tryz.call137 rfl rfl rfl F_ ?_
  refine S_ ?_
  refine hQ1 _ _ ?_; clear hQ1 Q1
  refine S_ ?_
  refine wpM_ret ?_
  try refine S_ ?_
  refine hQ _ _ rfl rfl rfl (by simp -implicitDefEqProofs (disch := omega) only [go_sem, le_yes, true_or]) ?_ (.inl rfl)
  rw [Tryz.results99]
  try simp -implicitDefEqProofs (disch := omega) only [go_sem, List.cons.injEq, PV.bool.injEq, PV.int.injEq, PV.agg.injEq]
  all_goals
    rw [idxOf_ge]
theorem idxA_ok (l : List GAct) (fid : Nat) (cap : List PV) (p : GAct → Bool) (lst : List (Nat × AObj)) (hl : l.length ≤ 1099511627776) (henter : ∀ args w, (callFunc fid args).run Tryz.prog w = .ok (.enter fid args) w)
    (hf : ∀ i, i < l.length → CallF Tryz.prog fid ([.agg (l.getD i default).cs] ++ cap) lst 0 (fun _ o => o = { rs := [.bool (p (l.getD i default))] })) :
    CallF Tryz.prog 131 [.rows 41 (rowsA l), .fn (.func fid) [] cap] lst 0 (fun _ o => o = { rs := [.int .i64 (idxOf p l)] }) := by
  refine callF_ofR Tryz.func131 rfl Tryz.ntmps131 (by simp) T_ ?_
  intro f0 B Q hhid hQ
  refine wpM_seq ?_
  refine wpM_regionK [0, 1] rfl ?_; intro Q1 hQ1
  refine S_ ?_
  refine hQ1 _ _ ?_; clear hQ1 Q1
  refine S_ ?_
  refine wpM_seq ?_
  refine wpM_seq ?_
  refine wpM_regionK [0, 1, 7, 8] rfl ?_; intro Q1 hQ1
  refine S_ ?_
  refine hQ1 _ _ ?_; clear hQ1 Q1
  refine S_ ?_
  refine wpM_block ?_
  refine wpM_loopS (fun s n s' => ∃ (i0 M0 : Nat) , i0 + n = l.length ∧ s.M ≤ M0 ∧ ((l.take i0).all (fun x => !p x) = true) ∧ s' = { s with env := setE 8 (.int .i64 (i0 : Nat)) s.env, M := M0 }) (l.length) ?_ ?_
  ·
    refine .of' _ _ ⟨0, _, by omega, Nat.le_refl _, by simp, rfl⟩ ?_ ?_ ?_ <;> (first | (simp -implicitDefEqProofs (disch := omega) only [go_sem, PV.int.injEq, Int.natCast_add, Int.natCast_one, Int.natCast_zero, true_or, le_yes]; done) | rfl | trivial | (simp -implicitDefEqProofs (disch := omega) only [go_sem, PV.int.injEq, Int.natCast_add, Int.natCast_one, Int.natCast_zero, true_or]; simp; done) | (simp; done))
  rintro n0 s' ⟨i0, M0, hi0, hM0, hv0, rfl⟩
  try dsimp only at hM0
  try refine S_ ?_
  refine wpM_seq ?_
  refine wpM_regionK [0, 1, 7, 8, 9] rfl ?_; intro Q1 hQ1
  refine S_ ?_
  refine hQ1 _ _ ?_; clear hQ1 Q1
  refine S_ ?_
  refine wpM_seq ?_
  refine wpM_condK ?_
  refine S_ ?_
  refine ⟨fun hc0 => ?_, fun hc0 => ?_⟩
  ·
    have hl0 : i0 < l.length := by omega
    refine wpM_skip ?_
    refine S_ ?_
    refine wpM_seq ?_
    refine wpM_block ?_
    refine wpM_seq ?_
    refine wpM_regionK [0, 1, 5, 7, 8] rfl ?_; intro Q1 hQ1
    refine S_ ?_
    refine hQ1 _ _ ?_; clear hQ1 Q1
    refine S_ ?_
    refine wpM_seq ?_
    refine wpM_regionK [0, 1, 5, 7, 8, 16] rfl ?_; intro Q1 hQ1
    refine S_ ?_
    refine call_cap (args := [.agg (l.getD i0 default).cs]) (hf i0 hl0) (hidden_f hhid (by simp -implicitDefEqProofs (disch := omega) only [go_sem, true_or])) henter rfl rfl T_ T_ ?_
    refine S_ ?_
    refine hQ1 _ _ ?_; clear hQ1 Q1
    refine S_ ?_
    refine wpM_condK ?_
    refine S_ ?_
    refine ⟨fun hc1 => ?_, fun hc1 => ?_⟩
    ·
      refine wpM_seq ?_
      refine wpM_regionK [4] rfl ?_; intro Q1 hQ1
      refine S_ ?_
      refine hQ1 _ _ ?_; clear hQ1 Q1
      refine S_ ?_
      refine wpM_ret ?_
      try refine S_ ?_
      refine hQ _ _ rfl rfl rfl (by simp -implicitDefEqProofs (disch := omega) only [go_sem, le_yes, true_or]) ?_ (.inl rfl)
      rw [Tryz.results131]
      try simp -implicitDefEqProofs (disch := omega) only [go_sem, List.cons.injEq, PV.bool.injEq, PV.int.injEq, PV.agg.injEq]
      all_goals
        first | rw [idxOf_at hl0 hv0 hc1] | rw [idxOf_no (all_yes hi0 hc0 hv0)]
    refine wpM_skip ?_
    refine S_ ?_
    refine wpM_regionK [0, 1, 7, 8] rfl ?_; intro Q1 hQ1
    refine S_ ?_
    refine hQ1 _ _ ?_; clear hQ1 Q1
    refine S_ ?_
    refine .of' _ _ ⟨n0 - 1, by omega, i0 + 1, _, by omega, ?_, ?_, rfl⟩ ?_ ?_ ?_
    · first | omega | (simp -implicitDefEqProofs (disch := omega) only [go_sem]; done) | (simp -implicitDefEqProofs (disch := omega) only [go_sem]; omega)
    · rw [take_all _ _ _ hl0, hv0, hc1]; rfl
    all_goals (first | (simp -implicitDefEqProofs (disch := omega) only [go_sem, PV.int.injEq, Int.natCast_add, Int.natCast_one, Int.natCast_zero, true_or, le_yes]; done) | rfl | trivial | (simp -implicitDefEqProofs (disch := omega) only [go_sem, PV.int.injEq, Int.natCast_add, Int.natCast_one, Int.natCast_zero, true_or]; simp; done) | (simp; done))
  refine wpM_exit ?_
  refine S_ ?_
  refine wpM_seq ?_
  refine wpM_regionK [4] rfl ?_; intro Q1 hQ1
  refine S_ ?_
  refine hQ1 _ _ ?_; clear hQ1 Q1
  refine S_ ?_
  refine wpM_ret ?_
  try refine S_ ?_
  refine hQ _ _ rfl rfl rfl (by simp -implicitDefEqProofs (disch := omega) only [go_sem, le_yes, true_or]) ?_ (.inl rfl)
  rw [Tryz.results131]
  try simp -implicitDefEqProofs (disch := omega) only [go_sem, List.cons.injEq, PV.bool.injEq, PV.int.injEq, PV.agg.injEq]
  all_goals
    first | rw [idxOf_at hl0 hv0 hc1] | rw [idxOf_no (all_yes hi0 hc0 hv0)]
theorem hasA_ok (l : List GAct) (fid : Nat) (cap : List PV) (p : GAct → Bool) (lst : List (Nat × AObj)) (hl : l.length ≤ 1099511627776) (henter : ∀ args w, (callFunc fid args).run Tryz.prog w = .ok (.enter fid args) w)
    (hf : ∀ i, i < l.length → CallF Tryz.prog fid ([.agg (l.getD i default).cs] ++ cap) lst 0 (fun _ o => o = { rs := [.bool (p (l.getD i default))] })) :
    CallF Tryz.prog 92 [.rows 41 (rowsA l), .fn (.func fid) [] cap] lst 0 (fun _ o => o = { rs := [.bool (l.any p)] }) := by
  refine callF_ofR Tryz.func92 rfl Tryz.ntmps92 (by simp) T_ ?_
  intro f0 B Q hhid hQ
  refine wpM_seq ?_
  refine wpM_regionK [0, 1] rfl ?_; intro Q1 hQ1
  refine S_ ?_
  refine hQ1 _ _ ?_; clear hQ1 Q1
  refine S_ ?_
  refine wpM_seq ?_
  refine wpM_regionK [4] rfl ?_; intro Q1 hQ1
  refine S_ ?_
  refine call_r (idxA_ok l fid cap p lst hl henter hf) (hidden_f hhid (by simp -implicitDefEqProofs (disch := omega) only [go_sem, true_or])) Tryz.call131 rfl rfl rfl F_ ?_
  refine S_ ?_
  refine hQ1 _ _ ?_; clear hQ1 Q1
  refine S_ ?_
  refine wpM_ret ?_
  try refine S_ ?_
  refine hQ _ _ rfl rfl rfl (by simp -implicitDefEqProofs (disch := omega) only [go_sem, le_yes, true_or]) ?_ (.inl rfl)
  rw [Tryz.results92]
  try simp -implicitDefEqProofs (disch := omega) only [go_sem, List.cons.injEq, PV.bool.injEq, PV.int.injEq, PV.agg.injEq]
  all_goals
    rw [idxOf_ge]
def stBad (l : List Int) (b : Int) (i : Nat) : Bool := decide (l.getD i 0 < 0) || decide (l.getD i 0 ≥ b) || (decide ((i : Int) > 0) && decide (l.getD ((i : Int) - 1).toNat 0 ≥ l.getD i 0))
theorem stBad_eq (l : List Int) (b : Int) (i : Nat) : stBad l b i = plBad l b i := by unfold stBad plBad; rfl
theorem stepsOk_ok (l : List Int) (b : Int) (hl : l.length ≤ 1099511627776) : PureF Tryz.prog 128 [.rows 3 (rowsI l), .int .i64 b] [.bool (plOk l b)] := by
  refine pureF_of Tryz.func128 rfl Tryz.ntmps128 (by simp) T_ ?_
  intro f0 B Q hQ
  refine wpM_seq ?_
  refine wpM_regionK [0, 1] rfl ?_; intro Q1 hQ1
  refine S_ ?_
  refine hQ1 _ _ ?_; clear hQ1 Q1
  refine S_ ?_
  refine wpM_seq ?_
  refine wpM_seq ?_
  refine wpM_regionK [0, 1, 7, 8, 9] rfl ?_; intro Q1 hQ1
  refine S_ ?_
  refine hQ1 _ _ ?_; clear hQ1 Q1
  refine S_ ?_
  refine wpM_block ?_
  refine wpM_loopS (fun s n s' => ∃ (i0 M0 : Nat) , i0 + n = l.length ∧ s.M ≤ M0 ∧ ((List.range i0).all (fun i => !plBad l b i) = true) ∧ s' = { s with env := setE 9 (.int .i64 (i0 : Nat)) s.env, M := M0 }) (l.length) ?_ ?_
  ·
    refine .of' _ _ ⟨0, _, by omega, Nat.le_refl _, by simp, rfl⟩ ?_ ?_ ?_ <;> (first | (simp -implicitDefEqProofs (disch := omega) only [go_sem, PV.int.injEq, Int.natCast_add, Int.natCast_one, Int.natCast_zero, true_or, le_yes]; done) | rfl | trivial | (simp -implicitDefEqProofs (disch := omega) only [go_sem, PV.int.injEq, Int.natCast_add, Int.natCast_one, Int.natCast_zero, true_or]; simp; done) | (simp; done))
  rintro n0 s' ⟨i0, M0, hi0, hM0, hv0, rfl⟩
  try dsimp only at hM0
  try refine S_ ?_
  refine wpM_seq ?_
  refine wpM_regionK [0, 1, 7, 8, 9, 10] rfl ?_; intro Q1 hQ1
  refine S_ ?_
  refine hQ1 _ _ ?_; clear hQ1 Q1
  refine S_ ?_
  refine wpM_seq ?_
  refine wpM_condK ?_
  refine S_ ?_
  refine ⟨fun hc0 => ?_, fun hc0 => ?_⟩
  ·
    have hl0 : i0 < l.length := by omega
    refine wpM_skip ?_
    refine S_ ?_
    refine wpM_seq ?_
    refine wpM_block ?_
    refine wpM_seq ?_
    refine wpM_regionK [0, 1, 5, 6, 7, 8, 9] rfl ?_; intro Q1 hQ1
    refine S_ ?_
    refine hQ1 _ _ ?_; clear hQ1 Q1
    refine S_ ?_
    refine wpM_seq ?_
    refine wpM_regionK [0, 1, 7, 8, 9, 33] rfl ?_; intro Q1 hQ1
    refine SD_ ?_
    refine hQ1 _ _ ?_; clear hQ1 Q1
    refine S_ ?_
    refine wpM_condK ?_
    refine S_ ?_
    refine ⟨fun hc1 => ?_, fun hc1 => ?_⟩
    ·
      refine wpM_seq ?_
      refine wpM_regionK [4] rfl ?_; intro Q1 hQ1
      refine S_ ?_
      refine hQ1 _ _ ?_; clear hQ1 Q1
      refine S_ ?_
      refine wpM_ret ?_
      try refine S_ ?_
      refine hQ _ _ rfl rfl rfl (by simp -implicitDefEqProofs (disch := omega) only [go_sem, le_yes, true_or]) ?_ (.inl rfl)
      rw [Tryz.results128]
      try simp -implicitDefEqProofs (disch := omega) only [go_sem, List.cons.injEq, PV.bool.injEq, PV.int.injEq, PV.agg.injEq]
      all_goals
        first | (have h1 : plBad l b i0 = true := hc1
                 rw [plOk, range_no hl0 (by rw [h1]; rfl)]; rfl) | (have : i0 = l.length := by omega
                                                                    rw [plOk, ← this, hv0]; rfl)
    refine wpM_skip ?_
    refine S_ ?_
    refine wpM_regionK [0, 1, 7, 8, 9] rfl ?_; intro Q1 hQ1
    refine S_ ?_
    refine hQ1 _ _ ?_; clear hQ1 Q1
    refine S_ ?_
    refine .of' _ _ ⟨n0 - 1, by omega, i0 + 1, _, by omega, ?_, ?_, rfl⟩ ?_ ?_ ?_
    · first | omega | (simp -implicitDefEqProofs (disch := omega) only [go_sem]; done) | (simp -implicitDefEqProofs (disch := omega) only [go_sem]; omega)
    · rw [range_all, hv0]
      have : plBad l b i0 = false := hc1
      rw [this]; rfl
    all_goals (first | (simp -implicitDefEqProofs (disch := omega) only [go_sem, PV.int.injEq, Int.natCast_add, Int.natCast_one, Int.natCast_zero, true_or, le_yes]; done) | rfl | trivial | (simp -implicitDefEqProofs (disch := omega) only [go_sem, PV.int.injEq, Int.natCast_add, Int.natCast_one, Int.natCast_zero, true_or]; simp; done) | (simp; done))
  refine wpM_exit ?_
  refine S_ ?_
  refine wpM_seq ?_
  refine wpM_regionK [4] rfl ?_; intro Q1 hQ1
  refine S_ ?_
  refine hQ1 _ _ ?_; clear hQ1 Q1
  refine S_ ?_
  refine wpM_ret ?_
  try refine S_ ?_
  refine hQ _ _ rfl rfl rfl (by simp -implicitDefEqProofs (disch := omega) only [go_sem, le_yes, true_or]) ?_ (.inl rfl)
  rw [Tryz.results128]
  try simp -implicitDefEqProofs (disch := omega) only [go_sem, List.cons.injEq, PV.bool.injEq, PV.int.injEq, PV.agg.injEq]
  all_goals
    first | (have h1 : plBad l b i0 = true := hc1
             rw [plOk, range_no hl0 (by rw [h1]; rfl)]; rfl) | (have : i0 = l.length := by omega
                                                                rw [plOk, ← this, hv0]; rfl)
theorem cbad_ok (c : Cht) (a : GAct) (id : Nat) : CallF Tryz.prog 129 [.agg a.cs, .ptr id 0] [(id, .cells 26 c.cs)] 0 (fun _ o => o = { rs := [.bool (a.bad c.steps)] }) := by
  refine callF_of' Tryz.func129 rfl Tryz.ntmps129 (by simp) ?_
  intro f0 B ns Q hB hns hQ
  have hid : id < B := hB id (by simp [hasKey, lk])
  obtain rfl : ns = [] := List.eq_nil_of_length_eq_zero hns
  refine wpM_seq ?_
  refine wpM_regionK [1, 2] rfl ?_; intro Q1 hQ1
  refine S_ ?_
  refine hQ1 _ _ ?_; clear hQ1 Q1
  refine S_ ?_
  refine wpM_seq ?_
  refine wpM_regionK [3] rfl ?_; intro Q1 hQ1
  refine SD_ ?_
  first | refine callG_p (fun hb => iaddrOk_ok a.to') Tryz.call130 rfl rfl (fun hb => by simp -implicitDefEqProofs (disch := omega) only [go_sem]) (fun hb => by first | rfl | (simp -implicitDefEqProofs (disch := omega) only [go_sem, hb, gd_of hb] <;> rfl)) ?_ | refine call_p (iaddrOk_ok a.to') Tryz.call130 rfl rfl rfl (by first | rfl | (simp -implicitDefEqProofs (disch := omega) only [go_sem] <;> rfl)) ?_
  refine SD_ ?_
  refine hQ1 _ _ ?_; clear hQ1 Q1
  refine S_ ?_
  refine wpM_ret ?_
  try refine S_ ?_
  refine hQ _ _ (ret0 [] rfl rfl rfl (by rw [Tryz.results129]; simp (maxSteps := 1000000) -implicitDefEqProofs (disch := omega) only [go_sem] <;> rfl) rfl ?_ ?_ ?_ ?_)
  all_goals simp -implicitDefEqProofs (disch := omega) only [go_sem, true_or, or_true]
def Cht.iok (c : Cht) : Bool := if decide (c.steps < 1) || decide (c.steps > 6) || decide ((c.ts.length : Int) > 6) || decide ((c.as'.length : Int) > 6) then false
  else c.ts.all (fun t => !(!plOk t.fr c.steps || !plOk t.to' c.steps || !(vis t.w 0 0).isSome)) && !(c.as'.any (fun a => a.bad c.steps))
theorem ichartOk_ok (c : Cht) (hc : c.Sm) : PureF Tryz.prog 88 [.agg c.cs] [.bool c.iok] := by
  have hts := hc.ts
  have has := hc.as'
  refine pureF_of Tryz.func88 rfl Tryz.ntmps88 (by simp) T_ ?_
  intro f0 B Q hQ
  refine wpM_seq ?_
  refine wpM_regionK [1] rfl ?_; intro Q1 hQ1
  refine S_ ?_
  refine hQ1 _ _ ?_; clear hQ1 Q1
  refine S_ ?_
  refine wpM_seq ?_
  refine wpM_seq ?_
  refine wpM_regionK [1, 24] rfl ?_; intro Q1 hQ1
  refine SD_ ?_
  refine hQ1 _ _ ?_; clear hQ1 Q1
  refine S_ ?_
  refine wpM_condK ?_
  refine S_ ?_
  refine ⟨fun hc0 => ?_, fun hc0 => ?_⟩
  ·
    refine wpM_seq ?_
    refine wpM_regionK [2] rfl ?_; intro Q1 hQ1
    refine S_ ?_
    refine hQ1 _ _ ?_; clear hQ1 Q1
    refine S_ ?_
    refine wpM_ret ?_
    try refine S_ ?_
    refine hQ _ _ rfl rfl rfl (by simp -implicitDefEqProofs (disch := omega) only [go_sem, le_yes, true_or]) ?_ (.inl rfl)
    rw [Tryz.results88]
    try simp -implicitDefEqProofs (disch := omega) only [go_sem, List.cons.injEq, PV.bool.injEq, PV.int.injEq, PV.agg.injEq]
    all_goals
      unfold Cht.iok
      first
      | rw [if_pos hc0]
      | (rw [if_neg (by rw [hc0]; simp), all_no (p := fun t => !(!plOk t.fr c.steps || !plOk t.to' c.steps || !(vis t.w 0 0).isSome)) hl0 (by simp only [hc2]; rfl)]; rfl)
      | rw [if_neg (by rw [hc0]; simp), all_yes hi0 hc1 hv0, Bool.true_and]
  refine wpM_skip ?_
  refine S_ ?_
  refine wpM_seq ?_
  refine wpM_seq ?_
  refine wpM_regionK [1, 26, 27, 28] rfl ?_; intro Q1 hQ1
  refine S_ ?_
  refine hQ1 _ _ ?_; clear hQ1 Q1
  refine S_ ?_
  refine wpM_block ?_
  refine wpM_loopS (fun s n s' => ∃ (i0 M0 : Nat) , i0 + n = c.ts.length ∧ s.M ≤ M0 ∧ ((c.ts.take i0).all (fun t => !(!plOk t.fr c.steps || !plOk t.to' c.steps || !(vis t.w 0 0).isSome)) = true) ∧ s' = { s with env := setE 28 (.int .i64 (i0 : Nat)) s.env, M := M0 }) (c.ts.length) ?_ ?_
  ·
    refine .of' _ _ ⟨0, _, by omega, Nat.le_refl _, by simp, rfl⟩ ?_ ?_ ?_ <;> (first | (simp -implicitDefEqProofs (disch := omega) only [go_sem, PV.int.injEq, Int.natCast_add, Int.natCast_one, Int.natCast_zero, true_or, le_yes]; done) | rfl | trivial | (simp -implicitDefEqProofs (disch := omega) only [go_sem, PV.int.injEq, Int.natCast_add, Int.natCast_one, Int.natCast_zero, true_or]; simp; done) | (simp; done))
  rintro n0 s' ⟨i0, M0, hi0, hM0, hv0, rfl⟩
  try dsimp only at hM0
  try refine S_ ?_
  refine wpM_seq ?_
  refine wpM_regionK [1, 26, 27, 28, 29] rfl ?_; intro Q1 hQ1
  refine S_ ?_
  refine hQ1 _ _ ?_; clear hQ1 Q1
  refine S_ ?_
  refine wpM_seq ?_
  refine wpM_condK ?_
  refine S_ ?_
  refine ⟨fun hc1 => ?_, fun hc1 => ?_⟩
  ·
    have hl0 : i0 < c.ts.length := by omega
    have ht := hc.t i0 hl0
    refine wpM_skip ?_
    refine S_ ?_
    refine wpM_seq ?_
    refine wpM_block ?_
    refine wpM_seq ?_
    refine wpM_regionK [1, 4, 26, 27, 28] rfl ?_; intro Q1 hQ1
    refine S_ ?_
    refine hQ1 _ _ ?_; clear hQ1 Q1
    refine S_ ?_
    refine wpM_seq ?_
    refine wpM_regionK [1, 26, 27, 28, 51] rfl ?_; intro Q1 hQ1
    refine SD_ ?_
    refine call_p (stepsOk_ok (c.ts.getD i0 default).fr c.steps ht.fr) Tryz.call128 rfl rfl rfl (by first | rfl | (simp -implicitDefEqProofs (disch := omega) only [go_sem] <;> rfl)) ?_
    refine SD_ ?_
    first | refine callG_p (fun hb => stepsOk_ok (c.ts.getD i0 default).to' c.steps ht.to') Tryz.call128 rfl rfl (fun hb => by simp -implicitDefEqProofs (disch := omega) only [go_sem]) (fun hb => by first | rfl | (simp -implicitDefEqProofs (disch := omega) only [go_sem, hb, gd_of hb] <;> rfl)) ?_ | refine call_p (stepsOk_ok (c.ts.getD i0 default).to' c.steps ht.to') Tryz.call128 rfl rfl rfl (by first | rfl | (simp -implicitDefEqProofs (disch := omega) only [go_sem] <;> rfl)) ?_
    refine SD_ ?_
    first | refine callG_p (fun hb => iexprOk_ok (c.ts.getD i0 default).w ht.w) Tryz.call21 rfl rfl (fun hb => by simp -implicitDefEqProofs (disch := omega) only [go_sem]) (fun hb => by first | rfl | (simp -implicitDefEqProofs (disch := omega) only [go_sem, hb, gd_of hb] <;> rfl)) ?_ | refine call_p (iexprOk_ok (c.ts.getD i0 default).w ht.w) Tryz.call21 rfl rfl rfl (by first | rfl | (simp -implicitDefEqProofs (disch := omega) only [go_sem] <;> rfl)) ?_
    refine SD_ ?_
    refine hQ1 _ _ ?_; clear hQ1 Q1
    refine S_ ?_
    refine wpM_condK ?_
    refine S_ ?_
    refine ⟨fun hc2 => ?_, fun hc2 => ?_⟩
    ·
      refine wpM_seq ?_
      refine wpM_regionK [2] rfl ?_; intro Q1 hQ1
      refine S_ ?_
      refine hQ1 _ _ ?_; clear hQ1 Q1
      refine S_ ?_
      refine wpM_ret ?_
      try refine S_ ?_
      refine hQ _ _ rfl rfl rfl (by simp -implicitDefEqProofs (disch := omega) only [go_sem, le_yes, true_or]) ?_ (.inl rfl)
      rw [Tryz.results88]
      try simp -implicitDefEqProofs (disch := omega) only [go_sem, List.cons.injEq, PV.bool.injEq, PV.int.injEq, PV.agg.injEq]
      all_goals
        unfold Cht.iok
        first
        | rw [if_pos hc0]
        | (rw [if_neg (by rw [hc0]; simp), all_no (p := fun t => !(!plOk t.fr c.steps || !plOk t.to' c.steps || !(vis t.w 0 0).isSome)) hl0 (by simp only [hc2]; rfl)]; rfl)
        | rw [if_neg (by rw [hc0]; simp), all_yes hi0 hc1 hv0, Bool.true_and]
    refine wpM_skip ?_
    refine S_ ?_
    refine wpM_regionK [1, 26, 27, 28] rfl ?_; intro Q1 hQ1
    refine S_ ?_
    refine hQ1 _ _ ?_; clear hQ1 Q1
    refine S_ ?_
    refine .of' _ _ ⟨n0 - 1, by omega, i0 + 1, _, by omega, ?_, ?_, rfl⟩ ?_ ?_ ?_
    · first | omega | (simp -implicitDefEqProofs (disch := omega) only [go_sem]; done) | (simp -implicitDefEqProofs (disch := omega) only [go_sem]; omega)
    · rw [take_all _ _ _ hl0, hv0]
      simp only [hc2]; rfl
    all_goals (first | (simp -implicitDefEqProofs (disch := omega) only [go_sem, PV.int.injEq, Int.natCast_add, Int.natCast_one, Int.natCast_zero, true_or, le_yes]; done) | rfl | trivial | (simp -implicitDefEqProofs (disch := omega) only [go_sem, PV.int.injEq, Int.natCast_add, Int.natCast_one, Int.natCast_zero, true_or]; simp; done) | (simp; done))
  refine wpM_exit ?_
  refine S_ ?_
  refine wpM_seq ?_
  refine wpM_regionK [2] rfl ?_; intro Q1 hQ1
  refine S_ ?_
  refine call_rs (hasA_ok c.as' 129 [.ptr B 0] (fun a => a.bad c.steps) [(B, .cells 26 c.cs)] has Tryz.call129 (fun i hi => cbad_ok c _ B)) T_ Tryz.call92 rfl rfl rfl F_ ?_
  refine S_ ?_
  refine hQ1 _ _ ?_; clear hQ1 Q1
  refine S_ ?_
  refine wpM_ret ?_
  try refine S_ ?_
  refine hQ _ _ rfl rfl rfl (by simp -implicitDefEqProofs (disch := omega) only [go_sem, le_yes, true_or]) ?_ (.inl rfl)
  rw [Tryz.results88]
  try simp -implicitDefEqProofs (disch := omega) only [go_sem, List.cons.injEq, PV.bool.injEq, PV.int.injEq, PV.agg.injEq]
  all_goals
    unfold Cht.iok
    first
    | rw [if_pos hc0]
    | (rw [if_neg (by rw [hc0]; simp), all_no (p := fun t => !(!plOk t.fr c.steps || !plOk t.to' c.steps || !(vis t.w 0 0).isSome)) hl0 (by simp only [hc2]; rfl)]; rfl)
    | rw [if_neg (by rw [hc0]; simp), all_yes hi0 hc1 hv0, Bool.true_and]
theorem imrkOk_ok (c : Cht) (k : Mrk) : PureF Tryz.prog 89 [.agg c.cs, .agg k.cs] [.bool (mrkOk c k)] := by
  refine pureF_of Tryz.func89 rfl Tryz.ntmps89 (by simp) T_ ?_
  intro f0 B Q hQ
  refine wpM_seq ?_
  refine wpM_regionK [2, 3] rfl ?_; intro Q1 hQ1
  refine S_ ?_
  refine hQ1 _ _ ?_; clear hQ1 Q1
  refine S_ ?_
  refine wpM_seq ?_
  refine wpM_regionK [4] rfl ?_; intro Q1 hQ1
  refine SD_ ?_
  refine hQ1 _ _ ?_; clear hQ1 Q1
  refine S_ ?_
  refine wpM_ret ?_
  try refine S_ ?_
  refine hQ _ _ rfl rfl rfl (by simp -implicitDefEqProofs (disch := omega) only [go_sem, le_yes, true_or]) ?_ (.inl rfl)
  rw [Tryz.results89]
  try simp -implicitDefEqProofs (disch := omega) only [go_sem, List.cons.injEq, PV.bool.injEq, PV.int.injEq, PV.agg.injEq]
  all_goals
    rfl
def eqI (a b : List Int) : Bool := if (a.length : Int) != (b.length : Int) then false else (List.range a.length).all (fun i => !(a.getD i 0 != b.getD i 0))
theorem eqI_ok (a b : List Int) (ha : a.length ≤ 1099511627776) : PureF Tryz.prog 45 [.rows 3 (rowsI a), .rows 3 (rowsI b)] [.bool (eqI a b)] := by
  refine pureF_of Tryz.func45 rfl Tryz.ntmps45 (by simp) T_ ?_
  intro f0 B Q hQ
  refine wpM_seq ?_
  refine wpM_regionK [0, 1] rfl ?_; intro Q1 hQ1
  refine S_ ?_
  refine hQ1 _ _ ?_; clear hQ1 Q1
  refine S_ ?_
  refine wpM_seq ?_
  refine wpM_seq ?_
  refine wpM_regionK [0, 1, 10] rfl ?_; intro Q1 hQ1
  refine S_ ?_
  refine hQ1 _ _ ?_; clear hQ1 Q1
  refine S_ ?_
  refine wpM_condK ?_
  refine S_ ?_
  refine ⟨fun hc0 => ?_, fun hc0 => ?_⟩
  ·
    refine wpM_seq ?_
    refine wpM_regionK [4] rfl ?_; intro Q1 hQ1
    refine S_ ?_
    refine hQ1 _ _ ?_; clear hQ1 Q1
    refine S_ ?_
    refine wpM_ret ?_
    try refine S_ ?_
    refine hQ _ _ rfl rfl rfl (by simp -implicitDefEqProofs (disch := omega) only [go_sem, le_yes, true_or]) ?_ (.inl rfl)
    rw [Tryz.results45]
    try simp -implicitDefEqProofs (disch := omega) only [go_sem, List.cons.injEq, PV.bool.injEq, PV.int.injEq, PV.agg.injEq]
    all_goals
      unfold eqI
      first
      | rw [if_pos hc0]
      | (rw [if_neg (by rw [hc0]; simp), range_no hl0 (by simp only [hc2]; rfl)])
      | (have : i0 = a.length := by omega
         rw [if_neg (by rw [hc0]; simp), ← this, hv0])
  refine wpM_skip ?_
  refine S_ ?_
  refine wpM_seq ?_
  refine wpM_seq ?_
  refine wpM_regionK [0, 1, 12, 13] rfl ?_; intro Q1 hQ1
  refine S_ ?_
  refine hQ1 _ _ ?_; clear hQ1 Q1
  refine S_ ?_
  refine wpM_block ?_
  refine wpM_loopS (fun s n s' => ∃ (i0 M0 : Nat) , i0 + n = a.length ∧ s.M ≤ M0 ∧ ((List.range i0).all (fun i => !(a.getD i 0 != b.getD i 0)) = true) ∧ s' = { s with env := setE 13 (.int .i64 (i0 : Nat)) s.env, M := M0 }) (a.length) ?_ ?_
  ·
    refine .of' _ _ ⟨0, _, by omega, Nat.le_refl _, by simp, rfl⟩ ?_ ?_ ?_ <;> (first | (simp -implicitDefEqProofs (disch := omega) only [go_sem, PV.int.injEq, Int.natCast_add, Int.natCast_one, Int.natCast_zero, true_or, le_yes]; done) | rfl | trivial | (simp -implicitDefEqProofs (disch := omega) only [go_sem, PV.int.injEq, Int.natCast_add, Int.natCast_one, Int.natCast_zero, true_or]; simp; done) | (simp; done))
  rintro n0 s' ⟨i0, M0, hi0, hM0, hv0, rfl⟩
  try dsimp only at hM0
  try refine S_ ?_
  refine wpM_seq ?_
  refine wpM_regionK [0, 1, 12, 13, 14] rfl ?_; intro Q1 hQ1
  refine S_ ?_
  refine hQ1 _ _ ?_; clear hQ1 Q1
  refine S_ ?_
  refine wpM_seq ?_
  refine wpM_condK ?_
  refine S_ ?_
  refine ⟨fun hc1 => ?_, fun hc1 => ?_⟩
  ·
    have hl0 : i0 < a.length := by omega
    have hlb : i0 < b.length := by simp at hc0; omega
    refine wpM_skip ?_
    refine S_ ?_
    refine wpM_seq ?_
    refine wpM_block ?_
    refine wpM_seq ?_
    refine wpM_regionK [0, 1, 5, 12, 13] rfl ?_; intro Q1 hQ1
    refine S_ ?_
    refine hQ1 _ _ ?_; clear hQ1 Q1
    refine S_ ?_
    refine wpM_seq ?_
    refine wpM_keep [0, 1, 12, 13, 24] (wpM_dr mixed 0 0 [] [⟨[0], [], [], [], false⟩, ⟨[5], [], [], [], false⟩, ⟨[16, 17], [], [], [], false⟩, ⟨[18], [], [], [], false⟩, ⟨[1], [], [], [], false⟩, ⟨[5], [], [], [], false⟩, ⟨[20, 21], [], [], [], false⟩, ⟨[22], [], [], [], false⟩, ⟨[19, 23], [], [], [], false⟩] [0, 1, 2, 3, 4, 5, 6, 7, 8] [[], [], [0, 1], [0, 1, 2], [], [], [4, 5], [4, 5, 6], [0, 1, 2, 3, 4, 5, 6, 7]] 0 rfl (by simp) (by decide +kernel) (by simp) ?_)
    intro O A K hO hA hK; simp only [atL_cons, atL_nil, Nat.reduceAdd, Nat.zero_add] at hO hA
    refine SO_ ?_
    refine hK _ ?_; clear hK K hO hA O A
    refine S_ ?_
    refine wpM_condK ?_
    refine S_ ?_
    refine ⟨fun hc2 => ?_, fun hc2 => ?_⟩
    ·
      refine wpM_seq ?_
      refine wpM_regionK [4] rfl ?_; intro Q1 hQ1
      refine S_ ?_
      refine hQ1 _ _ ?_; clear hQ1 Q1
      refine S_ ?_
      refine wpM_ret ?_
      try refine S_ ?_
      refine hQ _ _ rfl rfl rfl (by simp -implicitDefEqProofs (disch := omega) only [go_sem, le_yes, true_or]) ?_ (.inl rfl)
      rw [Tryz.results45]
      try simp -implicitDefEqProofs (disch := omega) only [go_sem, List.cons.injEq, PV.bool.injEq, PV.int.injEq, PV.agg.injEq]
      all_goals
        unfold eqI
        first
        | rw [if_pos hc0]
        | (rw [if_neg (by rw [hc0]; simp), range_no hl0 (by simp only [hc2]; rfl)])
        | (have : i0 = a.length := by omega
           rw [if_neg (by rw [hc0]; simp), ← this, hv0])
    refine wpM_skip ?_
    refine S_ ?_
    refine wpM_regionK [0, 1, 12, 13] rfl ?_; intro Q1 hQ1
    refine S_ ?_
    refine hQ1 _ _ ?_; clear hQ1 Q1
    refine S_ ?_
    refine .of' _ _ ⟨n0 - 1, by omega, i0 + 1, _, by omega, ?_, ?_, rfl⟩ ?_ ?_ ?_
    · first | omega | (simp -implicitDefEqProofs (disch := omega) only [go_sem]; done) | (simp -implicitDefEqProofs (disch := omega) only [go_sem]; omega)
    · rw [range_all, hv0]
      simp only [hc2]; rfl
    all_goals (first | (simp -implicitDefEqProofs (disch := omega) only [go_sem, PV.int.injEq, Int.natCast_add, Int.natCast_one, Int.natCast_zero, true_or, le_yes]; done) | rfl | trivial | (simp -implicitDefEqProofs (disch := omega) only [go_sem, PV.int.injEq, Int.natCast_add, Int.natCast_one, Int.natCast_zero, true_or]; simp; done) | (simp; done))
  refine wpM_exit ?_
  refine S_ ?_
  refine wpM_seq ?_
  refine wpM_regionK [4] rfl ?_; intro Q1 hQ1
  refine S_ ?_
  refine hQ1 _ _ ?_; clear hQ1 Q1
  refine S_ ?_
  refine wpM_ret ?_
  try refine S_ ?_
  refine hQ _ _ rfl rfl rfl (by simp -implicitDefEqProofs (disch := omega) only [go_sem, le_yes, true_or]) ?_ (.inl rfl)
  rw [Tryz.results45]
  try simp -implicitDefEqProofs (disch := omega) only [go_sem, List.cons.injEq, PV.bool.injEq, PV.int.injEq, PV.agg.injEq]
  all_goals
    unfold eqI
    first
    | rw [if_pos hc0]
    | (rw [if_neg (by rw [hc0]; simp), range_no hl0 (by simp only [hc2]; rfl)])
    | (have : i0 = a.length := by omega
       rw [if_neg (by rw [hc0]; simp), ← this, hv0])
def memSame (a b : MM) : Bool := eqI a.i b.i && eqI a.o b.o && eqI a.v b.v
theorem memSame_ok (a b : MM) (ha : a.Sm) : PureF Tryz.prog 11 [.agg a.cs, .agg b.cs] [.bool (memSame a b)] := by
  refine pureF_of Tryz.func11 rfl Tryz.ntmps11 (by simp) T_ ?_
  intro f0 B Q hQ
  refine wpM_seq ?_
  refine wpM_regionK [2, 3] rfl ?_; intro Q1 hQ1
  refine S_ ?_
  refine hQ1 _ _ ?_; clear hQ1 Q1
  refine S_ ?_
  refine wpM_seq ?_
  refine wpM_regionK [4] rfl ?_; intro Q1 hQ1
  refine SD_ ?_
  refine call_p (eqI_ok a.i b.i ha.i) Tryz.call45 rfl rfl rfl (by first | rfl | (simp -implicitDefEqProofs (disch := omega) only [go_sem] <;> rfl)) ?_
  refine SD_ ?_
  first | refine callG_p (fun hb => eqI_ok a.o b.o ha.o) Tryz.call45 rfl rfl (fun hb => by simp -implicitDefEqProofs (disch := omega) only [go_sem]) (fun hb => by first | rfl | (simp -implicitDefEqProofs (disch := omega) only [go_sem, hb, gd_of hb] <;> rfl)) ?_ | refine call_p (eqI_ok a.o b.o ha.o) Tryz.call45 rfl rfl rfl (by first | rfl | (simp -implicitDefEqProofs (disch := omega) only [go_sem] <;> rfl)) ?_
  refine SD_ ?_
  first | refine callG_p (fun hb => eqI_ok a.v b.v ha.v) Tryz.call45 rfl rfl (fun hb => by simp -implicitDefEqProofs (disch := omega) only [go_sem]) (fun hb => by first | rfl | (simp -implicitDefEqProofs (disch := omega) only [go_sem, hb, gd_of hb] <;> rfl)) ?_ | refine call_p (eqI_ok a.v b.v ha.v) Tryz.call45 rfl rfl rfl (by first | rfl | (simp -implicitDefEqProofs (disch := omega) only [go_sem] <;> rfl)) ?_
  refine SD_ ?_
  refine hQ1 _ _ ?_; clear hQ1 Q1
  refine S_ ?_
  refine wpM_ret ?_
  try refine S_ ?_
  refine hQ _ _ rfl rfl rfl (by simp -implicitDefEqProofs (disch := omega) only [go_sem, le_yes, true_or]) ?_ (.inl rfl)
  rw [Tryz.results11]
  try simp -implicitDefEqProofs (disch := omega) only [go_sem, List.cons.injEq, PV.bool.injEq, PV.int.injEq, PV.agg.injEq]
  all_goals
    rfl
end Go.Proofs.YtnilkkcobeaglaaGreat
namespace Go.Proofs.YtnilkkcobeaglaaGreat
open Go Sg
set_option maxRecDepth 100000
set_option linter.unusedSimpArgs false
set_option linter.unusedVariables false
set_option maxHeartbeats 4000000
def MM.flat (m : MM) : List Int := m.i ++ (m.o ++ m.v)
theorem MM.flat_len {m : MM} (h : m.Six) : m.flat.length = 18 := by simp [MM.flat, h.i, h.o, h.v]
def MM.nth (m : MM) (i : Nat) : List Int := [m.i, m.o, m.v].getD i []
@[go_sem] theorem drop3 (e : TypeId) (m : MM) (i : Nat) (h : i < 3) : ([PV.rows e (rowsI m.i), PV.rows e (rowsI m.o), PV.rows e (rowsI m.v)].drop i)[0]? = some (.rows e (rowsI (m.nth i))) := by
  match i, h with
  | 0, _ => rfl
  | 1, _ => rfl
  | 2, _ => rfl
@[go_sem] theorem ints_cell (l : List Int) : (ints l).all PV.cell = true := by
  induction l with
  | nil => rfl
  | cons x l ih => simp only [ints, List.map_cons, List.all_cons, PV.cell, Bool.true_and] at ih ⊢; exact ih
@[go_sem] theorem ints_take6 (l : List Int) (h : l.length = 6) : (ints l).take 6 = ints l := by rw [List.take_of_length_le (by simp [ints, h])]
@[go_sem high] theorem splice_ints6 (L l : List Int) (k : Nat) : splice (ints L) k (ints l) = ints (L.take k ++ l ++ L.drop (k + l.length)) := by
  simp [splice, ints, List.map_take, List.map_drop]
def MM.bk (m : MM) : Nat → List Int
  | 0 => List.replicate 18 0
  | n + 1 => (m.bk n).take (n * 6) ++ m.nth n ++ (m.bk n).drop (n * 6 + (m.nth n).length)
theorem MM.bk3 {m : MM} (h : m.Six) : m.bk 3 = m.flat := by
  have h1 := h.i
  have h2 := h.o
  have h3 := h.v
  simp only [MM.bk, MM.nth, List.getD_cons_zero, List.getD_cons_succ, Nat.zero_mul, List.take_zero, List.nil_append, Nat.zero_add, h1, h2, h3, MM.flat]
  have a1 : ∀ x : List Int, (m.i ++ x).take (1 * 6) = m.i := fun x => by rw [List.take_append_of_le_length (by omega), List.take_of_length_le (by omega)]
  have a2 : ∀ x : List Int, (m.i ++ m.o ++ x).take (2 * 6) = m.i ++ m.o := fun x => by rw [List.take_append_of_le_length (by simp; omega), List.take_of_length_le (by simp; omega)]
  rw [a1, a2]
  have a3 : ((m.i ++ m.o ++ ((m.i ++ (List.replicate 18 (0 : Int)).drop 6).drop (1 * 6 + 6))).drop (2 * 6 + 6)) = [] := by
    rw [List.drop_eq_nil_iff]; simp; omega
  rw [a3]; simp
theorem MM.bk_len {m : MM} : ∀ n, (∀ j, j < n → (m.nth j).length = 6) → n ≤ 3 → (m.bk n).length = 18 := by
  intro n
  induction n with
  | zero => intro _ _; simp [MM.bk]
  | succ n ih =>
    intro h hn
    have := ih (fun j hj => h j (by omega)) (by omega)
    have h6 := h n (by omega)
    simp only [MM.bk, List.length_append, List.length_take, List.length_drop, this, h6]
    omega
theorem listOk_eq (l : List Int) : ((l.length : Int) != 6 || l.any (fun x => !isNum x)) = !listOk l := by
  have : (fun x => !isNum x) = fun x => cut x != x := by funext x; rw [isNum_cut]; rfl
  rw [this, listOk, List.all_eq_not_any_not]
  simp only [Bool.not_not]
  cases l.any (fun x => cut x != x) <;> cases h : ((l.length : Int) == 6) <;> simp_all
@[go_sem] theorem rep_two (z : List PV) : rep 2 z = z ++ z := by simp [rep, List.replicate_succ]
@[go_sem] theorem rep_three (z : List PV) : rep 3 z = z ++ (z ++ z) := by simp [rep, List.replicate_succ]
theorem notNum_ok (n : Int) : PureF Tryz.prog 100 [.int .i64 n] [.bool (!isNum n)] := by
  refine pureF_of Tryz.func100 rfl Tryz.ntmps100 (by simp) T_ ?_
  intro f0 B Q hQ
  refine wpM_seq ?_
  refine wpM_regionK [0] rfl ?_; intro Q1 hQ1
  refine S_ ?_
  refine hQ1 _ _ ?_; clear hQ1 Q1
  refine S_ ?_
  refine wpM_seq ?_
  refine wpM_regionK [2] rfl ?_; intro Q1 hQ1
  refine S_ ?_
  refine call_p (isNum_ok n) Tryz.call101 rfl rfl rfl (by first | rfl | (simp -implicitDefEqProofs (disch := omega) only [go_sem] <;> rfl)) ?_
  refine S_ ?_
  refine hQ1 _ _ ?_; clear hQ1 Q1
  refine S_ ?_
  refine wpM_ret ?_
  try refine S_ ?_
  refine hQ _ _ rfl rfl rfl (by simp -implicitDefEqProofs (disch := omega) only [go_sem, le_yes, true_or]) ?_ (.inl rfl)
  rw [Tryz.results100]
  try simp -implicitDefEqProofs (disch := omega) only [go_sem, List.cons.injEq, PV.bool.injEq, PV.int.injEq, PV.agg.injEq]
  all_goals
    rfl
theorem MM.ok_nth (m : MM) : m.ok = (List.range 3).all (fun j => listOk (m.nth j)) := by
  simp only [MM.ok, MM.nth, List.range, List.range.loop, List.all_cons, List.all_nil, Bool.and_true, List.getD_cons_zero, List.getD_cons_succ, Bool.and_assoc]
theorem readMem_ok (m : MM) (hm : m.Sm) : CallF Tryz.prog 46 [.agg m.cs] [] 1 (fun ns o => ∃ x, ns = [x] ∧ ((m.ok = true ∧ o = { rs := [.ptr x 0, .bool true], nw := [(x, .cells 151 (ints m.flat))] }) ∨
    (m.ok = false ∧ ∃ l, o = { rs := [.nilp, .bool false], nw := [(x, .cells 151 (ints l))] }))) := by
  have hsm : ∀ j, (m.nth j).length ≤ 1099511627776 := by
    intro j
    match j with
    | 0 => exact hm.i
    | 1 => exact hm.o
    | 2 => exact hm.v
    | n + 3 => simp [MM.nth]
  refine callF_of' Tryz.func46 rfl Tryz.ntmps46 (by simp) ?_
  intro f0 B ns Q hB hns hQ
  obtain ⟨x, rfl⟩ : ∃ x, ns = [x] := by
    match ns, hns with
    | [x], _ => exact ⟨x, rfl⟩
  refine wpM_seq ?_
  refine wpM_regionK [1] rfl ?_; intro Q1 hQ1
  refine S_ ?_
  refine hQ1 _ _ ?_; clear hQ1 Q1
  refine S_ ?_
  refine wpM_seq ?_
  refine wpM_regionK [1, 4] rfl ?_; intro Q1 hQ1
  refine S_ ?_
  refine hQ1 _ _ ?_; clear hQ1 Q1
  refine S_ ?_
  refine wpM_seq ?_
  refine wpM_seq ?_
  refine wpM_regionK [4, 15, 16, 17] rfl ?_; intro Q1 hQ1
  refine S_ ?_
  refine hQ1 _ _ ?_; clear hQ1 Q1
  refine S_ ?_
  have hlit : [PV.int .i64 0, .int .i64 0, .int .i64 0, .int .i64 0, .int .i64 0, .int .i64 0, .int .i64 0, .int .i64 0, .int .i64 0, .int .i64 0, .int .i64 0, .int .i64 0, .int .i64 0, .int .i64 0, .int .i64 0, .int .i64 0, .int .i64 0, .int .i64 0] = ints (m.bk 0) := rfl
  rw [hlit]
  refine wpM_block ?_
  refine wpM_loopS (fun s n s' => ∃ (i0 M0 : Nat) , i0 + n = 3 ∧ s.M ≤ M0 ∧ ((List.range i0).all (fun j => listOk (m.nth j)) = true) ∧ s' = { s with env := setE 17 (.int .i64 (i0 : Nat)) s.env, l := setl (B + 1) (.cells 151 (ints (m.bk i0))) s.l, M := M0 }) (3) ?_ ?_
  ·
    refine .of' _ _ ⟨0, _, by omega, Nat.le_refl _, rfl, rfl⟩ ?_ ?_ ?_ <;> (first | (simp -implicitDefEqProofs (disch := omega) only [go_sem, PV.int.injEq, Int.natCast_add, Int.natCast_one, Int.natCast_zero, true_or, le_yes]; done) | rfl | trivial | (simp -implicitDefEqProofs (disch := omega) only [go_sem, PV.int.injEq, Int.natCast_add, Int.natCast_one, Int.natCast_zero, true_or]; simp; done) | (simp; done))
  rintro n0 s' ⟨i0, M0, hi0, hM0, hv0, rfl⟩
  try dsimp only at hM0
  try refine S_ ?_
  refine wpM_seq ?_
  refine wpM_regionK [4, 15, 16, 17, 18] rfl ?_; intro Q1 hQ1
  refine S_ ?_
  refine hQ1 _ _ ?_; clear hQ1 Q1
  refine S_ ?_
  refine wpM_seq ?_
  refine wpM_condK ?_
  refine S_ ?_
  refine ⟨fun hc0 => ?_, fun hc0 => ?_⟩
  ·
    have hl0 : i0 < 3 := by omega
    have hsj := hsm i0
    have hbl : (m.bk i0).length = 18 := MM.bk_len i0 (fun j hj => by
      rw [List.all_eq_true] at hv0
      have := hv0 j (List.mem_range.2 hj)
      simp only [listOk, Bool.and_eq_true, beq_iff_eq] at this; omega) (by omega)
    refine wpM_skip ?_
    refine S_ ?_
    refine wpM_seq ?_
    refine wpM_block ?_
    refine wpM_seq ?_
    refine wpM_regionK [4, 5, 6, 15, 16, 17] rfl ?_; intro Q1 hQ1
    refine S_ ?_
    refine hQ1 _ _ ?_; clear hQ1 Q1
    refine S_ ?_
    refine wpM_seq ?_
    refine wpM_seq ?_
    refine wpM_regionK [4, 5, 6, 15, 16, 17, 28] rfl ?_; intro Q1 hQ1
    refine SD_ ?_
    refine callG_r (l := []) (fun hb => hasI_ok (m.nth i0) 100 [] (fun x => !isNum x) [] hsj Tryz.call100 (fun i hi => notNum_ok _)) (fun i o h => by simp [lk] at h) Tryz.call99 rfl rfl (fun hb => by simp -implicitDefEqProofs (disch := omega) only [go_sem]) (fun hb => by simp -implicitDefEqProofs (disch := omega) only [go_sem, hb, gd_of hb]) ?_
    refine SD_ ?_
    refine hQ1 _ _ ?_; clear hQ1 Q1
    refine S_ ?_
    refine wpM_condK ?_
    refine S_ ?_
    refine ⟨fun hc1 => ?_, fun hc1 => ?_⟩
    ·
      refine wpM_seq ?_
      refine wpM_regionK [2, 3] rfl ?_; intro Q1 hQ1
      refine S_ ?_
      refine hQ1 _ _ ?_; clear hQ1 Q1
      refine S_ ?_
      refine wpM_ret ?_
      try refine S_ ?_
      have hok : m.ok = true ∨ m.ok = false := by cases m.ok <;> simp
      first
      | (have hbad : m.ok = false := by
           have h1 := listOk_eq (m.nth i0)
           rw [hc1] at h1
           have h2 : listOk (m.nth i0) = false := by simpa using h1.symm
           rw [MM.ok_nth]; exact range_no hl0 h2
         refine hQ _ _ (retK [B + 1] [] [(x, .cells 151 (ints (m.bk i0)))] rfl rfl rfl (by rw [Tryz.results46]; simp (maxSteps := 1000000) -implicitDefEqProofs (disch := omega) only [go_sem] <;> rfl) ?_ ⟨x, rfl, .inr ⟨hbad, _, rfl⟩⟩ ?_ ?_ ?_ ?_ ?_ ?_)
         all_goals (first | (simp -implicitDefEqProofs (disch := omega) only [go_sem, List.nodup_cons, List.nodup_nil, true_or, or_true, List.mem_cons, List.not_mem_nil]; done) | (simp -implicitDefEqProofs (disch := omega) only [go_sem, List.nodup_cons, List.nodup_nil, true_or, or_true, List.mem_cons, List.not_mem_nil]; omega)))
      | (have hi3 : i0 = 3 := by omega
         have hgood : m.ok = true := by rw [MM.ok_nth, ← hi3]; exact hv0
         have hfl : m.bk i0 = m.flat := by rw [hi3, MM.bk3 (MM.ok_six hgood)]
         rw [hfl]
         refine hQ _ _ (retK [B + 1] [] [(x, .cells 151 (ints m.flat))] rfl rfl rfl (by rw [Tryz.results46]; simp (maxSteps := 1000000) -implicitDefEqProofs (disch := omega) only [go_sem] <;> rfl) ?_ ⟨x, rfl, .inl ⟨hgood, rfl⟩⟩ ?_ ?_ ?_ ?_ ?_ ?_)
         all_goals (first | (simp -implicitDefEqProofs (disch := omega) only [go_sem, List.nodup_cons, List.nodup_nil, true_or, or_true, List.mem_cons, List.not_mem_nil]; done) | (simp -implicitDefEqProofs (disch := omega) only [go_sem, List.nodup_cons, List.nodup_nil, true_or, or_true, List.mem_cons, List.not_mem_nil]; omega)))
    have hok : listOk (m.nth i0) = true := by have := listOk_eq (m.nth i0); rw [hc1] at this; simpa using this.symm
    have hl6 : (m.nth i0).length = 6 := by
      simp only [listOk, Bool.and_eq_true, beq_iff_eq] at hok; omega
    refine wpM_skip ?_
    refine S_ ?_
    refine wpM_keep [4, 15, 16, 17] (wpM_dr mixed 0 1 [B + 1] [⟨[4], [], [], [], false⟩, ⟨[5], [], [], [], false⟩, ⟨[6], [], [], [], false⟩, ⟨[31], [], [], [], false⟩, ⟨[32], [], [], [], false⟩, ⟨[29], [], [], [], false⟩, ⟨[34], [], [], [], false⟩, ⟨[30, 35], [], [], [], false⟩, ⟨[33, 36], [0], [0], [], false⟩] [0, 1, 2, 3, 4, 5, 6, 7, 8] [[], [], [], [2], [2, 3], [0], [0, 5], [0, 1, 2, 3, 4, 5, 6], [0, 1, 2, 3, 4, 5, 6, 7]] 1 rfl (by simp) (by decide +kernel) (by simp) ?_)
    intro O A K hO hA hK; simp only [atL_cons, atL_nil, Nat.reduceAdd, Nat.zero_add] at hO hA
    refine SO_ ?_
    refine hK _ ?_; clear hK K hO hA O A
    refine S_ ?_
    refine wpM_regionK [4, 15, 16, 17] rfl ?_; intro Q1 hQ1
    refine S_ ?_
    refine hQ1 _ _ ?_; clear hQ1 Q1
    refine S_ ?_
    rw [show List.take (i0 * 6) (m.bk i0) ++ m.nth i0 ++ List.drop (i0 * 6 + (m.nth i0).length) (m.bk i0) = m.bk (i0 + 1) from rfl]
    refine .of' _ _ ⟨n0 - 1, by omega, i0 + 1, _, by omega, ?_, ?_, rfl⟩ ?_ ?_ ?_
    · first | omega | (simp -implicitDefEqProofs (disch := omega) only [go_sem]; done) | (simp -implicitDefEqProofs (disch := omega) only [go_sem]; omega)
    · rw [range_all, hv0, hok]; rfl
    all_goals (first | (simp -implicitDefEqProofs (disch := omega) only [go_sem, PV.int.injEq, Int.natCast_add, Int.natCast_one, Int.natCast_zero, true_or, le_yes]; done) | rfl | trivial | (simp -implicitDefEqProofs (disch := omega) only [go_sem, PV.int.injEq, Int.natCast_add, Int.natCast_one, Int.natCast_zero, true_or]; simp; done) | (simp; done))
  refine wpM_exit ?_
  refine S_ ?_
  refine wpM_seq ?_
  refine wpM_regionK [2, 3] rfl ?_; intro Q1 hQ1
  refine S_ ?_
  refine hQ1 _ _ ?_; clear hQ1 Q1
  refine S_ ?_
  refine wpM_ret ?_
  try refine S_ ?_
  have hok : m.ok = true ∨ m.ok = false := by cases m.ok <;> simp
  first
  | (have hbad : m.ok = false := by
       have h1 := listOk_eq (m.nth i0)
       rw [hc1] at h1
       have h2 : listOk (m.nth i0) = false := by simpa using h1.symm
       rw [MM.ok_nth]; exact range_no hl0 h2
     refine hQ _ _ (retK [B + 1] [] [(x, .cells 151 (ints (m.bk i0)))] rfl rfl rfl (by rw [Tryz.results46]; simp (maxSteps := 1000000) -implicitDefEqProofs (disch := omega) only [go_sem] <;> rfl) ?_ ⟨x, rfl, .inr ⟨hbad, _, rfl⟩⟩ ?_ ?_ ?_ ?_ ?_ ?_)
     all_goals (first | (simp -implicitDefEqProofs (disch := omega) only [go_sem, List.nodup_cons, List.nodup_nil, true_or, or_true, List.mem_cons, List.not_mem_nil]; done) | (simp -implicitDefEqProofs (disch := omega) only [go_sem, List.nodup_cons, List.nodup_nil, true_or, or_true, List.mem_cons, List.not_mem_nil]; omega)))
  | (have hi3 : i0 = 3 := by omega
     have hgood : m.ok = true := by rw [MM.ok_nth, ← hi3]; exact hv0
     have hfl : m.bk i0 = m.flat := by rw [hi3, MM.bk3 (MM.ok_six hgood)]
     rw [hfl]
     refine hQ _ _ (retK [B + 1] [] [(x, .cells 151 (ints m.flat))] rfl rfl rfl (by rw [Tryz.results46]; simp (maxSteps := 1000000) -implicitDefEqProofs (disch := omega) only [go_sem] <;> rfl) ?_ ⟨x, rfl, .inl ⟨hgood, rfl⟩⟩ ?_ ?_ ?_ ?_ ?_ ?_)
     all_goals (first | (simp -implicitDefEqProofs (disch := omega) only [go_sem, List.nodup_cons, List.nodup_nil, true_or, or_true, List.mem_cons, List.not_mem_nil]; done) | (simp -implicitDefEqProofs (disch := omega) only [go_sem, List.nodup_cons, List.nodup_nil, true_or, or_true, List.mem_cons, List.not_mem_nil]; omega)))
end Go.Proofs.YtnilkkcobeaglaaGreat
namespace Go.Proofs.YtnilkkcobeaglaaGreat
open Go Sg
set_option maxRecDepth 100000
set_option linter.unusedSimpArgs false
set_option linter.unusedVariables false
set_option maxHeartbeats 4000000
@[go_sem] theorem ints_dt (l : List Int) (a b : Nat) : ((ints l).drop a).take b = ints ((l.drop a).take b) := by simp [ints, List.map_take, List.map_drop]
theorem cloneI_ok (id off : Nat) (T : TypeId) (L : List Int) (h : off + 6 ≤ L.length) : CallF Tryz.prog 97 [.sl 3 id off 6] [(id, .cells T (ints L))] 1 (fun ns o => ∃ x, ns = [x] ∧ o = { rs := [.sl 3 x 0 6], nw := [(x, .cells 3 (ints ((L.drop off).take 6)))] }) := by
  refine callF_of' Tryz.func97 rfl Tryz.ntmps97 (by simp) ?_
  intro f0 B ns Q hB hns hQ
  have hid : id < B := hB id (by simp [hasKey, lk])
  obtain ⟨x, rfl⟩ : ∃ x, ns = [x] := by
    match ns, hns with
    | [x], _ => exact ⟨x, rfl⟩
  refine wpM_seq ?_
  refine wpM_regionK [0] rfl ?_; intro Q1 hQ1
  refine S_ ?_
  refine hQ1 _ _ ?_; clear hQ1 Q1
  refine S_ ?_
  refine wpM_seq ?_
  refine wpM_seq ?_
  refine wpM_regionK [0, 4] rfl ?_; intro Q1 hQ1
  refine S_ ?_
  refine hQ1 _ _ ?_; clear hQ1 Q1
  refine S_ ?_
  refine wpM_condK ?_
  refine S_ ?_
  refine wpM_skip ?_
  refine S_ ?_
  refine wpM_seq ?_
  refine wpM_regionK [2] rfl ?_; intro Q1 hQ1
  refine S_ ?_
  refine hQ1 _ _ ?_; clear hQ1 Q1
  refine S_ ?_
  refine wpM_ret ?_
  try refine S_ ?_
  refine hQ _ _ (retK [B + 1] [] [(x, .cells 3 (ints ((L.drop off).take 6)))] rfl rfl rfl (by rw [Tryz.results97]; simp (maxSteps := 1000000) -implicitDefEqProofs (disch := omega) only [go_sem] <;> rfl) ?_ ⟨x, rfl, rfl⟩ ?_ ?_ ?_ ?_ ?_ ?_)
  all_goals (first | (simp -implicitDefEqProofs (disch := omega) only [go_sem, List.nodup_cons, List.nodup_nil, true_or, or_true, List.mem_cons, List.not_mem_nil]; done) | (simp -implicitDefEqProofs (disch := omega) only [go_sem, List.nodup_cons, List.nodup_nil, true_or, or_true, List.mem_cons, List.not_mem_nil]; omega))
theorem place_ok (id : Nat) (L : List Int) (a : AD) (h : a.ok = true) (hL : L.length = 18) : CallF Tryz.prog 134 [.ptr id 0, .agg a.cs] [(id, .cells 151 (ints L))] 0 (fun _ o => o = { rs := [.ptr id ((a.kind - 1).toNat * 6 + a.at'.toNat)] }) := by
  have hk : 1 ≤ a.kind ∧ a.kind ≤ 3 ∧ 0 ≤ a.at' ∧ a.at' < 6 := by simp only [AD.ok, Bool.and_eq_true, decide_eq_true_eq] at h; omega
  refine callF_of' Tryz.func134 rfl Tryz.ntmps134 (by simp) ?_
  intro f0 B ns Q hB hns hQ
  have hid : id < B := hB id (by simp [hasKey, lk])
  obtain rfl : ns = [] := List.eq_nil_of_length_eq_zero hns
  refine wpM_seq ?_
  refine wpM_regionK [0, 3] rfl ?_; intro Q1 hQ1
  refine S_ ?_
  refine hQ1 _ _ ?_; clear hQ1 Q1
  refine S_ ?_
  refine wpM_seq ?_
  refine wpM_keep [4] (wpM_dr mixed 0 2 [B, id] [⟨[0], [], [], [], false⟩, ⟨[3], [], [], [], false⟩, ⟨[6], [0], [], [], false⟩, ⟨[7], [], [], [], false⟩, ⟨[3], [], [], [], false⟩, ⟨[9], [0], [], [], false⟩, ⟨[5], [], [], [], false⟩, ⟨[11], [1], [], [], false⟩, ⟨[8, 12], [1], [], [], false⟩, ⟨[10, 13], [1], [], [], false⟩, ⟨[14], [], [], [], false⟩] [0, 1, 2, 3, 4, 5, 6, 7, 8, 9, 10] [[], [], [1], [1, 2], [], [4], [0], [0, 6], [0, 1, 2, 3, 6, 7], [0, 1, 2, 3, 4, 5, 6, 7, 8], [0, 1, 2, 3, 4, 5, 6, 7, 8, 9]] 2 rfl (by simp; omega) (by decide +kernel) (by simp) ?_)
  intro O A K hO hA hK; simp only [atL_cons, atL_nil, Nat.reduceAdd, Nat.zero_add] at hO hA
  refine SO_ ?_
  refine hK _ ?_; clear hK K hO hA O A
  refine S_ ?_
  refine wpM_ret ?_
  try refine S_ ?_
  refine hQ _ _ (ret0 [] rfl rfl rfl (by rw [Tryz.results134]; simp (maxSteps := 1000000) -implicitDefEqProofs (disch := omega) only [go_sem] <;> rfl) rfl ?_ ?_ ?_ ?_)
  all_goals simp -implicitDefEqProofs (disch := omega) only [go_sem, true_or, or_true]
theorem puts_ok (a : AD) : PureF Tryz.prog 132 [.agg a.cs] [.bool (a.ok && a.kind != 1)] := by
  refine pureF_of Tryz.func132 rfl Tryz.ntmps132 (by simp) T_ ?_
  intro f0 B Q hQ
  refine wpM_seq ?_
  refine wpM_regionK [1] rfl ?_; intro Q1 hQ1
  refine S_ ?_
  refine hQ1 _ _ ?_; clear hQ1 Q1
  refine S_ ?_
  refine wpM_seq ?_
  refine wpM_regionK [2] rfl ?_; intro Q1 hQ1
  refine SD_ ?_
  refine call_p (iaddrOk_ok a) Tryz.call130 rfl rfl rfl (by first | rfl | (simp -implicitDefEqProofs (disch := omega) only [go_sem] <;> rfl)) ?_
  refine SD_ ?_
  refine hQ1 _ _ ?_; clear hQ1 Q1
  refine S_ ?_
  refine wpM_ret ?_
  try refine S_ ?_
  refine hQ _ _ rfl rfl rfl (by simp -implicitDefEqProofs (disch := omega) only [go_sem, le_yes, true_or]) ?_ (.inl rfl)
  rw [Tryz.results132]
  try simp -implicitDefEqProofs (disch := omega) only [go_sem, List.cons.injEq, PV.bool.injEq, PV.int.injEq, PV.agg.injEq]
  all_goals
    rfl
def pos (a : AD) : Nat := (a.kind - 1).toNat * 6 + a.at'.toNat
theorem iget_ok (id : Nat) (L : List Int) (a : AD) (h : a.ok = true) (hL : L.length = 18) : CallF Tryz.prog 198 [.ptr id 0, .agg a.cs] [(id, .cells 151 (ints L))] 0 (fun _ o => o = { rs := [.int .i64 (L.getD (pos a) 0)] }) := by
  have hk : 1 ≤ a.kind ∧ a.kind ≤ 3 ∧ 0 ≤ a.at' ∧ a.at' < 6 := by simp only [AD.ok, Bool.and_eq_true, decide_eq_true_eq] at h; omega
  have hp : pos a < L.length := by unfold pos; omega
  refine callF_of' Tryz.func198 rfl Tryz.ntmps198 (by simp) ?_
  intro f0 B ns Q hB hns hQ
  have hid : id < B := hB id (by simp [hasKey, lk])
  obtain rfl : ns = [] := List.eq_nil_of_length_eq_zero hns
  refine wpM_seq ?_
  refine wpM_regionK [0, 3] rfl ?_; intro Q1 hQ1
  refine S_ ?_
  refine hQ1 _ _ ?_; clear hQ1 Q1
  refine S_ ?_
  refine wpM_seq ?_
  refine wpM_seq ?_
  refine wpM_regionK [0, 3, 7] rfl ?_; intro Q1 hQ1
  simp -implicitDefEqProofs (disch := omega) only [go_sem, h]
  refine call_p (iaddrOk_ok a) Tryz.call130 rfl rfl rfl (by first | rfl | (simp -implicitDefEqProofs (disch := omega) only [go_sem] <;> rfl)) ?_
  simp -implicitDefEqProofs (disch := omega) only [go_sem, h]
  refine hQ1 _ _ ?_; clear hQ1 Q1
  refine S_ ?_
  refine wpM_condK ?_
  refine S_ ?_
  refine wpM_skip ?_
  refine S_ ?_
  refine wpM_seq ?_
  refine wpM_regionK [4] rfl ?_; intro Q1 hQ1
  refine S_ ?_
  refine call_rs (place_ok id L a h hL) T_ Tryz.call134 rfl rfl rfl F_ ?_
  rw [show (a.kind - 1).toNat * 6 + a.at'.toNat = pos a from rfl]
  refine S_ ?_
  refine hQ1 _ _ ?_; clear hQ1 Q1
  refine S_ ?_
  refine wpM_ret ?_
  try refine S_ ?_
  refine hQ _ _ (ret0 [] rfl rfl rfl (by rw [Tryz.results198]; simp (maxSteps := 1000000) -implicitDefEqProofs (disch := omega) only [go_sem] <;> rfl) rfl ?_ ?_ ?_ ?_)
  all_goals simp -implicitDefEqProofs (disch := omega) only [go_sem, true_or, or_true]
theorem iput_ok (id : Nat) (L : List Int) (a : AD) (n : Int) (h : a.ok = true) (h1 : a.kind ≠ 1) (hL : L.length = 18) : CallF Tryz.prog 94 [.ptr id 0, .agg a.cs, .int .i64 n] [(id, .cells 151 (ints L))] 0 (fun _ o => o = { rs := [], u := [(id, some (.cells 151 (ints (L.set (pos a) (cut n)))))] }) := by
  have hk : 1 ≤ a.kind ∧ a.kind ≤ 3 ∧ 0 ≤ a.at' ∧ a.at' < 6 := by simp only [AD.ok, Bool.and_eq_true, decide_eq_true_eq] at h; omega
  have hp : pos a < L.length := by unfold pos; omega
  have hpt : (a.ok && a.kind != 1) = true := by simp [h, h1]
  refine callF_of' Tryz.func94 rfl Tryz.ntmps94 (by simp) ?_
  intro f0 B ns Q hB hns hQ
  have hid : id < B := hB id (by simp [hasKey, lk])
  obtain rfl : ns = [] := List.eq_nil_of_length_eq_zero hns
  refine wpM_seq ?_
  refine wpM_regionK [0, 2, 4] rfl ?_; intro Q1 hQ1
  refine S_ ?_
  refine hQ1 _ _ ?_; clear hQ1 Q1
  refine S_ ?_
  refine wpM_seq ?_
  refine wpM_regionK [0, 2, 4, 7] rfl ?_; intro Q1 hQ1
  refine S_ ?_
  refine call_p (puts_ok a) Tryz.call132 rfl rfl rfl (by first | rfl | (simp -implicitDefEqProofs (disch := omega) only [go_sem] <;> rfl)) ?_
  simp -implicitDefEqProofs (disch := omega) only [go_sem, hpt]
  refine hQ1 _ _ ?_; clear hQ1 Q1
  refine S_ ?_
  refine wpM_condK ?_
  refine S_ ?_
  refine wpM_regionK [] rfl ?_; intro Q1 hQ1
  refine S_ ?_
  refine call_rs (place_ok id L a h hL) T_ Tryz.call134 rfl rfl rfl F_ ?_
  rw [show (a.kind - 1).toNat * 6 + a.at'.toNat = pos a from rfl]
  refine S_ ?_
  refine call_p (icut_ok n) Tryz.call133 rfl rfl rfl (by first | rfl | (simp -implicitDefEqProofs (disch := omega) only [go_sem] <;> rfl)) ?_
  refine S_ ?_
  refine hQ1 _ _ ?_; clear hQ1 Q1
  refine S_ ?_
  refine hQ _ _ (ret0n [(id, some (.cells 151 (ints (L.set (pos a) (cut n)))))] rfl rfl rfl (by rw [Tryz.results94]; simp (maxSteps := 1000000) -implicitDefEqProofs (disch := omega) only [go_sem] <;> rfl) rfl ?_ ?_ ?_ ?_)
  all_goals simp -implicitDefEqProofs (disch := omega) only [go_sem, true_or, or_true]
end Go.Proofs.YtnilkkcobeaglaaGreat
namespace Go.Proofs.YtnilkkcobeaglaaGreat
open Go Sg
set_option maxRecDepth 100000
set_option linter.unusedSimpArgs false
set_option linter.unusedVariables false
set_option maxHeartbeats 4000000
theorem MM.flat_get (m : MM) (hm : m.Six) (a : AD) (h : a.ok = true) : m.flat.getD (pos a) 0 = m.get a := by
  have hk : 1 ≤ a.kind ∧ a.kind ≤ 3 ∧ 0 ≤ a.at' ∧ a.at' < 6 := by simp only [AD.ok, Bool.and_eq_true, decide_eq_true_eq] at h; omega
  have e1 := hm.i
  have e2 := hm.o
  have e3 := hm.v
  unfold MM.flat pos MM.get
  have hk3 : a.kind = 1 ∨ a.kind = 2 ∨ a.kind = 3 := by omega
  simp only [List.getD_eq_getElem?_getD]
  rcases hk3 with h | h | h <;> rw [h] <;> simp only [Int.reduceSub, Int.reduceToNat, Int.reduceBEq, Nat.zero_mul, Nat.one_mul, Nat.zero_add, Int.sub_self, Int.toNat_zero, if_true, if_false, Bool.false_eq_true]
  · rw [List.getElem?_append_left (by omega)]
  · rw [List.getElem?_append_right (by omega), List.getElem?_append_left (by omega)]
    congr 2; omega
  · rw [List.getElem?_append_right (by omega), List.getElem?_append_right (by omega)]
    congr 2; omega
theorem itwo_ok (k a b : Int) : PureF Tryz.prog 204 [.int .i64 k, .int .i64 a, .int .i64 b] [.int .i64 (two k a b)] := by
  refine pureF_of Tryz.func204 rfl Tryz.ntmps204 (by simp) T_ ?_
  intro f0 B Q hQ
  refine wpM_seq ?_
  refine wpM_regionK [0, 1, 2] rfl ?_; intro Q1 hQ1
  refine S_ ?_
  refine hQ1 _ _ ?_; clear hQ1 Q1
  refine S_ ?_
  refine wpM_seq ?_
  refine wpM_seq ?_
  refine wpM_regionK [1, 2, 7] rfl ?_; intro Q1 hQ1
  refine S_ ?_
  refine hQ1 _ _ ?_; clear hQ1 Q1
  refine S_ ?_
  refine wpM_block ?_
  refine wpM_seq ?_
  refine wpM_regionK [1, 2, 7, 8] rfl ?_; intro Q1 hQ1
  refine S_ ?_
  refine hQ1 _ _ ?_; clear hQ1 Q1
  refine S_ ?_
  refine wpM_condK ?_
  refine S_ ?_
  refine ⟨fun hc0 => ?_, fun hc0 => ?_⟩
  ·
    refine wpM_seq ?_
    refine wpM_regionK [6] rfl ?_; intro Q1 hQ1
    refine S_ ?_
    refine call_p (iadd_ok a b) Tryz.call206 rfl rfl rfl (by first | rfl | (simp -implicitDefEqProofs (disch := omega) only [go_sem] <;> rfl)) ?_
    refine S_ ?_
    refine hQ1 _ _ ?_; clear hQ1 Q1
    refine S_ ?_
    refine wpM_ret ?_
    try refine S_ ?_
    refine hQ _ _ rfl rfl rfl (by simp -implicitDefEqProofs (disch := omega) only [go_sem, le_yes, true_or]) ?_ (.inl rfl)
    rw [Tryz.results204]
    try simp -implicitDefEqProofs (disch := omega) only [go_sem, List.cons.injEq, PV.bool.injEq, PV.int.injEq, PV.agg.injEq]
    all_goals
      simp only [two, *, ↓reduceIte, Bool.false_eq_true]
  refine wpM_seq ?_
  refine wpM_regionK [1, 2, 7, 13] rfl ?_; intro Q1 hQ1
  refine S_ ?_
  refine hQ1 _ _ ?_; clear hQ1 Q1
  refine S_ ?_
  refine wpM_condK ?_
  refine S_ ?_
  refine ⟨fun hc1 => ?_, fun hc1 => ?_⟩
  ·
    refine wpM_seq ?_
    refine wpM_regionK [6] rfl ?_; intro Q1 hQ1
    refine S_ ?_
    refine call_p (isub_ok a b) Tryz.call207 rfl rfl rfl (by first | rfl | (simp -implicitDefEqProofs (disch := omega) only [go_sem] <;> rfl)) ?_
    refine S_ ?_
    refine hQ1 _ _ ?_; clear hQ1 Q1
    refine S_ ?_
    refine wpM_ret ?_
    try refine S_ ?_
    refine hQ _ _ rfl rfl rfl (by simp -implicitDefEqProofs (disch := omega) only [go_sem, le_yes, true_or]) ?_ (.inl rfl)
    rw [Tryz.results204]
    try simp -implicitDefEqProofs (disch := omega) only [go_sem, List.cons.injEq, PV.bool.injEq, PV.int.injEq, PV.agg.injEq]
    all_goals
      simp only [two, *, ↓reduceIte, Bool.false_eq_true]
  refine wpM_seq ?_
  refine wpM_regionK [1, 2, 7, 18] rfl ?_; intro Q1 hQ1
  refine S_ ?_
  refine hQ1 _ _ ?_; clear hQ1 Q1
  refine S_ ?_
  refine wpM_condK ?_
  refine S_ ?_
  refine ⟨fun hc2 => ?_, fun hc2 => ?_⟩
  ·
    refine wpM_seq ?_
    refine wpM_regionK [6] rfl ?_; intro Q1 hQ1
    refine S_ ?_
    refine call_p (imul_ok a b) Tryz.call208 rfl rfl rfl (by first | rfl | (simp -implicitDefEqProofs (disch := omega) only [go_sem] <;> rfl)) ?_
    refine S_ ?_
    refine hQ1 _ _ ?_; clear hQ1 Q1
    refine S_ ?_
    refine wpM_ret ?_
    try refine S_ ?_
    refine hQ _ _ rfl rfl rfl (by simp -implicitDefEqProofs (disch := omega) only [go_sem, le_yes, true_or]) ?_ (.inl rfl)
    rw [Tryz.results204]
    try simp -implicitDefEqProofs (disch := omega) only [go_sem, List.cons.injEq, PV.bool.injEq, PV.int.injEq, PV.agg.injEq]
    all_goals
      simp only [two, *, ↓reduceIte, Bool.false_eq_true]
  refine wpM_seq ?_
  refine wpM_regionK [1, 2, 7, 23] rfl ?_; intro Q1 hQ1
  refine S_ ?_
  refine hQ1 _ _ ?_; clear hQ1 Q1
  refine S_ ?_
  refine wpM_condK ?_
  refine S_ ?_
  refine ⟨fun hc3 => ?_, fun hc3 => ?_⟩
  ·
    refine wpM_seq ?_
    refine wpM_regionK [6] rfl ?_; intro Q1 hQ1
    refine S_ ?_
    refine call_p (iis_ok (decide (a < b))) Tryz.call95 rfl rfl rfl (by first | rfl | (simp -implicitDefEqProofs (disch := omega) only [go_sem] <;> rfl)) ?_
    refine S_ ?_
    refine hQ1 _ _ ?_; clear hQ1 Q1
    refine S_ ?_
    refine wpM_ret ?_
    try refine S_ ?_
    refine hQ _ _ rfl rfl rfl (by simp -implicitDefEqProofs (disch := omega) only [go_sem, le_yes, true_or]) ?_ (.inl rfl)
    rw [Tryz.results204]
    try simp -implicitDefEqProofs (disch := omega) only [go_sem, List.cons.injEq, PV.bool.injEq, PV.int.injEq, PV.agg.injEq]
    all_goals
      simp only [two, *, ↓reduceIte, Bool.false_eq_true]
  refine wpM_seq ?_
  refine wpM_regionK [1, 2, 7, 29] rfl ?_; intro Q1 hQ1
  refine S_ ?_
  refine hQ1 _ _ ?_; clear hQ1 Q1
  refine S_ ?_
  refine wpM_condK ?_
  refine S_ ?_
  refine ⟨fun hc4 => ?_, fun hc4 => ?_⟩
  ·
    refine wpM_seq ?_
    refine wpM_regionK [6] rfl ?_; intro Q1 hQ1
    refine S_ ?_
    refine call_p (iis_ok (a == b)) Tryz.call95 rfl rfl rfl (by first | rfl | (simp -implicitDefEqProofs (disch := omega) only [go_sem] <;> rfl)) ?_
    refine S_ ?_
    refine hQ1 _ _ ?_; clear hQ1 Q1
    refine S_ ?_
    refine wpM_ret ?_
    try refine S_ ?_
    refine hQ _ _ rfl rfl rfl (by simp -implicitDefEqProofs (disch := omega) only [go_sem, le_yes, true_or]) ?_ (.inl rfl)
    rw [Tryz.results204]
    try simp -implicitDefEqProofs (disch := omega) only [go_sem, List.cons.injEq, PV.bool.injEq, PV.int.injEq, PV.agg.injEq]
    all_goals
      simp only [two, *, ↓reduceIte, Bool.false_eq_true]
  refine wpM_seq ?_
  refine wpM_regionK [1, 2, 35] rfl ?_; intro Q1 hQ1
  refine S_ ?_
  refine hQ1 _ _ ?_; clear hQ1 Q1
  refine S_ ?_
  refine wpM_condK ?_
  refine S_ ?_
  refine ⟨fun hc5 => ?_, fun hc5 => ?_⟩
  ·
    refine wpM_seq ?_
    refine wpM_regionK [6] rfl ?_; intro Q1 hQ1
    refine SD_ ?_
    refine call_p (ion_ok a) Tryz.call12 rfl rfl rfl (by first | rfl | (simp -implicitDefEqProofs (disch := omega) only [go_sem] <;> rfl)) ?_
    refine SD_ ?_
    first | refine callG_p (fun hb => ion_ok b) Tryz.call12 rfl rfl (fun hb => by simp -implicitDefEqProofs (disch := omega) only [go_sem]) (fun hb => by first | rfl | (simp -implicitDefEqProofs (disch := omega) only [go_sem, hb, gd_of hb] <;> rfl)) ?_ | refine call_p (ion_ok b) Tryz.call12 rfl rfl rfl (by first | rfl | (simp -implicitDefEqProofs (disch := omega) only [go_sem] <;> rfl)) ?_
    refine SD_ ?_
    refine call_p (iis_ok (a != 0 && b != 0)) Tryz.call95 rfl rfl rfl (by first | rfl | (simp -implicitDefEqProofs (disch := omega) only [go_sem] <;> rfl)) ?_
    refine SD_ ?_
    refine hQ1 _ _ ?_; clear hQ1 Q1
    refine S_ ?_
    refine wpM_ret ?_
    try refine S_ ?_
    refine hQ _ _ rfl rfl rfl (by simp -implicitDefEqProofs (disch := omega) only [go_sem, le_yes, true_or]) ?_ (.inl rfl)
    rw [Tryz.results204]
    try simp -implicitDefEqProofs (disch := omega) only [go_sem, List.cons.injEq, PV.bool.injEq, PV.int.injEq, PV.agg.injEq]
    all_goals
      simp only [two, *, ↓reduceIte, Bool.false_eq_true]
  refine wpM_skip ?_
  refine S_ ?_
  refine wpM_seq ?_
  refine wpM_regionK [6] rfl ?_; intro Q1 hQ1
  refine SD_ ?_
  refine call_p (ion_ok a) Tryz.call12 rfl rfl rfl (by first | rfl | (simp -implicitDefEqProofs (disch := omega) only [go_sem] <;> rfl)) ?_
  refine SD_ ?_
  first | refine callG_p (fun hb => ion_ok b) Tryz.call12 rfl rfl (fun hb => by simp -implicitDefEqProofs (disch := omega) only [go_sem]) (fun hb => by first | rfl | (simp -implicitDefEqProofs (disch := omega) only [go_sem, hb, gd_of hb] <;> rfl)) ?_ | refine call_p (ion_ok b) Tryz.call12 rfl rfl rfl (by first | rfl | (simp -implicitDefEqProofs (disch := omega) only [go_sem] <;> rfl)) ?_
  refine SD_ ?_
  refine call_p (iis_ok (a != 0 || b != 0)) Tryz.call95 rfl rfl rfl (by first | rfl | (simp -implicitDefEqProofs (disch := omega) only [go_sem] <;> rfl)) ?_
  refine SD_ ?_
  refine hQ1 _ _ ?_; clear hQ1 Q1
  refine S_ ?_
  refine wpM_ret ?_
  try refine S_ ?_
  refine hQ _ _ rfl rfl rfl (by simp -implicitDefEqProofs (disch := omega) only [go_sem, le_yes, true_or]) ?_ (.inl rfl)
  rw [Tryz.results204]
  try simp -implicitDefEqProofs (disch := omega) only [go_sem, List.cons.injEq, PV.bool.injEq, PV.int.injEq, PV.agg.injEq]
  all_goals
    simp only [two, *, ↓reduceIte, Bool.false_eq_true]
def mobj (id : Nat) (m : MM) : List (Nat × AObj) := [(id, .cells 151 (ints m.flat))]
@[go_sem] theorem mobj_eq (id : Nat) (m : MM) : mobj id m = [(id, .cells 151 (ints m.flat))] := rfl
def OfK (m : MM) (id fo : Nat) (e : Ex) : Prop := CallF Tryz.prog fo [.agg [], .ptr id 0, .agg e.cs] (mobj id m) 0 (fun _ o => o = { rs := [.int .i64 (e.of m)] })
theorem of1_ok (m : MM) (id : Nat) (e : Ex) (h : e.kind = 1) : OfK m id 177 e := by
  have he : e.of m = e.n := by rw [Ex.of_eq, h]; rfl
  unfold OfK; rw [he]
  refine callF_of' Tryz.func177 rfl Tryz.ntmps177 (by simp) ?_
  intro f0 B ns Q hB hns hQ
  have hid : id < B := hB id (by simp [hasKey, lk, mobj])
  obtain rfl : ns = [] := List.eq_nil_of_length_eq_zero hns
  refine wpM_seq ?_
  refine wpM_regionK [5] rfl ?_; intro Q1 hQ1
  refine S_ ?_
  refine hQ1 _ _ ?_; clear hQ1 Q1
  refine S_ ?_
  refine wpM_seq ?_
  refine wpM_regionK [6] rfl ?_; intro Q1 hQ1
  refine S_ ?_
  refine hQ1 _ _ ?_; clear hQ1 Q1
  refine S_ ?_
  refine wpM_ret ?_
  try refine S_ ?_
  refine hQ _ _ (ret0 [] rfl rfl rfl (by rw [Tryz.results177]; simp (maxSteps := 1000000) -implicitDefEqProofs (disch := omega) only [go_sem] <;> rfl) rfl ?_ ?_ ?_ ?_)
  all_goals simp -implicitDefEqProofs (disch := omega) only [go_sem, true_or, or_true]
theorem of2_ok (m : MM) (hm : m.Six) (id : Nat) (e : Ex) (h : e.kind = 2) (ha : e.a.ok = true) : OfK m id 195 e := by
  have he : e.of m = m.flat.getD (pos e.a) 0 := by rw [Ex.of_eq, h, MM.flat_get m hm e.a ha]; rfl
  unfold OfK; rw [he]
  refine callF_of' Tryz.func195 rfl Tryz.ntmps195 (by simp) ?_
  intro f0 B ns Q hB hns hQ
  have hid : id < B := hB id (by simp [hasKey, lk, mobj])
  obtain rfl : ns = [] := List.eq_nil_of_length_eq_zero hns
  refine wpM_seq ?_
  refine wpM_regionK [1, 5] rfl ?_; intro Q1 hQ1
  refine S_ ?_
  refine hQ1 _ _ ?_; clear hQ1 Q1
  refine S_ ?_
  refine wpM_seq ?_
  refine wpM_regionK [6] rfl ?_; intro Q1 hQ1
  refine S_ ?_
  refine call_rs (iget_ok id m.flat e.a ha (MM.flat_len hm)) T_ Tryz.call198 rfl rfl rfl F_ ?_
  refine S_ ?_
  refine hQ1 _ _ ?_; clear hQ1 Q1
  refine S_ ?_
  refine wpM_ret ?_
  try refine S_ ?_
  refine hQ _ _ (ret0 [] rfl rfl rfl (by rw [Tryz.results195]; simp (maxSteps := 1000000) -implicitDefEqProofs (disch := omega) only [go_sem] <;> rfl) rfl ?_ ?_ ?_ ?_)
  all_goals simp -implicitDefEqProofs (disch := omega) only [go_sem, true_or, or_true]
def RecK (m : MM) (id : Nat) (e : Ex) : Prop := CallF Tryz.prog 47 [.ptr id 0, .agg e.cs] (mobj id m) 0 (fun _ o => o = { rs := [.int .i64 (e.of m)] })
theorem of4_ok (m : MM) (id : Nat) (e : Ex) (h : e.kind = 10) (hl : 0 < e.kids.length) (hr : RecK m id (e.kids.getD 0 default)) : OfK m id 211 e := by
  have he : e.of m = numIs (!((e.kids.getD 0 default).of m != 0)) := by rw [Ex.of_eq m e, h, Ex.ofL_get _ _ 0 hl]; rfl
  unfold OfK; rw [he]
  refine callF_of' Tryz.func211 rfl Tryz.ntmps211 (by simp) ?_
  intro f0 B ns Q hB hns hQ
  have hid : id < B := hB id (by simp [hasKey, lk, mobj])
  obtain rfl : ns = [] := List.eq_nil_of_length_eq_zero hns
  refine wpM_seq ?_
  refine wpM_regionK [1, 5] rfl ?_; intro Q1 hQ1
  refine S_ ?_
  refine hQ1 _ _ ?_; clear hQ1 Q1
  refine S_ ?_
  refine wpM_seq ?_
  refine wpM_regionK [6] rfl ?_; intro Q1 hQ1
  refine S_ ?_
  refine call_rs hr T_ Tryz.call47 rfl rfl rfl F_ ?_
  refine S_ ?_
  refine call_p (ion_ok ((e.kids.getD 0 default).of m)) Tryz.call12 rfl rfl rfl (by first | rfl | (simp -implicitDefEqProofs (disch := omega) only [go_sem] <;> rfl)) ?_
  refine S_ ?_
  refine call_p (iis_ok (!((e.kids.getD 0 default).of m != 0))) Tryz.call95 rfl rfl rfl (by first | rfl | (simp -implicitDefEqProofs (disch := omega) only [go_sem] <;> rfl)) ?_
  refine S_ ?_
  refine hQ1 _ _ ?_; clear hQ1 Q1
  refine S_ ?_
  refine wpM_ret ?_
  try refine S_ ?_
  refine hQ _ _ (ret0 [] rfl rfl rfl (by rw [Tryz.results211]; simp (maxSteps := 1000000) -implicitDefEqProofs (disch := omega) only [go_sem] <;> rfl) rfl ?_ ?_ ?_ ?_)
  all_goals simp -implicitDefEqProofs (disch := omega) only [go_sem, true_or, or_true]
theorem of3_ok (m : MM) (id : Nat) (e : Ex) (h1 : (e.kind == 1) = false) (h2 : (e.kind == 2) = false) (h3 : (e.kind == 10) = false) (hl : 1 < e.kids.length) (hr : RecK m id (e.kids.getD 0 default)) (hr1 : RecK m id (e.kids.getD 1 default)) : OfK m id 201 e := by
  have hl0 : 0 < e.kids.length := by omega
  have he : e.of m = two e.kind ((e.kids.getD 0 default).of m) ((e.kids.getD 1 default).of m) := by rw [Ex.of_eq m e, h1, h2, h3, Ex.ofL_get _ _ 0 hl0, Ex.ofL_get _ _ 1 hl]; rfl
  unfold OfK; rw [he]
  refine callF_of' Tryz.func201 rfl Tryz.ntmps201 (by simp) ?_
  intro f0 B ns Q hB hns hQ
  have hid : id < B := hB id (by simp [hasKey, lk, mobj])
  obtain rfl : ns = [] := List.eq_nil_of_length_eq_zero hns
  refine wpM_seq ?_
  refine wpM_regionK [1, 5] rfl ?_; intro Q1 hQ1
  refine S_ ?_
  refine hQ1 _ _ ?_; clear hQ1 Q1
  refine S_ ?_
  refine wpM_seq ?_
  refine wpM_keep [6] (wpM_dr mixed 0 2 [B + 1, id] [⟨[5], [], [], [], false⟩, ⟨[7], [0], [], [], false⟩, ⟨[1], [], [], [], false⟩, ⟨[5], [], [], [], false⟩, ⟨[10], [0], [], [], false⟩, ⟨[11], [], [], [], false⟩, ⟨[12], [], [], [], false⟩, ⟨[9, 13], [1], [], [], true⟩, ⟨[1], [], [], [], false⟩, ⟨[5], [], [], [], false⟩, ⟨[16], [0], [], [], false⟩, ⟨[17], [], [], [], false⟩, ⟨[18], [], [], [], false⟩, ⟨[15, 19], [1], [], [], true⟩, ⟨[8, 14, 20], [], [], [], true⟩, ⟨[21], [], [], [], false⟩] [0, 1, 2, 3, 4, 5, 6, 8, 9, 10, 11, 12, 7, 13, 14, 15] [[], [0], [], [], [3], [3, 4], [3, 4, 5], [2, 3, 4, 5, 6], [], [], [9], [9, 10], [9, 10, 11], [2, 3, 4, 5, 6, 7, 8, 9, 10, 11, 12], [0, 1, 2, 3, 4, 5, 6, 7, 8, 9, 10, 11, 12, 13], [0, 1, 2, 3, 4, 5, 6, 7, 8, 9, 10, 11, 12, 13, 14]] 2 rfl (by simp; omega) (by decide +kernel) (by simp) ?_)
  intro O A K hO hA hK; simp only [atL_cons, atL_nil, Nat.reduceAdd, Nat.zero_add] at hO hA
  refine SO_ ?_
  refine loud_r hr (subG_spec T_) Tryz.call47 rfl rfl F_ rfl ?_
  refine SO_ ?_
  refine loud_r hr1 (subG_spec T_) Tryz.call47 rfl rfl F_ rfl ?_
  refine SO_ ?_
  refine loud_p (itwo_ok e.kind ((e.kids.getD 0 default).of m) ((e.kids.getD 1 default).of m)) Tryz.call204 rfl rfl (by first | rfl | (simp -implicitDefEqProofs (disch := omega) only [go_sem] <;> rfl)) rfl ?_
  refine SO_ ?_
  refine hK _ ?_; clear hK K hO hA O A
  refine S_ ?_
  refine wpM_ret ?_
  try refine S_ ?_
  refine hQ _ _ (ret0 [] rfl rfl rfl (by rw [Tryz.results201]; simp (maxSteps := 1000000) -implicitDefEqProofs (disch := omega) only [go_sem] <;> rfl) rfl ?_ ?_ ?_ ?_)
  all_goals simp -implicitDefEqProofs (disch := omega) only [go_sem, true_or, or_true]
theorem rec_of (m : MM) (hm : m.Six) (id d : Nat) (e : Ex) (h : formD (d + 1) e = true) (ih : ∀ i, i < e.kids.length → RecK m id (e.kids.getD i default)) : ∃ t fo, recOf e.kind = .iface t (.agg []) ∧
    (∀ args w, (callFunc fo args).run Tryz.prog w = .ok (.enter fo args) w) ∧ (∀ (v : Value) w, (method (Tryz.prog.types.size + Made.depth) t v "loop.example/stopgate/impl.of").run Tryz.prog w = .ok (fo, v) w) ∧ OfK m id fo e := by
  obtain ⟨hk, ha, _⟩ := form_inv h
  by_cases h1 : e.kind = 1
  · exact ⟨164, 177, by rw [h1]; rfl, Tryz.call177, method_run info164 Tryz.underlying164 (by simp) (by rfl) rfl rfl, of1_ok m id e h1⟩
  by_cases h2 : e.kind = 2
  · exact ⟨165, 195, by rw [h2]; rfl, Tryz.call195, method_run info165 Tryz.underlying165 (by simp) (by rfl) rfl rfl, of2_ok m hm id e h2 (ha h2)⟩
  by_cases h10 : e.kind = 10
  · have hl : 0 < e.kids.length := by rw [h10] at hk; simp [kidsN] at hk; omega
    exact ⟨167, 211, by rw [h10]; rfl, Tryz.call211, method_run info167 Tryz.underlying167 (by simp) (by rfl) rfl rfl, of4_ok m id e h10 hl (ih 0 hl)⟩
  have g1 : (e.kind == 1) = false := by simpa using h1
  have g2 : (e.kind == 2) = false := by simpa using h2
  have g10 : (e.kind == 10) = false := by simpa using h10
  have h2' := kidsN_two g1 g2 g10 (by omega)
  have ht : isTwo e.kind = true := by
    unfold kidsN at h2'
    rw [g1, g2, g10] at h2'
    simp only [Bool.or_self, Bool.false_eq_true, if_false] at h2'
    unfold isTwo
    cases hh : (decide (e.kind ≥ 3) && decide (e.kind ≤ 9))
    · rw [hh] at h2'; simp at h2'
    · rfl
  have hl : 1 < e.kids.length := by omega
  exact ⟨166, 201, by simp [recOf, g1, g2, ht], Tryz.call201, method_run info166 Tryz.underlying166 (by simp) (by rfl) rfl rfl, of3_ok m id e g1 g2 g10 hl (ih 0 (by omega)) (ih 1 hl)⟩
theorem reckon_ok (m : MM) (hm : m.Six) (id : Nat) (d : Nat) : ∀ (e : Ex), formD d e = true → RecK m id e := by
  induction d with
  | zero => intro e h; cases h
  | succ d ih =>
    intro e he
    have hkids := (form_inv he).2.2
    obtain ⟨t, fo, hr, q1, q2, q3⟩ := rec_of m hm id d e he (fun i hi => ih _ (hkids i hi))
    unfold RecK
    refine callF_of' Tryz.func47 rfl Tryz.ntmps47 (by simp) ?_
    intro f0 B ns Q hB hns hQ
    have hid : id < B := hB id (by simp [hasKey, lk, mobj])
    obtain rfl : ns = [] := List.eq_nil_of_length_eq_zero hns
    refine wpM_seq ?_
    refine wpM_regionK [0, 3] rfl ?_; intro Q1 hQ1
    refine S_ ?_
    refine hQ1 _ _ ?_; clear hQ1 Q1
    refine S_ ?_
    refine wpM_seq ?_
    refine wpM_keep [4] (wpM_dr mixed 0 2 [B, id] [⟨[3], [], [], [], false⟩, ⟨[5], [0], [], [], false⟩, ⟨[6], [], [], [], true⟩, ⟨[0], [], [], [], false⟩, ⟨[3], [0], [], [], false⟩, ⟨[7, 8, 9], [1], [], [], true⟩, ⟨[10], [], [], [], false⟩] [0, 1, 3, 4, 2, 5, 6] [[], [0], [0, 1], [], [], [0, 1, 2, 3, 4], [0, 1, 2, 3, 4, 5]] 2 rfl (by simp; omega) (by decide +kernel) (by simp) ?_)
    intro O A K hO hA hK; simp only [atL_cons, atL_nil, Nat.reduceAdd, Nat.zero_add] at hO hA
    refine SO_ ?_
    refine loud_p (recOf_ok e.kind) Tryz.call60 rfl rfl (by first | rfl | (simp -implicitDefEqProofs (disch := omega) only [go_sem] <;> rfl)) rfl ?_
    refine SO_ ?_
    refine loud_inv (l := mobj id m) (ps := [.ptr id 0, .agg e.cs]) (k := 0) q3 q1 q2 rfl (by simp -implicitDefEqProofs (disch := omega) only [go_sem, hr]) F_ (subG_spec T_) rfl ?_
    rintro out rfl
    refine ⟨rfl, ?_⟩
    refine SO_ ?_
    refine hK _ ?_; clear hK K hO hA O A
    refine S_ ?_
    refine wpM_ret ?_
    try refine S_ ?_
    refine hQ _ _ (ret0 [] rfl rfl rfl (by rw [Tryz.results47]; simp (maxSteps := 1000000) -implicitDefEqProofs (disch := omega) only [go_sem] <;> rfl) rfl ?_ ?_ ?_ ?_)
    all_goals simp -implicitDefEqProofs (disch := omega) only [go_sem, true_or, or_true]
theorem flat_dt (m : MM) (hm : m.Six) : (m.flat.drop 0).take 6 = m.i ∧ (m.flat.drop 6).take 6 = m.o ∧ (m.flat.drop 12).take 6 = m.v := by
  have e1 := hm.i
  have e2 := hm.o
  have e3 := hm.v
  unfold MM.flat
  refine ⟨?_, ?_, ?_⟩
  · rw [List.drop_zero, List.take_append_of_le_length (by omega), List.take_of_length_le (by omega)]
  · rw [List.drop_append_of_le_length (by omega), List.drop_eq_nil_of_le (by omega), List.nil_append, List.take_append_of_le_length (by omega), List.take_of_length_le (by omega)]
  · rw [show m.i ++ (m.o ++ m.v) = (m.i ++ m.o) ++ m.v by simp, List.drop_append_of_le_length (by simp; omega), List.drop_eq_nil_of_le (by simp; omega), List.nil_append, List.take_of_length_le (by omega)]
theorem mem_ok (m : MM) (hm : m.Six) (id : Nat) : CallF Tryz.prog 40 [.ptr id 0] (mobj id m) 3 (fun ns o => ∃ x y z, ns = [x, y, z] ∧ o = { rs := [.agg (ocs x y z)], nw := m.ol x y z }) := by
  have hlen := MM.flat_len hm
  obtain ⟨d1, d2, d3⟩ := flat_dt m hm
  refine callF_of' Tryz.func40 rfl Tryz.ntmps40 (by simp) ?_
  intro f0 B ns Q hB hns hQ
  have hid : id < B := hB id (by simp [hasKey, lk, mobj])
  obtain ⟨x, y, z, rfl⟩ : ∃ x y z, ns = [x, y, z] := by
    match ns, hns with
    | [x, y, z], _ => exact ⟨x, y, z, rfl⟩
  refine wpM_seq ?_
  refine wpM_regionK [0, 2] rfl ?_; intro Q1 hQ1
  refine S_ ?_
  refine hQ1 _ _ ?_; clear hQ1 Q1
  refine S_ ?_
  refine wpM_seq ?_
  refine wpM_keep [2] (wpM_dr mixed 3 2 [B, id, B + 1, B + 2, B + 3] [⟨[0], [], [], [], false⟩, ⟨[3], [], [], [], false⟩, ⟨[4], [1], [], [], false⟩, ⟨[5], [1], [], [], false⟩, ⟨[6], [1], [], [], false⟩, ⟨[7], [1], [], [2], true⟩, ⟨[0], [], [], [], false⟩, ⟨[9], [], [], [], false⟩, ⟨[10], [1], [], [], false⟩, ⟨[11], [1], [], [], false⟩, ⟨[12], [1], [], [], false⟩, ⟨[13], [1], [], [3], true⟩, ⟨[0], [], [], [], false⟩, ⟨[15], [], [], [], false⟩, ⟨[16], [1], [], [], false⟩, ⟨[17], [1], [], [], false⟩, ⟨[18], [1], [], [], false⟩, ⟨[19], [1], [], [4], true⟩, ⟨[8, 14, 20], [], [], [], false⟩, ⟨[2, 21], [0], [0], [], false⟩] [0, 1, 2, 3, 4, 6, 7, 8, 9, 10, 12, 13, 14, 15, 16, 5, 11, 17, 18, 19] [[], [0], [0, 1], [0, 1, 2], [0, 1, 2, 3], [0, 1, 2, 3, 4], [], [6], [6, 7], [6, 7, 8], [6, 7, 8, 9], [0, 1, 2, 3, 4, 5, 6, 7, 8, 9, 10], [], [12], [12, 13], [12, 13, 14], [12, 13, 14, 15], [0, 1, 2, 3, 4, 5, 6, 7, 8, 9, 10, 11, 12, 13, 14, 15, 16], [0, 1, 2, 3, 4, 5, 6, 7, 8, 9, 10, 11, 12, 13, 14, 15, 16, 17], [0, 1, 2, 3, 4, 5, 6, 7, 8, 9, 10, 11, 12, 13, 14, 15, 16, 17, 18]] 5 rfl (by simp; omega) (by decide +kernel) (by simp) ?_)
  intro O A K hO hA hK; simp only [atL_cons, atL_nil, Nat.reduceAdd, Nat.zero_add] at hO hA
  refine SO_ ?_
  refine loud_fn (first := []) (cap := []) (ps := [.sl 3 id 0 6]) (l := mobj id m) (cloneI_ok id 0 151 m.flat (by omega)) Tryz.call97 rfl rfl F_ (subG_spec T_) rfl ?_
  rintro out ⟨x', hn', rfl⟩
  injection hn' with hn1 hn'
  subst hn1
  rw [d1]
  refine ⟨rfl, ?_⟩
  refine SO_ ?_
  refine loud_fn (first := []) (cap := []) (ps := [.sl 3 id 6 6]) (l := mobj id m) (cloneI_ok id 6 151 m.flat (by omega)) Tryz.call97 rfl rfl F_ (subG_spec T_) rfl ?_
  rintro out ⟨x', hn', rfl⟩
  injection hn' with hn1 hn'
  subst hn1
  rw [d2]
  refine ⟨rfl, ?_⟩
  refine SO_ ?_
  refine loud_fn (first := []) (cap := []) (ps := [.sl 3 id 12 6]) (l := mobj id m) (cloneI_ok id 12 151 m.flat (by omega)) Tryz.call97 rfl rfl F_ (subG_spec T_) rfl ?_
  rintro out ⟨x', hn', rfl⟩
  injection hn' with hn1 hn'
  subst hn1
  rw [d3]
  refine ⟨rfl, ?_⟩
  refine SO_ ?_
  refine hK _ ?_; clear hK K hO hA O A
  refine S_ ?_
  refine wpM_ret ?_
  try refine S_ ?_
  refine hQ _ _ (retK [B + 1, B + 2, B + 3] [] (m.ol x y z) rfl rfl rfl (by rw [Tryz.results40]; simp (maxSteps := 1000000) -implicitDefEqProofs (disch := omega) only [go_sem] <;> rfl) ?_ ⟨x, y, z, rfl, rfl⟩ ?_ ?_ ?_ ?_ ?_ ?_)
  all_goals (first | (simp -implicitDefEqProofs (disch := omega) only [go_sem, List.nodup_cons, List.nodup_nil, true_or, or_true, List.mem_cons, List.not_mem_nil]; done) | (simp -implicitDefEqProofs (disch := omega) only [go_sem, List.nodup_cons, List.nodup_nil, true_or, or_true, List.mem_cons, List.not_mem_nil]; omega))
end Go.Proofs.YtnilkkcobeaglaaGreat
namespace Go.Proofs.YtnilkkcobeaglaaGreat
open Go Sg
set_option maxRecDepth 100000
set_option linter.unusedSimpArgs false
set_option linter.unusedVariables false
set_option maxHeartbeats 4000000
theorem wrap_bv (a : BitVec 64) : IntKind.u64.wrap (a.toNat : Int) = (a.toNat : Int) := by
  have := a.isLt
  simp only [IntKind.wrap, IntKind.bits, IntKind.signed]
  simp <;> omega
theorem ofInt_bv (a : BitVec 64) : BitVec.ofInt IntKind.u64.bits (a.toNat : Int) = a := by
  have := a.isLt
  apply BitVec.eq_of_toNat_eq
  show (BitVec.ofInt 64 (a.toNat : Int)).toNat = a.toNat
  rw [BitVec.toNat_ofInt]; omega
@[go_sem] theorem lit0_bv : PV.int .u64 0 = .int .u64 ((0#64).toNat : Int) := rfl
@[go_sem] theorem lit1_bv : PV.int .u64 1 = .int .u64 ((1#64).toNat : Int) := rfl
section
variable (t : TypeId) (x y : Operand) (a b : BitVec 64)
@[go_sem high] theorem or_bv : binOpA Tryz.prog .or t x y (.int .u64 (a.toNat : Int)) (.int .u64 (b.toNat : Int)) = some (.int .u64 ((a ||| b).toNat : Int)) := by
  rw [bin_or, ofInt_bv, ofInt_bv]; exact congrArg (fun z => some (PV.int .u64 z)) (wrap_bv _)
@[go_sem high] theorem and_bv : binOpA Tryz.prog .and t x y (.int .u64 (a.toNat : Int)) (.int .u64 (b.toNat : Int)) = some (.int .u64 ((a &&& b).toNat : Int)) := by
  rw [bin_and, ofInt_bv, ofInt_bv]; exact congrArg (fun z => some (PV.int .u64 z)) (wrap_bv _)
@[go_sem high] theorem andNot_bv : binOpA Tryz.prog .andNot t x y (.int .u64 (a.toNat : Int)) (.int .u64 (b.toNat : Int)) = some (.int .u64 ((a &&& ~~~b).toNat : Int)) := by
  rw [bin_andNot, ofInt_bv, ofInt_bv]; exact congrArg (fun z => some (PV.int .u64 z)) (wrap_bv _)
@[go_sem high] theorem eql_bv : binOpA Tryz.prog .eql t x y (.int .u64 (a.toNat : Int)) (.int .u64 (b.toNat : Int)) = some (.bool (a == b)) := by
  rw [bin_eql]; congr 2; rw [Bool.eq_iff_iff]; simp [BitVec.toNat_eq]; omega
@[go_sem high] theorem neq_bv : binOpA Tryz.prog .neq t x y (.int .u64 (a.toNat : Int)) (.int .u64 (b.toNat : Int)) = some (.bool (a != b)) := by
  rw [bin_neq]; congr 2; rw [Bool.eq_iff_iff]; simp [BitVec.toNat_eq]; omega
@[go_sem high] theorem shl_bv (n : Int) (h : 0 ≤ n) : binOpA Tryz.prog .shl t x y (.int .u64 (a.toNat : Int)) (.int .i64 n) = some (.int .u64 ((a <<< n.toNat).toNat : Int)) := by
  rw [bin_shl, shiftA, if_neg (by omega)]
  have hb : IntKind.u64.bits = 64 := rfl
  have hw : ∀ z : Nat, IntKind.u64.wrap (z : Int) = ((z % 2 ^ 64 : Nat) : Int) := by
    intro z; simp only [IntKind.wrap, IntKind.bits, IntKind.signed]; simp <;> omega
  simp only [hb]
  congr 2
  rw [show ((a.toNat : Int) * 2 ^ (min n.toNat 64)) = ((a.toNat * 2 ^ (min n.toNat 64) : Nat) : Int) by push_cast; rfl, hw, BitVec.toNat_shiftLeft, Nat.shiftLeft_eq]
  congr 1
  by_cases hn : n.toNat ≤ 64
  · rw [Nat.min_eq_left hn]
  · rw [Nat.min_eq_right (by omega)]
    obtain ⟨k, hk⟩ : ∃ k, n.toNat = 64 + k := ⟨n.toNat - 64, by omega⟩
    rw [hk, Nat.pow_add, ← Nat.mul_assoc, Nat.mul_mod_left, Nat.mul_right_comm, Nat.mul_mod_left]
@[go_sem high] theorem shr_bv (n : Int) (h : 0 ≤ n) : binOpA Tryz.prog .shr t x y (.int .u64 (a.toNat : Int)) (.int .i64 n) = some (.int .u64 ((a >>> n.toNat).toNat : Int)) := by
  have hlt := a.isLt
  rw [bin_shr, shiftA, if_neg (by omega)]
  have hb : IntKind.u64.bits = 64 := rfl
  simp only [hb]
  congr 2
  rw [show ((2 : Int) ^ (min n.toNat 64)) = ((2 ^ (min n.toNat 64) : Nat) : Int) by push_cast; rfl, Int.fdiv_eq_ediv_of_nonneg _ (Int.natCast_nonneg _), ← Int.natCast_ediv, BitVec.toNat_ushiftRight, Nat.shiftRight_eq_div_pow]
  congr 1
  by_cases hn : n.toNat ≤ 64
  · rw [Nat.min_eq_left hn]
  · rw [Nat.min_eq_right (by omega), Nat.div_eq_of_lt hlt, Nat.div_eq_of_lt]
    exact Nat.lt_of_lt_of_le hlt (Nat.pow_le_pow_right (by omega) (by omega))
end
theorem has_ok (b : BitVec 64) (n : Int) (h : 0 ≤ n) : PureF Tryz.prog 136 [.int .u64 (b.toNat : Int), .int .i64 n] [.bool (b.getLsbD n.toNat)] := by
  refine pureF_of Tryz.func136 rfl Tryz.ntmps136 (by simp) T_ ?_
  intro f0 B Q hQ
  refine wpM_seq ?_
  refine wpM_regionK [0, 1] rfl ?_; intro Q1 hQ1
  refine S_ ?_
  refine hQ1 _ _ ?_; clear hQ1 Q1
  refine S_ ?_
  refine wpM_seq ?_
  refine wpM_regionK [4] rfl ?_; intro Q1 hQ1
  refine S_ ?_
  refine hQ1 _ _ ?_; clear hQ1 Q1
  refine S_ ?_
  refine wpM_ret ?_
  try refine S_ ?_
  refine hQ _ _ rfl rfl rfl (by simp -implicitDefEqProofs (disch := omega) only [go_sem, le_yes, true_or]) ?_ (.inl rfl)
  rw [Tryz.results136]
  try simp -implicitDefEqProofs (disch := omega) only [go_sem, List.cons.injEq, PV.bool.injEq, PV.int.injEq, PV.agg.injEq]
  all_goals
    rw [Bool.eq_iff_iff, beq_iff_eq]
    constructor
    · intro h1
      have := congrArg (fun z : BitVec 64 => z.getLsbD 0) h1
      simpa [BitVec.getLsbD_and] using this
    · intro h1
      apply BitVec.eq_of_getLsbD_eq
      intro i hi
      by_cases h0 : i = 0
      · subst h0; simp [BitVec.getLsbD_and, h1]
      · simp [BitVec.getLsbD_and, BitVec.getLsbD_one, h0]
def bitsL (l : List Int) : BitVec 64 := l.foldl (fun b n => b ||| (1#64 <<< n.toNat)) 0#64
@[go_sem] theorem bitsL_nil : bitsL [] = 0#64 := rfl
theorem bitsL_take (l : List Int) (i : Nat) (h : i < l.length) : bitsL (l.take (i + 1)) = bitsL (l.take i) ||| (1#64 <<< (l.getD i 0).toNat) := by
  rw [List.take_succ_eq_append_getElem h, bitsL, List.foldl_append]
  simp [List.getD, h, bitsL]
theorem bitsOf_ok (l : List Int) (hl : l.length ≤ 1099511627776) (h0 : ∀ i, i < l.length → 0 ≤ l.getD i 0) : PureF Tryz.prog 90 [.rows 3 (rowsI l)] [.int .u64 ((bitsL l).toNat : Int)] := by
  refine pureF_of Tryz.func90 rfl Tryz.ntmps90 (by simp) T_ ?_
  intro f0 B Q hQ
  refine wpM_seq ?_
  refine wpM_regionK [0] rfl ?_; intro Q1 hQ1
  refine S_ ?_
  refine hQ1 _ _ ?_; clear hQ1 Q1
  refine S_ ?_
  refine wpM_seq ?_
  refine wpM_regionK [0, 3] rfl ?_; intro Q1 hQ1
  refine S_ ?_
  refine hQ1 _ _ ?_; clear hQ1 Q1
  refine S_ ?_
  refine wpM_seq ?_
  refine wpM_seq ?_
  refine wpM_regionK [3, 6, 7, 8] rfl ?_; intro Q1 hQ1
  refine S_ ?_
  refine hQ1 _ _ ?_; clear hQ1 Q1
  refine S_ ?_
  refine wpM_block ?_
  refine wpM_loopS (fun s n s' => ∃ (i0 M0 : Nat) , i0 + n = l.length ∧ s.M ≤ M0 ∧ (Tr i0) ∧ s' = { s with env := setE 3 (.int .u64 ((bitsL (l.take i0)).toNat : Int)) (setE 8 (.int .i64 (i0 : Nat)) s.env), M := M0 }) (l.length) ?_ ?_
  ·
    refine .of' _ _ ⟨0, _, by omega, Nat.le_refl _, trivial, rfl⟩ ?_ ?_ ?_ <;> (first | (simp -implicitDefEqProofs (disch := omega) only [go_sem, PV.int.injEq, Int.natCast_add, Int.natCast_one, Int.natCast_zero, true_or, le_yes]; done) | rfl | trivial | (simp -implicitDefEqProofs (disch := omega) only [go_sem, PV.int.injEq, Int.natCast_add, Int.natCast_one, Int.natCast_zero, true_or]; simp; done) | (simp; done))
  rintro n0 s' ⟨i0, M0, hi0, hM0, hv0, rfl⟩
  try dsimp only at hM0
  try refine S_ ?_
  refine wpM_seq ?_
  refine wpM_regionK [3, 6, 7, 8, 9] rfl ?_; intro Q1 hQ1
  refine S_ ?_
  refine hQ1 _ _ ?_; clear hQ1 Q1
  refine S_ ?_
  refine wpM_seq ?_
  refine wpM_condK ?_
  refine S_ ?_
  refine ⟨fun hc0 => ?_, fun hc0 => ?_⟩
  ·
    have hl0 : i0 < l.length := by omega
    have hn0 := h0 i0 hl0
    have hbt := bitsL_take l i0 hl0
    refine wpM_skip ?_
    refine S_ ?_
    refine wpM_seq ?_
    refine wpM_block ?_
    refine wpM_seq ?_
    refine wpM_regionK [3, 5, 6, 7, 8] rfl ?_; intro Q1 hQ1
    refine S_ ?_
    refine hQ1 _ _ ?_; clear hQ1 Q1
    refine S_ ?_
    refine wpM_regionK [3, 6, 7, 8] rfl ?_; intro Q1 hQ1
    refine S_ ?_
    refine hQ1 _ _ ?_; clear hQ1 Q1
    refine S_ ?_
    refine wpM_regionK [3, 6, 7, 8] rfl ?_; intro Q1 hQ1
    refine S_ ?_
    refine hQ1 _ _ ?_; clear hQ1 Q1
    refine S_ ?_
    rw [← hbt]
    refine .of' _ _ ⟨n0 - 1, by omega, i0 + 1, _, by omega, ?_, ?_, rfl⟩ ?_ ?_ ?_
    · first | omega | (simp -implicitDefEqProofs (disch := omega) only [go_sem]; done) | (simp -implicitDefEqProofs (disch := omega) only [go_sem]; omega)
    · first | trivial | omega
    all_goals (first | (simp -implicitDefEqProofs (disch := omega) only [go_sem, PV.int.injEq, Int.natCast_add, Int.natCast_one, Int.natCast_zero, true_or, le_yes]; done) | rfl | trivial | (simp -implicitDefEqProofs (disch := omega) only [go_sem, PV.int.injEq, Int.natCast_add, Int.natCast_one, Int.natCast_zero, true_or]; simp; done) | (simp; done))
  refine wpM_exit ?_
  refine S_ ?_
  refine wpM_seq ?_
  refine wpM_regionK [2] rfl ?_; intro Q1 hQ1
  refine S_ ?_
  refine hQ1 _ _ ?_; clear hQ1 Q1
  refine S_ ?_
  refine wpM_ret ?_
  try refine S_ ?_
  refine hQ _ _ rfl rfl rfl (by simp -implicitDefEqProofs (disch := omega) only [go_sem, le_yes, true_or]) ?_ (.inl rfl)
  rw [Tryz.results90]
  try simp -implicitDefEqProofs (disch := omega) only [go_sem, List.cons.injEq, PV.bool.injEq, PV.int.injEq, PV.agg.injEq]
  all_goals
    rw [show i0 = l.length by omega, List.take_of_length_le (Nat.le_refl _)]
@[go_sem] theorem drop_two (a b : PV) (l : List PV) (i : Nat) : (a :: b :: l).drop (2 + i) = l.drop i := by rw [Nat.add_comm]; rfl
@[go_sem high] theorem splice_two (a b : PV) (l v : List PV) (i : Nat) : splice (a :: b :: l) (2 + i) v = a :: b :: splice l i v := by
  unfold splice
  rw [Nat.add_comm 2 i, show i + 2 + v.length = (i + v.length) + 2 by omega]; rfl
@[go_sem] theorem bls_cell (l : List Bool) : (bls l).all PV.cell = true := by
  induction l with
  | nil => rfl
  | cons x l ih => simp only [bls, List.map_cons, List.all_cons, PV.cell, Bool.true_and] at ih ⊢; exact ih
@[go_sem] theorem bls_take6 (l : List Bool) (h : l.length = 6) : (bls l).take 6 = bls l := by rw [List.take_of_length_le (by simp [bls, h])]
def tcs (on bg : BitVec 64) (kp : List Bool) : List PV := .int .u64 (on.toNat : Int) :: .int .u64 (bg.toNat : Int) :: bls kp
@[go_sem] theorem tcs_eq (on bg : BitVec 64) (kp : List Bool) : tcs on bg kp = .int .u64 (on.toNat : Int) :: .int .u64 (bg.toNat : Int) :: bls kp := rfl
theorem cloneB_ok (id off : Nat) (T : TypeId) (cs : List PV) (L : List Bool) (h : off + 6 ≤ cs.length) (hL : (cs.drop off).take 6 = bls L) : CallF Tryz.prog 135 [.sl 4 id off 6] [(id, .cells T cs)] 1 (fun ns o => ∃ x, ns = [x] ∧ o = { rs := [.sl 4 x 0 6], nw := [(x, .cells 4 (bls L))] }) := by
  refine callF_of' Tryz.func135 rfl Tryz.ntmps135 (by simp) ?_
  intro f0 B ns Q hB hns hQ
  have hid : id < B := hB id (by simp [hasKey, lk])
  obtain ⟨x, rfl⟩ : ∃ x, ns = [x] := by
    match ns, hns with
    | [x], _ => exact ⟨x, rfl⟩
  refine wpM_seq ?_
  refine wpM_regionK [0] rfl ?_; intro Q1 hQ1
  refine S_ ?_
  refine hQ1 _ _ ?_; clear hQ1 Q1
  refine S_ ?_
  refine wpM_seq ?_
  refine wpM_seq ?_
  refine wpM_regionK [0, 4] rfl ?_; intro Q1 hQ1
  refine S_ ?_
  refine hQ1 _ _ ?_; clear hQ1 Q1
  refine S_ ?_
  refine wpM_condK ?_
  refine S_ ?_
  refine wpM_skip ?_
  refine S_ ?_
  refine wpM_seq ?_
  refine wpM_regionK [2] rfl ?_; intro Q1 hQ1
  refine S_ ?_
  refine hQ1 _ _ ?_; clear hQ1 Q1
  refine S_ ?_
  refine wpM_ret ?_
  try refine S_ ?_
  refine hQ _ _ (retK [B + 1] [] [(x, .cells 4 (bls L))] rfl rfl rfl (by rw [Tryz.results135]; simp (maxSteps := 1000000) -implicitDefEqProofs (disch := omega) only [go_sem] <;> rfl) ?_ ⟨x, rfl, rfl⟩ ?_ ?_ ?_ ?_ ?_ ?_)
  all_goals (first | (simp -implicitDefEqProofs (disch := omega) only [go_sem, hL, List.nodup_cons, List.nodup_nil, true_or, or_true, List.mem_cons, List.not_mem_nil]; done) | (simp -implicitDefEqProofs (disch := omega) only [go_sem, hL, List.nodup_cons, List.nodup_nil, true_or, or_true, List.mem_cons, List.not_mem_nil]; omega))
def onBits (l : List Bool) : BitVec 64 := (List.range l.length).foldl (fun b n => if l.getD n false then b ||| (1#64 <<< n) else b) 0#64
def onB (l : List Bool) (i : Nat) : BitVec 64 := (List.range i).foldl (fun b n => if l.getD n false then b ||| (1#64 <<< n) else b) 0#64
@[go_sem] theorem onB_zero (l : List Bool) : onB l 0 = 0#64 := rfl
theorem onB_succ (l : List Bool) (i : Nat) : onB l (i + 1) = if l.getD i false then onB l i ||| (1#64 <<< i) else onB l i := by
  rw [onB, List.range_succ, List.foldl_append]; rfl
theorem turnOf_ok (k : Mrk) (hon : k.on.length ≤ 1099511627776) (hk : k.kept.length = 6) : CallF Tryz.prog 49 [.agg k.cs] [] 1 (fun ns o => ∃ x, ns = [x] ∧ o = { rs := [.ptr x 0], nw := [(x, .cells 93 (tcs (onBits k.on) 0#64 k.kept))] }) := by
  refine callF_of' Tryz.func49 rfl Tryz.ntmps49 (by simp) ?_
  intro f0 B ns Q hB hns hQ
  obtain ⟨x, rfl⟩ : ∃ x, ns = [x] := by
    match ns, hns with
    | [x], _ => exact ⟨x, rfl⟩
  have hk0 : List.drop k.kept.length [PV.bool false, PV.bool false, PV.bool false, PV.bool false, PV.bool false, PV.bool false] = [] := by rw [List.drop_eq_nil_iff, hk]; simp
  refine wpM_seq ?_
  refine wpM_regionK [1] rfl ?_; intro Q1 hQ1
  refine S_ ?_
  refine hQ1 _ _ ?_; clear hQ1 Q1
  refine S_ ?_
  refine wpM_seq ?_
  refine wpM_regionK [1, 3] rfl ?_; intro Q1 hQ1
  simp -implicitDefEqProofs (disch := omega) only [go_sem, hk0, List.append_nil]
  refine hQ1 _ _ ?_; clear hQ1 Q1
  refine S_ ?_
  refine wpM_seq ?_
  refine wpM_seq ?_
  refine wpM_regionK [3, 13, 14, 15] rfl ?_; intro Q1 hQ1
  refine S_ ?_
  refine hQ1 _ _ ?_; clear hQ1 Q1
  refine S_ ?_
  refine wpM_block ?_
  refine wpM_loopS (fun s n s' => ∃ (i0 M0 : Nat) , i0 + n = k.on.length ∧ s.M ≤ M0 ∧ (Tr i0) ∧ s' = { s with env := setE 15 (.int .i64 (i0 : Nat)) s.env, l := setl (B + 1) (.cells 93 (tcs (onB k.on i0) 0#64 k.kept)) s.l, M := M0 }) (k.on.length) ?_ ?_
  ·
    refine .of' _ _ ⟨0, _, by omega, Nat.le_refl _, trivial, rfl⟩ ?_ ?_ ?_ <;> (first | (simp -implicitDefEqProofs (disch := omega) only [go_sem, PV.int.injEq, Int.natCast_add, Int.natCast_one, Int.natCast_zero, true_or, le_yes]; done) | rfl | trivial | (simp -implicitDefEqProofs (disch := omega) only [go_sem, PV.int.injEq, Int.natCast_add, Int.natCast_one, Int.natCast_zero, true_or]; simp; done) | (simp; done))
  rintro n0 s' ⟨i0, M0, hi0, hM0, hv0, rfl⟩
  try dsimp only at hM0
  try refine S_ ?_
  refine wpM_seq ?_
  refine wpM_regionK [3, 13, 14, 15, 16] rfl ?_; intro Q1 hQ1
  refine S_ ?_
  refine hQ1 _ _ ?_; clear hQ1 Q1
  refine S_ ?_
  refine wpM_seq ?_
  refine wpM_condK ?_
  refine S_ ?_
  refine ⟨fun hc0 => ?_, fun hc0 => ?_⟩
  ·
    have hl0 : i0 < k.on.length := by omega
    have hbt := onB_succ k.on i0
    refine wpM_skip ?_
    refine S_ ?_
    refine wpM_seq ?_
    refine wpM_block ?_
    refine wpM_seq ?_
    refine wpM_regionK [3, 4, 5, 13, 14, 15] rfl ?_; intro Q1 hQ1
    refine S_ ?_
    refine hQ1 _ _ ?_; clear hQ1 Q1
    refine S_ ?_
    refine wpM_seq ?_
    refine wpM_regionK [3, 4, 13, 14, 15, 20] rfl ?_; intro Q1 hQ1
    refine S_ ?_
    refine hQ1 _ _ ?_; clear hQ1 Q1
    refine S_ ?_
    refine wpM_condK ?_
    refine S_ ?_
    refine ⟨fun hc1 => ?_, fun hc1 => ?_⟩
    ·
      refine wpM_keep [3, 13, 14, 15] (wpM_dr mixed 0 1 [B+1] [⟨[3], [], [], [], false⟩, ⟨[21], [], [], [], false⟩, ⟨[22], [], [], [], false⟩, ⟨[23], [0], [], [], false⟩, ⟨[4], [], [], [], false⟩, ⟨[25], [], [], [], false⟩, ⟨[24, 26], [], [], [], false⟩, ⟨[21], [], [], [], false⟩, ⟨[28], [], [], [], false⟩, ⟨[27, 29], [0], [0], [], false⟩] [0, 1, 2, 3, 4, 5, 6, 7, 8, 9] [[], [0], [0, 1], [0, 1, 2], [], [4], [0, 1, 2, 3, 4, 5], [0, 1, 2, 3, 4, 5, 6], [0, 1, 2, 3, 4, 5, 6, 7], [0, 1, 2, 3, 4, 5, 6, 7, 8]] 1 rfl (by simp) (by decide +kernel) (by simp) ?_)
      intro O A K hO hA hK; simp only [atL_cons, atL_nil, Nat.reduceAdd, Nat.zero_add] at hO hA
      refine SO_ ?_
      refine hK _ ?_; clear hK K hO hA O A
      refine S_ ?_
      refine wpM_regionK [3, 13, 14, 15] rfl ?_; intro Q1 hQ1
      refine S_ ?_
      refine hQ1 _ _ ?_; clear hQ1 Q1
      refine S_ ?_
      first
      | (rw [hc1, if_pos rfl] at hbt; rw [← hbt])
      | (rw [hc1, if_neg (by simp)] at hbt; rw [← hbt])
      refine .of' _ _ ⟨n0 - 1, by omega, i0 + 1, _, by omega, ?_, ?_, rfl⟩ ?_ ?_ ?_
      · first | omega | (simp -implicitDefEqProofs (disch := omega) only [go_sem]; done) | (simp -implicitDefEqProofs (disch := omega) only [go_sem]; omega)
      · first | trivial | omega
      all_goals (first | (simp -implicitDefEqProofs (disch := omega) only [go_sem, PV.int.injEq, Int.natCast_add, Int.natCast_one, Int.natCast_zero, true_or, le_yes]; done) | rfl | trivial | (simp -implicitDefEqProofs (disch := omega) only [go_sem, PV.int.injEq, Int.natCast_add, Int.natCast_one, Int.natCast_zero, true_or]; simp; done) | (simp; done))
    refine wpM_skip ?_
    refine S_ ?_
    refine wpM_regionK [3, 13, 14, 15] rfl ?_; intro Q1 hQ1
    refine S_ ?_
    refine hQ1 _ _ ?_; clear hQ1 Q1
    refine S_ ?_
    first
    | (rw [hc1, if_pos rfl] at hbt; rw [← hbt])
    | (rw [hc1, if_neg (by simp)] at hbt; rw [← hbt])
    refine .of' _ _ ⟨n0 - 1, by omega, i0 + 1, _, by omega, ?_, ?_, rfl⟩ ?_ ?_ ?_
    · first | omega | (simp -implicitDefEqProofs (disch := omega) only [go_sem]; done) | (simp -implicitDefEqProofs (disch := omega) only [go_sem]; omega)
    · first | trivial | omega
    all_goals (first | (simp -implicitDefEqProofs (disch := omega) only [go_sem, PV.int.injEq, Int.natCast_add, Int.natCast_one, Int.natCast_zero, true_or, le_yes]; done) | rfl | trivial | (simp -implicitDefEqProofs (disch := omega) only [go_sem, PV.int.injEq, Int.natCast_add, Int.natCast_one, Int.natCast_zero, true_or]; simp; done) | (simp; done))
  refine wpM_exit ?_
  refine S_ ?_
  refine wpM_seq ?_
  refine wpM_regionK [2] rfl ?_; intro Q1 hQ1
  refine S_ ?_
  refine hQ1 _ _ ?_; clear hQ1 Q1
  refine S_ ?_
  refine wpM_ret ?_
  try refine S_ ?_
  refine hQ _ _ (retK [B + 1] [] [(x, .cells 93 (tcs (onBits k.on) 0#64 k.kept))] rfl rfl rfl (by rw [Tryz.results49]; simp (maxSteps := 1000000) -implicitDefEqProofs (disch := omega) only [go_sem] <;> rfl) ?_ ⟨x, rfl, rfl⟩ ?_ ?_ ?_ ?_ ?_ ?_)
  all_goals (try rw [show onBits k.on = onB k.on i0 by (rw [show i0 = k.on.length by omega]; rfl)])
  all_goals (first | (simp -implicitDefEqProofs (disch := omega) only [go_sem, List.nodup_cons, List.nodup_nil, true_or, or_true, List.mem_cons, List.not_mem_nil]; done) | (simp -implicitDefEqProofs (disch := omega) only [go_sem, List.nodup_cons, List.nodup_nil, true_or, or_true, List.mem_cons, List.not_mem_nil]; omega))
end Go.Proofs.YtnilkkcobeaglaaGreat
namespace Go.Proofs.YtnilkkcobeaglaaGreat
open Go Sg
set_option maxRecDepth 100000
set_option linter.unusedSimpArgs false
set_option linter.unusedVariables false
set_option maxHeartbeats 4000000
theorem readMem_ok' (m : MM) (hm : m.Sm) : CallF Tryz.prog 46 [.agg m.cs] [] 1 (fun ns o => ∃ x p l, ns = [x] ∧ ((m.ok = true ∧ p = .ptr x 0 ∧ l = m.flat) ∨ (m.ok = false ∧ p = .nilp)) ∧ o = { rs := [p, .bool m.ok], nw := [(x, .cells 151 (ints l))] }) := by
  refine (readMem_ok m hm).mono ?_
  rintro ns o ⟨x, rfl, ⟨h, rfl⟩ | ⟨h, l, rfl⟩⟩
  · exact ⟨x, _, _, rfl, .inl ⟨h, rfl, rfl⟩, by rw [h]⟩
  · exact ⟨x, _, l, rfl, .inr ⟨h, rfl⟩, by rw [h]⟩
def turnOk (c : Cht) (k : Mrk) (m : MM) : Bool := m.ok && c.iok && mrkOk c k
theorem readTurn_ok (c : Cht) (k : Mrk) (m : MM) (hc : c.Sm) (hm : m.Sm) : CallF Tryz.prog 38 [.agg c.cs, .agg k.cs, .agg m.cs] [] 1 (fun ns o => ∃ x p l, ns = [x] ∧ (m.ok = true → p = .ptr x 0 ∧ l = m.flat) ∧ (p = .ptr x 0 ∨ p = .nilp) ∧ o = { rs := [p, .bool (turnOk c k m)], nw := [(x, .cells 151 (ints l))] }) := by
  refine callF_of' Tryz.func38 rfl Tryz.ntmps38 (by simp) ?_
  intro f0 B ns Q hB hns hQ
  obtain ⟨x, rfl⟩ : ∃ x, ns = [x] := by
    match ns, hns with
    | [x], _ => exact ⟨x, rfl⟩
  refine wpM_seq ?_
  refine wpM_regionK [3, 4, 5] rfl ?_; intro Q1 hQ1
  refine S_ ?_
  refine hQ1 _ _ ?_; clear hQ1 Q1
  refine S_ ?_
  refine wpM_seq ?_
  refine wpM_regionK [3, 4, 8, 9] rfl ?_; intro Q1 hQ1
  refine S_ ?_
  refine call_fn (l := []) (first := []) (cap := []) (ps := [.agg m.cs]) (readMem_ok' m hm) Tryz.call46 rfl rfl rfl T_ T_ ?_
  rintro out ⟨x', p, l, hns', hp, rfl⟩
  injection hns' with hn1 hns'
  subst hn1
  refine S_ ?_
  refine hQ1 _ _ ?_; clear hQ1 Q1
  refine S_ ?_
  refine wpM_seq ?_
  refine wpM_regionK [6, 7] rfl ?_; intro Q1 hQ1
  refine SD_ ?_
  first | refine callG_p (fun hb => ichartOk_ok c hc) Tryz.call88 rfl rfl (fun hb => by simp -implicitDefEqProofs (disch := omega) only [go_sem]) (fun hb => by first | rfl | (simp -implicitDefEqProofs (disch := omega) only [go_sem, hb, gd_of hb] <;> rfl)) ?_ | refine call_p (ichartOk_ok c hc) Tryz.call88 rfl rfl rfl (by first | rfl | (simp -implicitDefEqProofs (disch := omega) only [go_sem] <;> rfl)) ?_
  refine SD_ ?_
  first | refine callG_p (fun hb => imrkOk_ok c k) Tryz.call89 rfl rfl (fun hb => by simp -implicitDefEqProofs (disch := omega) only [go_sem]) (fun hb => by first | rfl | (simp -implicitDefEqProofs (disch := omega) only [go_sem, hb, gd_of hb] <;> rfl)) ?_ | refine call_p (imrkOk_ok c k) Tryz.call89 rfl rfl rfl (by first | rfl | (simp -implicitDefEqProofs (disch := omega) only [go_sem] <;> rfl)) ?_
  refine SD_ ?_
  refine hQ1 _ _ ?_; clear hQ1 Q1
  refine S_ ?_
  refine wpM_ret ?_
  try refine S_ ?_
  rcases hp with ⟨hmo, rfl, rfl⟩ | ⟨hmo, rfl⟩
  · refine hQ _ _ (retK [B + 3] [] [(x, .cells 151 (ints m.flat))] rfl rfl rfl (by rw [Tryz.results38]; simp (maxSteps := 1000000) -implicitDefEqProofs (disch := omega) only [go_sem] <;> rfl) ?_ ⟨x, .ptr x 0, m.flat, rfl, fun _ => ⟨rfl, rfl⟩, .inl rfl, rfl⟩ ?_ ?_ ?_ ?_ ?_ ?_)
    all_goals (first | (simp -implicitDefEqProofs (disch := omega) only [go_sem, turnOk, hmo, List.nodup_cons, List.nodup_nil, true_or, or_true, List.mem_cons, List.not_mem_nil]; done) | (simp -implicitDefEqProofs (disch := omega) only [go_sem, turnOk, hmo, List.nodup_cons, List.nodup_nil, true_or, or_true, List.mem_cons, List.not_mem_nil]; omega))
  · refine hQ _ _ (retK [B + 3] [] [(x, .cells 151 (ints l))] rfl rfl rfl (by rw [Tryz.results38]; simp (maxSteps := 1000000) -implicitDefEqProofs (disch := omega) only [go_sem] <;> rfl) ?_ ⟨x, .nilp, l, rfl, (by rw [hmo]; intro h; cases h), .inr rfl, rfl⟩ ?_ ?_ ?_ ?_ ?_ ?_)
    all_goals (first | (simp -implicitDefEqProofs (disch := omega) only [go_sem, turnOk, hmo, List.nodup_cons, List.nodup_nil, true_or, or_true, List.mem_cons, List.not_mem_nil]; done) | (simp -implicitDefEqProofs (disch := omega) only [go_sem, turnOk, hmo, List.nodup_cons, List.nodup_nil, true_or, or_true, List.mem_cons, List.not_mem_nil]; omega))
def hasL (on : BitVec 64) (n : Nat) : List Bool := (List.range n).map on.getLsbD
@[go_sem] theorem hasL_len (on : BitVec 64) (n : Nat) : (hasL on n).length = n := by simp [hasL]
theorem hasL_succ (on : BitVec 64) (n : Nat) : hasL on (n + 1) = hasL on n ++ [on.getLsbD n] := by simp [hasL, List.range_succ]
theorem bls_app (l : List Bool) (b : Bool) : bls l ++ [.bool b] = bls (l ++ [b]) := by simp [bls]
@[go_sem] theorem subL_bls (θ : TypeId → Nat → Nat → Nat → Option PV) (l : List Bool) : PV.subL θ (bls l) = bls l := by
  induction l with
  | nil => rfl
  | cons x l ih => simp only [bls, List.map_cons, PV.subL, PV.sub] at ih ⊢; rw [ih]
@[go_sem] theorem subL_ints (θ : TypeId → Nat → Nat → Nat → Option PV) (l : List Int) : PV.subL θ (ints l) = ints l := by
  induction l with
  | nil => rfl
  | cons x l ih => simp only [ints, List.map_cons, PV.subL, PV.sub] at ih ⊢; rw [ih]
def tobj (id : Nat) (on bg : BitVec 64) (kp : List Bool) : List (Nat × AObj) := [(id, .cells 93 (tcs on bg kp))]
@[go_sem] theorem tobj_eq (id : Nat) (on bg : BitVec 64) (kp : List Bool) : tobj id on bg kp = [(id, .cells 93 (tcs on bg kp))] := rfl
theorem marks_ok (id : Nat) (on bg : BitVec 64) (kp : List Bool) (n : Nat) (hk : kp.length = 6) (hn : 0 < n) (hn6 : n ≤ 6) : CallF Tryz.prog 96 [.ptr id 0, .int .i64 (n : Int)] (tobj id on bg kp) 0 (fun _ o => o = { rs := [.agg (⟨hasL on n, kp⟩ : Mrk).cs] }) := by
  refine callF_of' Tryz.func96 rfl Tryz.ntmps96 (by simp) ?_
  intro f0 B ns Q hB hns hQ
  have hid : id < B := hB id (by simp [hasKey, lk, tobj])
  obtain rfl : ns = [] := List.eq_nil_of_length_eq_zero hns
  refine wpM_seq ?_
  refine wpM_regionK [0, 1, 4] rfl ?_; intro Q1 hQ1
  refine S_ ?_
  refine hQ1 _ _ ?_; clear hQ1 Q1
  refine S_ ?_
  refine wpM_seq ?_
  refine wpM_regionK [0, 1, 4, 5] rfl ?_; intro Q1 hQ1
  refine S_ ?_
  refine call_fn (l := tobj id on bg kp) (first := []) (cap := []) (ps := [.sl 4 id 2 6]) (cloneB_ok id 2 93 (tcs on bg kp) kp (by simp [tcs, hk, bls]) (by rw [tcs_eq]; exact bls_take6 kp hk)) Tryz.call135 rfl rfl rfl T_ T_ ?_
  rintro out ⟨x', hns', rfl⟩
  injection hns' with hn1 hns'
  subst hn1
  refine S_ ?_
  refine hQ1 _ _ ?_; clear hQ1 Q1
  refine S_ ?_
  refine wpM_seq ?_
  refine wpM_seq ?_
  refine wpM_regionK [0, 4, 5, 13, 14] rfl ?_; intro Q1 hQ1
  refine S_ ?_
  refine hQ1 _ _ ?_; clear hQ1 Q1
  refine S_ ?_
  refine wpM_block ?_
  refine wpM_loopS (fun s r s' => (r = n ∧ s' = s) ∨ ∃ (i0 M0 y : Nat), 0 < i0 ∧ i0 + r = n ∧ s.M ≤ y ∧ y < M0 ∧ s' = { s with env := setE 14 (.int .i64 (i0 : Nat)) s.env, l := (y, .cells 4 (bls (hasL on i0))) :: setl (B + 2) (.cells 29 [.sl 4 y 0 i0, .sl 4 (B + 1) 0 6]) s.l, M := M0 }) (n) ?_ ?_
  ·
    refine .of' _ _ (.inl ⟨rfl, rfl⟩) ?_ ?_ ?_ <;> (first | (simp -implicitDefEqProofs (disch := omega) only [go_sem, PV.int.injEq, Int.natCast_add, Int.natCast_one, Int.natCast_zero, true_or, le_yes]; done) | rfl | trivial | (simp -implicitDefEqProofs (disch := omega) only [go_sem, PV.int.injEq, Int.natCast_add, Int.natCast_one, Int.natCast_zero, true_or]; simp; done) | (simp; done))
  rintro r s' (⟨rfl, rfl⟩ | ⟨i0, M0, y, hi0, hir, hy, hyM, rfl⟩)
  ·
    try refine S_ ?_
    refine wpM_seq ?_
    refine wpM_regionK [0, 4, 5, 13, 14, 15] rfl ?_; intro Q1 hQ1
    refine S_ ?_
    refine hQ1 _ _ ?_; clear hQ1 Q1
    refine S_ ?_
    refine wpM_seq ?_
    refine wpM_condK ?_
    refine S_ ?_
    refine ⟨fun hc0 => ?_, fun hc0 => ?_⟩
    ·
      skip
      refine wpM_skip ?_
      refine S_ ?_
      refine wpM_seq ?_
      refine wpM_block ?_
      refine wpM_seq ?_
      refine wpM_regionK [0, 4, 5, 6, 13, 14] rfl ?_; intro Q1 hQ1
      refine S_ ?_
      refine hQ1 _ _ ?_; clear hQ1 Q1
      refine S_ ?_
      refine wpM_keep [0, 4, 5, 13, 14] (wpM_dr mixed 2 2 [B + 2, id, B + 3, B + 4] [⟨[5], [], [], [], false⟩, ⟨[17], [0], [], [], false⟩, ⟨[0], [], [], [], false⟩, ⟨[19], [], [], [], false⟩, ⟨[20], [], [], [], false⟩, ⟨[21], [1], [], [], false⟩, ⟨[6], [], [], [], false⟩, ⟨[22, 23], [], [], [], true⟩, ⟨[24], [], [], [2], false⟩, ⟨[18, 25], [2], [], [3], false⟩, ⟨[5], [], [], [], false⟩, ⟨[26, 27], [0], [0], [], false⟩] [0, 1, 2, 3, 4, 5, 6, 7, 8, 9, 10, 11] [[], [0], [], [2], [2, 3], [2, 3, 4], [], [2, 3, 4, 5, 6], [2, 3, 4, 5, 6, 7], [0, 1, 2, 3, 4, 5, 6, 7, 8], [0, 1, 2, 3, 4, 5, 6, 7, 8, 9], [0, 1, 2, 3, 4, 5, 6, 7, 8, 9, 10]] 4 rfl (by simp; omega) (by decide +kernel) (by simp) ?_)
      intro O A K hO hA hK; simp only [atL_cons, atL_nil, Nat.reduceAdd, Nat.zero_add] at hO hA
      refine SO_ ?_
      refine loud_p (has_ok on 0 (by omega)) Tryz.call136 rfl rfl (by first | rfl | (simp -implicitDefEqProofs (disch := omega) only [go_sem] <;> rfl)) rfl ?_
      refine SO_ ?_
      refine hK _ ?_; clear hK K hO hA O A
      refine S_ ?_
      refine wpM_regionK [0, 4, 5, 13, 14] rfl ?_; intro Q1 hQ1
      refine S_ ?_
      refine hQ1 _ _ ?_; clear hQ1 Q1
      refine S_ ?_
      have e1 : [PV.bool (on.getLsbD 0)] = bls (hasL on 1) := rfl
      rw [e1]
      refine .of' _ _ ⟨r - 1, by omega, .inr ⟨1, _, B + 4, by omega, by omega, by omega, ?_, rfl⟩⟩ ?_ ?_ ?_
      · first | omega | (simp -implicitDefEqProofs (disch := omega) only [go_sem]; done) | (simp -implicitDefEqProofs (disch := omega) only [go_sem]; omega)
      all_goals (first | (simp -implicitDefEqProofs (disch := omega) only [go_sem, PV.int.injEq, Int.natCast_add, Int.natCast_one, Int.natCast_zero, true_or, le_yes]; done) | rfl | trivial | (simp -implicitDefEqProofs (disch := omega) only [go_sem, PV.int.injEq, Int.natCast_add, Int.natCast_one, Int.natCast_zero, true_or]; simp; done) | (simp; done))
    exfalso; omega
  dsimp only at hy
  try refine S_ ?_
  refine wpM_seq ?_
  refine wpM_regionK [0, 4, 5, 13, 14, 15] rfl ?_; intro Q1 hQ1
  refine S_ ?_
  refine hQ1 _ _ ?_; clear hQ1 Q1
  refine S_ ?_
  refine wpM_seq ?_
  refine wpM_condK ?_
  refine S_ ?_
  refine ⟨fun hc0 => ?_, fun hc0 => ?_⟩
  ·
    have e1 : bls (hasL on i0) ++ [PV.bool (on.getLsbD i0)] = bls (hasL on (i0 + 1)) := by rw [bls_app, ← hasL_succ]
    refine wpM_skip ?_
    refine S_ ?_
    refine wpM_seq ?_
    refine wpM_block ?_
    refine wpM_seq ?_
    refine wpM_regionK [0, 4, 5, 6, 13, 14] rfl ?_; intro Q1 hQ1
    refine S_ ?_
    refine hQ1 _ _ ?_; clear hQ1 Q1
    refine S_ ?_
    refine wpM_keep [0, 4, 5, 13, 14] (wpM_dr mixed 2 3 [B + 2, id, y, M0, M0 + 1] [⟨[5], [], [], [], false⟩, ⟨[17], [0], [], [], false⟩, ⟨[0], [], [], [], false⟩, ⟨[19], [], [], [], false⟩, ⟨[20], [], [], [], false⟩, ⟨[21], [1], [], [], false⟩, ⟨[6], [], [], [], false⟩, ⟨[22, 23], [], [], [], true⟩, ⟨[24], [], [], [3], false⟩, ⟨[18, 25], [2, 3], [2], [4], false⟩, ⟨[5], [], [], [], false⟩, ⟨[26, 27], [0], [0], [], false⟩] [0, 1, 2, 3, 4, 5, 6, 7, 8, 9, 10, 11] [[], [0], [], [2], [2, 3], [2, 3, 4], [], [2, 3, 4, 5, 6], [2, 3, 4, 5, 6, 7], [0, 1, 2, 3, 4, 5, 6, 7, 8], [0, 1, 2, 3, 4, 5, 6, 7, 8, 9], [0, 1, 2, 3, 4, 5, 6, 7, 8, 9, 10]] 5 rfl (by simp; omega) (by decide +kernel) (by simp) ?_)
    intro O A K hO hA hK; simp only [atL_cons, atL_nil, Nat.reduceAdd, Nat.zero_add] at hO hA
    refine SO_ ?_
    refine loud_p (has_ok on i0 (by omega)) Tryz.call136 rfl rfl (by first | rfl | (simp -implicitDefEqProofs (disch := omega) only [go_sem] <;> rfl)) rfl ?_
    refine SO_ ?_
    refine hK _ ?_; clear hK K hO hA O A
    refine S_ ?_
    refine wpM_regionK [0, 4, 5, 13, 14] rfl ?_; intro Q1 hQ1
    refine S_ ?_
    refine hQ1 _ _ ?_; clear hQ1 Q1
    refine S_ ?_
    rw [e1]
    refine .of' _ _ ⟨r - 1, by omega, .inr ⟨i0 + 1, _, M0 + 1, by omega, by omega, by omega, ?_, rfl⟩⟩ ?_ ?_ ?_
    · first | omega | (simp -implicitDefEqProofs (disch := omega) only [go_sem]; done) | (simp -implicitDefEqProofs (disch := omega) only [go_sem]; omega)
    all_goals (first | (simp -implicitDefEqProofs (disch := omega) only [go_sem, PV.int.injEq, Int.natCast_add, Int.natCast_one, Int.natCast_zero, true_or, le_yes]; done) | rfl | trivial | (simp -implicitDefEqProofs (disch := omega) only [go_sem, PV.int.injEq, Int.natCast_add, Int.natCast_one, Int.natCast_zero, true_or]; simp; done) | (simp; done))
  refine wpM_exit ?_
  refine S_ ?_
  refine wpM_seq ?_
  obtain rfl : i0 = n := by omega
  refine wpM_frz [y, B + 1] [(4, y, 0, i0, rowsB (hasL on i0)), (4, B + 1, 0, 6, rowsB kp)] (by intro q hq; simp at hq; rcases hq with rfl | rfl <;> simp -implicitDefEqProofs (disch := omega) only [go_sem]) (by
    intro q hq
    simp only [List.mem_cons, List.not_mem_nil, or_false] at hq
    rcases hq with rfl | rfl
    · exact ⟨by simp, rowsOf_bls' (T := 4) (hasL on i0) T_ (hasL_len on i0)⟩
    · exact ⟨by simp, rowsOf_bls' (T := 4) kp T_ (by simp [hk])⟩) ?_
  simp -implicitDefEqProofs (disch := omega) only [go_sem]
  refine wpM_regionK [4] rfl ?_; intro Q1 hQ1
  refine S_ ?_
  refine hQ1 _ _ ?_; clear hQ1 Q1
  refine S_ ?_
  refine wpM_ret ?_
  try refine S_ ?_
  refine hQ _ _ (ret0 [] rfl rfl rfl (by rw [Tryz.results96]; simp (maxSteps := 1000000) -implicitDefEqProofs (disch := omega) only [go_sem] <;> rfl) rfl ?_ ?_ ?_ ?_)
  all_goals simp -implicitDefEqProofs (disch := omega) only [go_sem, true_or, or_true]
end Go.Proofs.YtnilkkcobeaglaaGreat
