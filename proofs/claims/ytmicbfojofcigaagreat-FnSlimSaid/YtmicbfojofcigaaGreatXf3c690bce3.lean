/- A part of a proof: lemmas and contracts of functions; the last text of the claim says what is proved. -/
import Derived.Test.YtmicbfojofcigaaGreatX7c43a7778f
set_option linter.unusedSectionVars false
set_option linter.unusedSimpArgs false
set_option linter.unusedVariables false
namespace Go.Proofs.YtmicbfojofcigaaGreat
open Go Sg
set_option linter.unusedSectionVars false
variable [Glob]
set_option maxRecDepth 100000
set_option linter.unusedSimpArgs false
set_option linter.unusedVariables false
set_option maxHeartbeats 4000000
theorem leL_app (a b c : List PV) : PV.leL (a ++ b) (a ++ c) = PV.leL b c := by
  induction a with
  | nil => rfl
  | cons x a ih => simp only [List.cons_append, leL_cons, le_same, true_and, ih]
@[go_sem high] theorem leL_smc (l : List Sm) (b : List PV) (s : Sm) : PV.leL (smc l ++ b) (smc (l ++ [s])) = PV.leL b s.cs := by
  rw [← smc_app, leL_app]
@[go_sem] theorem smc_nil : smc [] = [] := rfl
@[go_sem high] theorem sub_smc_app (θ : TypeId → Nat → Nat → Nat → Option PV) (l : List Sm) (b : List PV) : PV.subL θ (smc l ++ b) = smc l ++ PV.subL θ b := by rw [subL_app, smc_sub]
def ListD (N : Nat) (L : Int) (id : Nat) (bs : List Nat) (q dep : Int) : Prop :=
  CallF Tryz.prog 92 [.ptr id 0, .int .i64 dep] [(id, rdObj bs q)] 1 (fun ns o => ∃ z l q', ns = [z] ∧ Sm.szL l ≤ N ∧ q ≤ q' ∧ q' ≤ q + L ∧ o = { rs := [.sl 45 z 0 l.length], u := [(id, some (rdObj bs q'))], nw := [(z, .cells 45 (smc l))] })
theorem list_step (N : Nat) (L : Int) (id : Nat) (bs : List Nat) (q dep : Int) (hbs : Bs bs) (hN : N ≤ 1000000) (hL0 : 0 ≤ L) (hq0 : 0 ≤ q) (hq : q + (1 + 3 * (70 + 2 * L)) ≤ 1000000000000) (hdep : dep ≤ 1000000) (hdep0 : -1000000 ≤ dep)
    (ih : 0 < dep → ∀ q' dep', dep' < dep → dep - 3 < dep' → 0 ≤ q' → q' + L ≤ 1000000000000 → ListD N L id bs q' dep') : ListD (3 * (68 + 2 * N)) (1 + 3 * (70 + 2 * L)) id bs q dep := by
  refine callF_of' Tryz.func92 rfl Tryz.ntmps92 (by simp) ?_
  intro f0 B ns Q hB hns hQ
  have hid : id < B := hB id (by simp [hasKey, lk])
  obtain ⟨z, rfl⟩ : ∃ z, ns = [z] := by
    match ns, hns with
    | [z], _ => exact ⟨z, rfl⟩
  have b2 : eb 2 = 28 := rfl
  have s2 : es 2 = 7 := rfl
  have b1 : eb 1 = 12 := rfl
  have s1 : es 1 = 3 := rfl
  generalize hC : 68 + 2 * N = C at *
  generalize hD : 70 + 2 * L = D at *
  refine g_ [0,1] ?_
  refine g_ [0,1,5] ?_
  refine n_ ?_
  refine wpM_regionK [0,1,5,6] rfl fun Q1 hQ1 => ?_
  refine S_ ?_
  refine call_fn (l := [(id, rdObj bs q)]) (first := []) (cap := []) (ps := [.ptr id 0, .int .i64 4]) (pick_ok id bs q 4 hbs (by omega) (by omega) (by omega)) Tryz.call44 rfl rfl rfl G_ T_ ?_
  rintro out ⟨k0, rfl, h01, h02, h03⟩
  refine S_ ?_
  refine hQ1 _ _ (S_ ?_);clear hQ1 Q1
  obtain ⟨n, rfl, hn⟩ : ∃ n : Nat, k0 = (n : Int) ∧ n ≤ 3 := ⟨k0.toNat, by omega, by omega⟩
  refine n_ ?_
  refine wpM_loopS (fun s r s' => ∃ (l : List Sm) (q' : Int) (M Y : Nat), r ≤ 3 ∧ Sm.szL l + r * C ≤ 3 * C ∧ q + 1 ≤ q' ∧ q' + (r : Int) * D ≤ q + 1 + 3 * D ∧ B ≤ Y ∧ Y < M ∧ s' = { s with env := setE 6 (.int .i64 (r : Nat)) (setE 5 (.sl 45 Y 0 l.length) s.env), l := [(Y, .cells 45 (smc l)), (id, rdObj bs q')], M := M }) (n) ?_ ?_
  ·
    refine .of' _ _ ⟨[], q + 1, _, B, hn, ?_, by omega, ?_, Nat.le_refl _, ?_, rfl⟩ ?_ ?_ ?_
    · simp only [Sm.szL, Nat.zero_add]; exact Nat.mul_le_mul_right C hn
    · have : (n : Int) * D ≤ 3 * D := Int.mul_le_mul_of_nonneg_right (by omega) (by omega)
      omega
    · exact Nat.lt_succ_self _
    all_goals exact L_
  rintro r s' ⟨l, q', M, Y, hr, hsz, hqa, hqb, hBY, hYM, rfl⟩
  try refine S_ ?_
  refine gD_ [0,1,5,6,15] ?_
  refine c_ (fun hc0 => ?_) fun hc0 => ?_
  ·
    obtain ⟨hr0, hd0⟩ : 0 < r ∧ 0 < dep := by simpa using hc0
    have ih := ih hd0
    obtain ⟨r, rfl⟩ : ∃ r', r = r' + 1 := ⟨r - 1, by omega⟩
    have hrC : (r + 1) * C = r * C + C := Nat.succ_mul r C
    have hrD : ((r + 1 : Nat) : Int) * D = (r : Int) * D + D := by rw [Int.natCast_succ, Int.add_mul, Int.one_mul]
    have hrD0 : 0 ≤ (r : Int) * D := Int.mul_nonneg (by omega) (by omega)
    rw [hrC] at hsz
    rw [hrD] at hqb
    have hll : l.length ≤ 6000300 := by have := Sm.len_szL l; omega
    refine n_ ?_
    refine wpM_regionK [0,1,5,6,19] rfl fun Q1 hQ1 => ?_
    refine S_ ?_
    refine call_fn (l := [(id, rdObj bs q')]) (first := []) (cap := []) (ps := [.ptr id 0, .int .i64 7]) (pick_ok id bs q' 7 hbs (by omega) (by omega) (by omega)) Tryz.call44 rfl rfl rfl G_ T_ ?_
    rintro out ⟨k1, rfl, h11, h12, h13⟩
    refine S_ ?_
    refine hQ1 _ _ (S_ ?_);clear hQ1 Q1
    refine g_ [0,1,5,6,19,28] ?_
    refine c_ (fun hc1 => ?_) fun hc1 => ?_
    ·
      refine c_ (fun hc2 => ?_) fun hc2 => ?_
      ·
        refine wpM_regionK [0,1,5,6] rfl fun Q1 hQ1 => ?_
        refine S_ ?_
        refine call_fn (l := [(id, rdObj bs (q' + 1))]) (first := []) (cap := []) (ps := [.ptr id 0, .int .i64 3]) (l3Expr_ok id bs hbs 2 (q' + 1) 3 (by omega) (by omega) (by omega) (by omega)) Tryz.call78 rfl rfl rfl G_ T_ ?_
        rintro out ⟨_, q1, ⟨e, hes, rfl⟩, hqc, hqd, rfl⟩
        refine S_ ?_
        refine call_fn (l := [(id, rdObj bs q1)]) (first := []) (cap := []) (ps := [.ptr id 0, .int .i64 (dep - 1)]) (ih q1 (dep - 1) (by omega) (by omega) (by omega) (by omega)) Tryz.call92 rfl rfl rfl G_ T_ ?_
        rintro out ⟨z1, l1, q2, ⟨⟩, hsz1, hqe, hqf, rfl⟩
        refine S_ ?_
        refine call_fn (l := [(id, rdObj bs q2)]) (first := []) (cap := []) (ps := [.ptr id 0, .int .i64 (dep - 2)]) (ih q2 (dep - 2) (by omega) (by omega) (by omega) (by omega)) Tryz.call92 rfl rfl rfl G_ T_ ?_
        rintro out ⟨z2, l2, q3, ⟨⟩, hsz2, hqg, hqh, rfl⟩
        refine S_ ?_
        refine hQ1 _ _ (S_ ?_);clear hQ1 Q1
        have hszn : Sm.szL (l ++ [(Sm.mk 2 ⟨0, 0⟩ e l1 l2)]) + r * C ≤ 3 * C := by
          rw [Sm.szL_app]
          have : Sm.sz (Sm.mk 2 ⟨0, 0⟩ e l1 l2) ≤ C := by simp only [Sm.sz]; omega
          omega
        have hqn1 : q + 1 ≤ q3 := by omega
        have hqn2 : q3 + (r : Int) * D ≤ q + 1 + 3 * D := by omega
        have hYn1 : B ≤ M + 3 := by omega
        refine wpM_frz [M, M + 1] [(45, M, 0, l1.length, Sm.csL l1), (45, M + 1, 0, l2.length, Sm.csL l2)] (by intro q hq; simp at hq; rcases hq with rfl | rfl <;> simp -implicitDefEqProofs (disch := omega) only [go_sem]) (by intro q hq; simp only [List.mem_cons, List.not_mem_nil, or_false] at hq; rcases hq with rfl | rfl <;> exact ⟨by simp, rowsOf_smc (T := 45) T_ rfl⟩) ?_
        refine S_ ?_
        refine wpM_le [(0, .ptr id 0), (1, .int .i64 dep), (5, .sl 45 (M + 3) 0 (l.length + 1)), (6, .int .i64 ((r + 1 : Nat) : Int))] [(M + 3, .cells 45 (smc (l ++ [(Sm.mk 2 ⟨0, 0⟩ e l1 l2)]))), (id, rdObj bs (q3))] T_ T_ T_ ?_
        rw [show l.length + 1 = (l ++ [(Sm.mk 2 ⟨0, 0⟩ e l1 l2)]).length from by simp]
        generalize hln : l ++ [(Sm.mk 2 ⟨0, 0⟩ e l1 l2)] = ln at *
        generalize hqn : q3 = qn at *
        generalize hYn : M + 3 = Yn at *
        refine g_ [0,1,5,6] ?_
        try rw [show (((r + 1 : Nat) : Int) - 1) = (r : Int) from by omega]
        refine .of' _ _ ⟨r, by omega, ln, qn, _, Yn, by omega, hszn, hqn1, hqn2, hYn1, ?_, rfl⟩ ?_ ?_ ?_
        · dsimp only; omega
        all_goals exact L_
      refine g_ [0,1,5,6,19,45] ?_
      refine c_ (fun hc3 => ?_) fun hc3 => ?_
      ·
        refine g_ [0,1,5,6,48] ?_
        refine c_ (fun hc4 => ?_) fun hc4 => ?_
        ·
          refine wpM_regionK [0,1,5,6] rfl fun Q1 hQ1 => ?_
          refine S_ ?_
          refine call_fn (l := [(id, rdObj bs (q' + 1))]) (first := []) (cap := []) (ps := [.ptr id 0]) (l4Count_ok id bs (q' + 1) hbs (by omega) (by omega)) Tryz.call94 rfl rfl rfl G_ T_ ?_
          rintro out ⟨_, q1, ⟨s, hss, rfl⟩, hqc, hqd, rfl⟩
          refine S_ ?_
          refine hQ1 _ _ (S_ ?_);clear hQ1 Q1
          have hszn : Sm.szL (l ++ [s]) + r * C ≤ 3 * C := by
            rw [Sm.szL_app]
            have : Sm.sz s ≤ C := by omega
            omega
          have hqn1 : q + 1 ≤ q1 := by omega
          have hqn2 : q1 + (r : Int) * D ≤ q + 1 + 3 * D := by omega
          have hYn1 : B ≤ M + 1 := by omega
          refine wpM_le [(0, .ptr id 0), (1, .int .i64 dep), (5, .sl 45 (M + 1) 0 (l.length + 1)), (6, .int .i64 ((r + 1 : Nat) : Int))] [(M + 1, .cells 45 (smc (l ++ [s]))), (id, rdObj bs (q1))] T_ T_ T_ ?_
          rw [show l.length + 1 = (l ++ [s]).length from by simp]
          generalize hln : l ++ [s] = ln at *
          generalize hqn : q1 = qn at *
          generalize hYn : M + 1 = Yn at *
          refine g_ [0,1,5,6] ?_
          try rw [show (((r + 1 : Nat) : Int) - 1) = (r : Int) from by omega]
          refine .of' _ _ ⟨r, by omega, ln, qn, _, Yn, by omega, hszn, hqn1, hqn2, hYn1, ?_, rfl⟩ ?_ ?_ ?_
          · dsimp only; omega
          all_goals exact L_
        have hszn : Sm.szL l + r * C ≤ 3 * C := by omega
        have hqn1 : q + 1 ≤ q' + 1 := by omega
        have hqn2 : q' + 1 + (r : Int) * D ≤ q + 1 + 3 * D := by omega
        have hYn1 : B ≤ Y := hBY
        generalize hln : l = ln at *
        generalize hqn : q' + 1 = qn at *
        generalize hYn : Y = Yn at *
        refine g_ [0,1,5,6] ?_
        try rw [show (((r + 1 : Nat) : Int) - 1) = (r : Int) from by omega]
        refine .of' _ _ ⟨r, by omega, ln, qn, _, Yn, by omega, hszn, hqn1, hqn2, hYn1, ?_, rfl⟩ ?_ ?_ ?_
        · dsimp only; omega
        all_goals exact L_
      refine g_ [0,1,5,6,54] ?_
      refine c_ (fun hc5 => ?_) fun hc5 => ?_
      ·
        refine n_ ?_
        refine wpM_regionK [0,1,5,6,58] rfl fun Q1 hQ1 => ?_
        refine S_ ?_
        refine call_fn (l := [(id, rdObj bs (q' + 1))]) (first := []) (cap := []) (ps := [.ptr id 0, .int .i64 3]) (pick_ok id bs (q' + 1) 3 hbs (by omega) (by omega) (by omega)) Tryz.call44 rfl rfl rfl G_ T_ ?_
        rintro out ⟨k2, rfl, h21, h22, h23⟩
        refine S_ ?_
        refine hQ1 _ _ (S_ ?_);clear hQ1 Q1
        refine c_ (fun hc6 => ?_) fun hc6 => ?_
        ·
          refine wpM_regionK [0,1,5,6] rfl fun Q1 hQ1 => ?_
          refine S_ ?_
          refine call_fn (l := [(id, rdObj bs (q' + 1 + 1))]) (first := []) (cap := []) (ps := [.ptr id 0, .int .i64 2]) (l3Expr_ok id bs hbs 1 (q' + 1 + 1) 2 (by omega) (by omega) (by omega) (by omega)) Tryz.call78 rfl rfl rfl G_ T_ ?_
          rintro out ⟨_, q1, ⟨e, hes, rfl⟩, hqc, hqd, rfl⟩
          refine S_ ?_
          refine call_fn (l := [(id, rdObj bs q1)]) (first := []) (cap := []) (ps := [.ptr id 0, .int .i64 (dep - 1)]) (ih q1 (dep - 1) (by omega) (by omega) (by omega) (by omega)) Tryz.call92 rfl rfl rfl G_ T_ ?_
          rintro out ⟨z1, l1, q2, ⟨⟩, hsz1, hqe, hqf, rfl⟩
          refine S_ ?_
          refine hQ1 _ _ (S_ ?_);clear hQ1 Q1
          have hszn : Sm.szL (l ++ [(Sm.mk 3 ⟨0, 0⟩ e l1 [])]) + r * C ≤ 3 * C := by
            rw [Sm.szL_app]
            have : Sm.sz (Sm.mk 3 ⟨0, 0⟩ e l1 []) ≤ C := by simp only [Sm.sz, Sm.szL]; omega
            omega
          have hqn1 : q + 1 ≤ q2 := by omega
          have hqn2 : q2 + (r : Int) * D ≤ q + 1 + 3 * D := by omega
          have hYn1 : B ≤ M + 2 := by omega
          refine wpM_frz [M] [(45, M, 0, l1.length, Sm.csL l1)] (by intro q hq; simp at hq; rcases hq with rfl <;> simp -implicitDefEqProofs (disch := omega) only [go_sem]) (by intro q hq; simp only [List.mem_cons, List.not_mem_nil, or_false] at hq; rcases hq with rfl <;> exact ⟨by simp, rowsOf_smc (T := 45) T_ rfl⟩) ?_
          refine S_ ?_
          refine wpM_le [(0, .ptr id 0), (1, .int .i64 dep), (5, .sl 45 (M + 2) 0 (l.length + 1)), (6, .int .i64 ((r + 1 : Nat) : Int))] [(M + 2, .cells 45 (smc (l ++ [(Sm.mk 3 ⟨0, 0⟩ e l1 [])]))), (id, rdObj bs (q2))] T_ T_ T_ ?_
          rw [show l.length + 1 = (l ++ [(Sm.mk 3 ⟨0, 0⟩ e l1 [])]).length from by simp]
          generalize hln : l ++ [(Sm.mk 3 ⟨0, 0⟩ e l1 [])] = ln at *
          generalize hqn : q2 = qn at *
          generalize hYn : M + 2 = Yn at *
          refine g_ [0,1,5,6] ?_
          try rw [show (((r + 1 : Nat) : Int) - 1) = (r : Int) from by omega]
          refine .of' _ _ ⟨r, by omega, ln, qn, _, Yn, by omega, hszn, hqn1, hqn2, hYn1, ?_, rfl⟩ ?_ ?_ ?_
          · dsimp only; omega
          all_goals exact L_
        have hszn : Sm.szL l + r * C ≤ 3 * C := by omega
        have hqn1 : q + 1 ≤ q' + 1 + 1 := by omega
        have hqn2 : q' + 1 + 1 + (r : Int) * D ≤ q + 1 + 3 * D := by omega
        have hYn1 : B ≤ Y := hBY
        generalize hln : l = ln at *
        generalize hqn : q' + 1 + 1 = qn at *
        generalize hYn : Y = Yn at *
        refine g_ [0,1,5,6] ?_
        try rw [show (((r + 1 : Nat) : Int) - 1) = (r : Int) from by omega]
        refine .of' _ _ ⟨r, by omega, ln, qn, _, Yn, by omega, hszn, hqn1, hqn2, hYn1, ?_, rfl⟩ ?_ ?_ ?_
        · dsimp only; omega
        all_goals exact L_
      refine wpM_regionK [0,1,5,6] rfl fun Q1 hQ1 => ?_
      refine S_ ?_
      refine call_fn (l := [(id, rdObj bs (q' + 1))]) (first := []) (cap := []) (ps := [.ptr id 0]) (l2To_ok id bs (q' + 1) hbs (by omega) (by omega)) Tryz.call107 rfl rfl rfl G_ T_ ?_
      rintro out ⟨_, q1, ⟨a, rfl⟩, hqc, hqd, rfl⟩
      refine S_ ?_
      refine call_fn (l := [(id, rdObj bs q1)]) (first := []) (cap := []) (ps := [.ptr id 0, .int .i64 3]) (l3Expr_ok id bs hbs 2 q1 3 (by omega) (by omega) (by omega) (by omega)) Tryz.call78 rfl rfl rfl G_ T_ ?_
      rintro out ⟨_, q2, ⟨e, hes, rfl⟩, hqe, hqf, rfl⟩
      refine S_ ?_
      refine hQ1 _ _ (S_ ?_);clear hQ1 Q1
      have hszn : Sm.szL (l ++ [(Sm.mk 1 a e [] [])]) + r * C ≤ 3 * C := by
        rw [Sm.szL_app]
        have : Sm.sz (Sm.mk 1 a e [] []) ≤ C := by simp only [Sm.sz, Sm.szL]; omega
        omega
      have hqn1 : q + 1 ≤ q2 := by omega
      have hqn2 : q2 + (r : Int) * D ≤ q + 1 + 3 * D := by omega
      have hYn1 : B ≤ M + 1 := by omega
      refine wpM_le [(0, .ptr id 0), (1, .int .i64 dep), (5, .sl 45 (M + 1) 0 (l.length + 1)), (6, .int .i64 ((r + 1 : Nat) : Int))] [(M + 1, .cells 45 (smc (l ++ [(Sm.mk 1 a e [] [])]))), (id, rdObj bs (q2))] T_ T_ T_ ?_
      rw [show l.length + 1 = (l ++ [(Sm.mk 1 a e [] [])]).length from by simp]
      generalize hln : l ++ [(Sm.mk 1 a e [] [])] = ln at *
      generalize hqn : q2 = qn at *
      generalize hYn : M + 1 = Yn at *
      refine g_ [0,1,5,6] ?_
      try rw [show (((r + 1 : Nat) : Int) - 1) = (r : Int) from by omega]
      refine .of' _ _ ⟨r, by omega, ln, qn, _, Yn, by omega, hszn, hqn1, hqn2, hYn1, ?_, rfl⟩ ?_ ?_ ?_
      · dsimp only; omega
      all_goals exact L_
    refine g_ [0,1,5,6,19,28] ?_
    refine c_ (fun hc7 => ?_) fun hc7 => ?_
    ·
      refine wpM_regionK [0,1,5,6] rfl fun Q1 hQ1 => ?_
      refine S_ ?_
      refine call_fn (l := [(id, rdObj bs (q' + 1))]) (first := []) (cap := []) (ps := [.ptr id 0, .int .i64 3]) (l3Expr_ok id bs hbs 2 (q' + 1) 3 (by omega) (by omega) (by omega) (by omega)) Tryz.call78 rfl rfl rfl G_ T_ ?_
      rintro out ⟨_, q1, ⟨e, hes, rfl⟩, hqc, hqd, rfl⟩
      refine S_ ?_
      refine call_fn (l := [(id, rdObj bs q1)]) (first := []) (cap := []) (ps := [.ptr id 0, .int .i64 (dep - 1)]) (ih q1 (dep - 1) (by omega) (by omega) (by omega) (by omega)) Tryz.call92 rfl rfl rfl G_ T_ ?_
      rintro out ⟨z1, l1, q2, ⟨⟩, hsz1, hqe, hqf, rfl⟩
      refine S_ ?_
      refine call_fn (l := [(id, rdObj bs q2)]) (first := []) (cap := []) (ps := [.ptr id 0, .int .i64 (dep - 2)]) (ih q2 (dep - 2) (by omega) (by omega) (by omega) (by omega)) Tryz.call92 rfl rfl rfl G_ T_ ?_
      rintro out ⟨z2, l2, q3, ⟨⟩, hsz2, hqg, hqh, rfl⟩
      refine S_ ?_
      refine hQ1 _ _ (S_ ?_);clear hQ1 Q1
      have hszn : Sm.szL (l ++ [(Sm.mk 2 ⟨0, 0⟩ e l1 l2)]) + r * C ≤ 3 * C := by
        rw [Sm.szL_app]
        have : Sm.sz (Sm.mk 2 ⟨0, 0⟩ e l1 l2) ≤ C := by simp only [Sm.sz]; omega
        omega
      have hqn1 : q + 1 ≤ q3 := by omega
      have hqn2 : q3 + (r : Int) * D ≤ q + 1 + 3 * D := by omega
      have hYn1 : B ≤ M + 3 := by omega
      refine wpM_frz [M, M + 1] [(45, M, 0, l1.length, Sm.csL l1), (45, M + 1, 0, l2.length, Sm.csL l2)] (by intro q hq; simp at hq; rcases hq with rfl | rfl <;> simp -implicitDefEqProofs (disch := omega) only [go_sem]) (by intro q hq; simp only [List.mem_cons, List.not_mem_nil, or_false] at hq; rcases hq with rfl | rfl <;> exact ⟨by simp, rowsOf_smc (T := 45) T_ rfl⟩) ?_
      refine S_ ?_
      refine wpM_le [(0, .ptr id 0), (1, .int .i64 dep), (5, .sl 45 (M + 3) 0 (l.length + 1)), (6, .int .i64 ((r + 1 : Nat) : Int))] [(M + 3, .cells 45 (smc (l ++ [(Sm.mk 2 ⟨0, 0⟩ e l1 l2)]))), (id, rdObj bs (q3))] T_ T_ T_ ?_
      rw [show l.length + 1 = (l ++ [(Sm.mk 2 ⟨0, 0⟩ e l1 l2)]).length from by simp]
      generalize hln : l ++ [(Sm.mk 2 ⟨0, 0⟩ e l1 l2)] = ln at *
      generalize hqn : q3 = qn at *
      generalize hYn : M + 3 = Yn at *
      refine g_ [0,1,5,6] ?_
      try rw [show (((r + 1 : Nat) : Int) - 1) = (r : Int) from by omega]
      refine .of' _ _ ⟨r, by omega, ln, qn, _, Yn, by omega, hszn, hqn1, hqn2, hYn1, ?_, rfl⟩ ?_ ?_ ?_
      · dsimp only; omega
      all_goals exact L_
    refine g_ [0,1,5,6,19,45] ?_
    refine c_ (fun hc8 => ?_) fun hc8 => ?_
    ·
      refine g_ [0,1,5,6,48] ?_
      refine c_ (fun hc9 => ?_) fun hc9 => ?_
      ·
        refine wpM_regionK [0,1,5,6] rfl fun Q1 hQ1 => ?_
        refine S_ ?_
        refine call_fn (l := [(id, rdObj bs (q' + 1))]) (first := []) (cap := []) (ps := [.ptr id 0]) (l4Count_ok id bs (q' + 1) hbs (by omega) (by omega)) Tryz.call94 rfl rfl rfl G_ T_ ?_
        rintro out ⟨_, q1, ⟨s, hss, rfl⟩, hqc, hqd, rfl⟩
        refine S_ ?_
        refine hQ1 _ _ (S_ ?_);clear hQ1 Q1
        have hszn : Sm.szL (l ++ [s]) + r * C ≤ 3 * C := by
          rw [Sm.szL_app]
          have : Sm.sz s ≤ C := by omega
          omega
        have hqn1 : q + 1 ≤ q1 := by omega
        have hqn2 : q1 + (r : Int) * D ≤ q + 1 + 3 * D := by omega
        have hYn1 : B ≤ M + 1 := by omega
        refine wpM_le [(0, .ptr id 0), (1, .int .i64 dep), (5, .sl 45 (M + 1) 0 (l.length + 1)), (6, .int .i64 ((r + 1 : Nat) : Int))] [(M + 1, .cells 45 (smc (l ++ [s]))), (id, rdObj bs (q1))] T_ T_ T_ ?_
        rw [show l.length + 1 = (l ++ [s]).length from by simp]
        generalize hln : l ++ [s] = ln at *
        generalize hqn : q1 = qn at *
        generalize hYn : M + 1 = Yn at *
        refine g_ [0,1,5,6] ?_
        try rw [show (((r + 1 : Nat) : Int) - 1) = (r : Int) from by omega]
        refine .of' _ _ ⟨r, by omega, ln, qn, _, Yn, by omega, hszn, hqn1, hqn2, hYn1, ?_, rfl⟩ ?_ ?_ ?_
        · dsimp only; omega
        all_goals exact L_
      have hszn : Sm.szL l + r * C ≤ 3 * C := by omega
      have hqn1 : q + 1 ≤ q' + 1 := by omega
      have hqn2 : q' + 1 + (r : Int) * D ≤ q + 1 + 3 * D := by omega
      have hYn1 : B ≤ Y := hBY
      generalize hln : l = ln at *
      generalize hqn : q' + 1 = qn at *
      generalize hYn : Y = Yn at *
      refine g_ [0,1,5,6] ?_
      try rw [show (((r + 1 : Nat) : Int) - 1) = (r : Int) from by omega]
      refine .of' _ _ ⟨r, by omega, ln, qn, _, Yn, by omega, hszn, hqn1, hqn2, hYn1, ?_, rfl⟩ ?_ ?_ ?_
      · dsimp only; omega
      all_goals exact L_
    refine g_ [0,1,5,6,54] ?_
    refine c_ (fun hc10 => ?_) fun hc10 => ?_
    ·
      refine n_ ?_
      refine wpM_regionK [0,1,5,6,58] rfl fun Q1 hQ1 => ?_
      refine S_ ?_
      refine call_fn (l := [(id, rdObj bs (q' + 1))]) (first := []) (cap := []) (ps := [.ptr id 0, .int .i64 3]) (pick_ok id bs (q' + 1) 3 hbs (by omega) (by omega) (by omega)) Tryz.call44 rfl rfl rfl G_ T_ ?_
      rintro out ⟨k2, rfl, h21, h22, h23⟩
      refine S_ ?_
      refine hQ1 _ _ (S_ ?_);clear hQ1 Q1
      refine c_ (fun hc11 => ?_) fun hc11 => ?_
      ·
        refine wpM_regionK [0,1,5,6] rfl fun Q1 hQ1 => ?_
        refine S_ ?_
        refine call_fn (l := [(id, rdObj bs (q' + 1 + 1))]) (first := []) (cap := []) (ps := [.ptr id 0, .int .i64 2]) (l3Expr_ok id bs hbs 1 (q' + 1 + 1) 2 (by omega) (by omega) (by omega) (by omega)) Tryz.call78 rfl rfl rfl G_ T_ ?_
        rintro out ⟨_, q1, ⟨e, hes, rfl⟩, hqc, hqd, rfl⟩
        refine S_ ?_
        refine call_fn (l := [(id, rdObj bs q1)]) (first := []) (cap := []) (ps := [.ptr id 0, .int .i64 (dep - 1)]) (ih q1 (dep - 1) (by omega) (by omega) (by omega) (by omega)) Tryz.call92 rfl rfl rfl G_ T_ ?_
        rintro out ⟨z1, l1, q2, ⟨⟩, hsz1, hqe, hqf, rfl⟩
        refine S_ ?_
        refine hQ1 _ _ (S_ ?_);clear hQ1 Q1
        have hszn : Sm.szL (l ++ [(Sm.mk 3 ⟨0, 0⟩ e l1 [])]) + r * C ≤ 3 * C := by
          rw [Sm.szL_app]
          have : Sm.sz (Sm.mk 3 ⟨0, 0⟩ e l1 []) ≤ C := by simp only [Sm.sz, Sm.szL]; omega
          omega
        have hqn1 : q + 1 ≤ q2 := by omega
        have hqn2 : q2 + (r : Int) * D ≤ q + 1 + 3 * D := by omega
        have hYn1 : B ≤ M + 2 := by omega
        refine wpM_frz [M] [(45, M, 0, l1.length, Sm.csL l1)] (by intro q hq; simp at hq; rcases hq with rfl <;> simp -implicitDefEqProofs (disch := omega) only [go_sem]) (by intro q hq; simp only [List.mem_cons, List.not_mem_nil, or_false] at hq; rcases hq with rfl <;> exact ⟨by simp, rowsOf_smc (T := 45) T_ rfl⟩) ?_
        refine S_ ?_
        refine wpM_le [(0, .ptr id 0), (1, .int .i64 dep), (5, .sl 45 (M + 2) 0 (l.length + 1)), (6, .int .i64 ((r + 1 : Nat) : Int))] [(M + 2, .cells 45 (smc (l ++ [(Sm.mk 3 ⟨0, 0⟩ e l1 [])]))), (id, rdObj bs (q2))] T_ T_ T_ ?_
        rw [show l.length + 1 = (l ++ [(Sm.mk 3 ⟨0, 0⟩ e l1 [])]).length from by simp]
        generalize hln : l ++ [(Sm.mk 3 ⟨0, 0⟩ e l1 [])] = ln at *
        generalize hqn : q2 = qn at *
        generalize hYn : M + 2 = Yn at *
        refine g_ [0,1,5,6] ?_
        try rw [show (((r + 1 : Nat) : Int) - 1) = (r : Int) from by omega]
        refine .of' _ _ ⟨r, by omega, ln, qn, _, Yn, by omega, hszn, hqn1, hqn2, hYn1, ?_, rfl⟩ ?_ ?_ ?_
        · dsimp only; omega
        all_goals exact L_
      have hszn : Sm.szL l + r * C ≤ 3 * C := by omega
      have hqn1 : q + 1 ≤ q' + 1 + 1 := by omega
      have hqn2 : q' + 1 + 1 + (r : Int) * D ≤ q + 1 + 3 * D := by omega
      have hYn1 : B ≤ Y := hBY
      generalize hln : l = ln at *
      generalize hqn : q' + 1 + 1 = qn at *
      generalize hYn : Y = Yn at *
      refine g_ [0,1,5,6] ?_
      try rw [show (((r + 1 : Nat) : Int) - 1) = (r : Int) from by omega]
      refine .of' _ _ ⟨r, by omega, ln, qn, _, Yn, by omega, hszn, hqn1, hqn2, hYn1, ?_, rfl⟩ ?_ ?_ ?_
      · dsimp only; omega
      all_goals exact L_
    refine wpM_regionK [0,1,5,6] rfl fun Q1 hQ1 => ?_
    refine S_ ?_
    refine call_fn (l := [(id, rdObj bs (q' + 1))]) (first := []) (cap := []) (ps := [.ptr id 0]) (l2To_ok id bs (q' + 1) hbs (by omega) (by omega)) Tryz.call107 rfl rfl rfl G_ T_ ?_
    rintro out ⟨_, q1, ⟨a, rfl⟩, hqc, hqd, rfl⟩
    refine S_ ?_
    refine call_fn (l := [(id, rdObj bs q1)]) (first := []) (cap := []) (ps := [.ptr id 0, .int .i64 3]) (l3Expr_ok id bs hbs 2 q1 3 (by omega) (by omega) (by omega) (by omega)) Tryz.call78 rfl rfl rfl G_ T_ ?_
    rintro out ⟨_, q2, ⟨e, hes, rfl⟩, hqe, hqf, rfl⟩
    refine S_ ?_
    refine hQ1 _ _ (S_ ?_);clear hQ1 Q1
    have hszn : Sm.szL (l ++ [(Sm.mk 1 a e [] [])]) + r * C ≤ 3 * C := by
      rw [Sm.szL_app]
      have : Sm.sz (Sm.mk 1 a e [] []) ≤ C := by simp only [Sm.sz, Sm.szL]; omega
      omega
    have hqn1 : q + 1 ≤ q2 := by omega
    have hqn2 : q2 + (r : Int) * D ≤ q + 1 + 3 * D := by omega
    have hYn1 : B ≤ M + 1 := by omega
    refine wpM_le [(0, .ptr id 0), (1, .int .i64 dep), (5, .sl 45 (M + 1) 0 (l.length + 1)), (6, .int .i64 ((r + 1 : Nat) : Int))] [(M + 1, .cells 45 (smc (l ++ [(Sm.mk 1 a e [] [])]))), (id, rdObj bs (q2))] T_ T_ T_ ?_
    rw [show l.length + 1 = (l ++ [(Sm.mk 1 a e [] [])]).length from by simp]
    generalize hln : l ++ [(Sm.mk 1 a e [] [])] = ln at *
    generalize hqn : q2 = qn at *
    generalize hYn : M + 1 = Yn at *
    refine g_ [0,1,5,6] ?_
    try rw [show (((r + 1 : Nat) : Int) - 1) = (r : Int) from by omega]
    refine .of' _ _ ⟨r, by omega, ln, qn, _, Yn, by omega, hszn, hqn1, hqn2, hYn1, ?_, rfl⟩ ?_ ?_ ?_
    · dsimp only; omega
    all_goals exact L_
  refine g_ [4] ?_
  refine wpM_ret ?_
  try refine S_ ?_
  have hrD0 : 0 ≤ (r : Int) * D := Int.mul_nonneg (by omega) (by omega)
  refine hQ _ _ (retK [Y] [(id, some (rdObj bs q'))] [(z, .cells 45 (smc l))] rfl rfl rfl (by rw [Tryz.results92] <;> simp (maxSteps := 1000000) -implicitDefEqProofs (disch := omega) only [go_sem] <;> rfl) ?_ ⟨z, l, q', rfl, by omega, by omega, by omega, rfl⟩ ?_ ?_ ?_ ?_ ?_ ?_)
  all_goals (simp -implicitDefEqProofs (disch := omega) only [go_sem, rdObj, List.nodup_cons, List.nodup_nil, true_or, or_true, List.mem_cons, List.not_mem_nil] <;> omega)
def lb : Nat → Int
  | 0 => 211
  | d + 1 => 1 + 3 * (70 + 2 * lb d)
def ls : Nat → Nat
  | 0 => 204
  | d + 1 => 3 * (68 + 2 * ls d)
theorem lb_pos : ∀ d, 0 ≤ lb d
  | 0 => by simp [lb]
  | d + 1 => by have := lb_pos d; simp only [lb]; omega
theorem l4List_ok (id : Nat) (bs : List Nat) (hbs : Bs bs) (d : Nat) (hd : ls d ≤ 1000000) : ∀ (q dep : Int), 0 ≤ q → q + lb d ≤ 1000000000000 → dep ≤ d → -1000000 ≤ dep → ListD (ls d) (lb d) id bs q dep := by
  induction d with
  | zero =>
    intro q dep h1 h2 h3 h4
    exact list_step 0 0 id bs q dep hbs (by omega) (by omega) h1 h2 (by omega) h4 (fun h => by exfalso; omega)
  | succ d ih =>
    intro q dep h1 h2 h3 h4
    have hl : ls (d + 1) = 3 * (68 + 2 * ls d) := rfl
    have hb : lb (d + 1) = 1 + 3 * (70 + 2 * lb d) := rfl
    have hd1 : d + 1 ≤ 1000000 := by
      have : ∀ n, n ≤ ls n := by
        intro n
        induction n with
        | zero => simp
        | succ n ihn => simp only [ls]; omega
      have := this (d + 1)
      omega
    exact list_step (ls d) (lb d) id bs q dep hbs (by omega) (lb_pos d) h1 h2 (by omega) h4 (fun h q' dep' g1 g2 g3 g4 => ih (by omega) q' dep' g3 g4 (by omega) (by omega))
end Go.Proofs.YtmicbfojofcigaaGreat
namespace Go.Proofs.YtmicbfojofcigaaGreat
open Go Sg
set_option linter.unusedSectionVars false
variable [Glob]
set_option maxRecDepth 100000
set_option linter.unusedSimpArgs false
set_option linter.unusedVariables false
set_option maxHeartbeats 4000000
theorem splice_mid (a b c : List PV) (off : Nat) (v : List PV) (h : off + v.length ≤ b.length) : splice (a ++ (b ++ c)) (a.length + off) v = a ++ (splice b off v ++ c) := by
  simp only [splice]
  rw [List.take_append, List.take_of_length_le (by omega : a.length ≤ a.length + off), show a.length + off - a.length = off by omega, List.take_append_of_le_length (by omega),
    List.drop_append, List.drop_of_length_le (by omega : a.length ≤ a.length + off + v.length), show a.length + off + v.length - a.length = off + v.length by omega, List.nil_append, List.drop_append_of_le_length h]
  simp
theorem smc_split (l : List Sm) (k : Nat) (h : k < l.length) (s : Sm) : smc (l.set k s) = smc (l.take k) ++ (s.cs ++ smc (l.drop (k + 1))) := by
  rw [List.set_eq_take_append_cons_drop, if_pos h]
  simp [smc, Sm.csL_map]
theorem smc_at (l : List Sm) (k : Nat) (h : k < l.length) : smc l = smc (l.take k) ++ ((l.getD k default).cs ++ smc (l.drop (k + 1))) := by
  have e : l.set k (l.getD k default) = l := by simp [List.getD, h]
  rw [← smc_split l k h, e]
theorem smc_splice (l : List Sm) (k : Nat) (h : k < l.length) (off : Nat) (v : List PV) (s : Sm) (ho : off + v.length ≤ 10) (hs : splice (l.getD k default).cs off v = s.cs) : splice (smc l) (k * 10 + off) v = smc (l.set k s) := by
  have hl : (smc (l.take k)).length = k * 10 := by rw [smc_len, List.length_take, Nat.min_eq_left (by omega)]
  rw [smc_split l k h, ← hs]
  conv => lhs; rw [smc_at l k h, ← hl]
  exact splice_mid _ _ _ _ _ (by rw [Sm.cs_eq]; exact ho)
theorem szL_set (l : List Sm) (k : Nat) (h : k < l.length) (s : Sm) (m : Nat) (hs : s.sz ≤ (l.getD k default).sz + m) : Sm.szL (l.set k s) ≤ Sm.szL l + m := by
  induction l generalizing k with
  | nil => simp at h
  | cons x l ih =>
    cases k with
    | zero => simp only [List.set_cons_zero, Sm.szL, List.getD_cons_zero] at hs ⊢; omega
    | succ k => simp only [List.set_cons_succ, Sm.szL, List.getD_cons_succ] at hs ⊢; have := ih k (by simpa using h) hs; omega
def SomeP (f : Nat) (N : Nat) (L : Int) (id : Nat) (bs : List Nat) (q : Int) : Prop :=
  CallF Tryz.prog f [.ptr id 0] [(id, rdObj bs q)] 1 (fun ns o => ∃ z l q', ns = [z] ∧ Sm.szL l ≤ N ∧ q ≤ q' ∧ q' ≤ q + L ∧ o = { rs := [.sl 45 z 0 l.length], u := [(id, some (rdObj bs q'))], nw := [(z, .cells 45 (smc l))] })
theorem stmtsOk_sl (z : Nat) (l : List Sm) (hs : Sm.szL l ≤ 1099511627776) : CallF Tryz.prog 93 [.sl 45 z 0 l.length] [(z, .cells 45 (smc l))] 0 (fun _ o => o = { rs := [.bool (okS l)] }) := by
  refine CallF.borrow [(45, z, 0, l.length, Sm.csL l)] rfl rfl (by intro q hq; simp only [List.mem_cons, List.not_mem_nil, or_false] at hq; subst hq; exact rowsOf_smc (T := 45) (by simp [lk]) rfl) ?_
  have := stmtsOk_ok l hs
  simp -implicitDefEqProofs (disch := omega) only [go_sem]
  exact this
theorem l4Some_ok (id : Nat) (bs : List Nat) (q : Int) (hbs : Bs bs) (hq0 : 0 ≤ q) (hq : q + 60000 ≤ 1000000000000) : SomeP 63 60000 60000 id bs q := by
  refine callF_of' Tryz.func63 rfl Tryz.ntmps63 (by simp) ?_
  intro f0 B ns Q hB hns hQ
  have hid : id < B := hB id (by simp [hasKey, lk])
  obtain ⟨z, rfl⟩ : ∃ z, ns = [z] := by
    match ns, hns with
    | [z], _ => exact ⟨z, rfl⟩
  have h3 : lb 3 = 54649 := rfl
  have h4 : ls 3 = 52836 := rfl
  refine g_ [0] ?_
  refine n_ ?_
  refine wpM_regionK [0,3] rfl fun Q1 hQ1 => ?_
  refine S_ ?_
  refine call_fn (l := [(id, rdObj bs q)]) (first := []) (cap := []) (ps := [.ptr id 0, .int .i64 3]) (l4List_ok id bs hbs 3 (by omega) q 3 (by omega) (by omega) (by omega) (by omega)) Tryz.call92 rfl rfl rfl G_ T_ ?_
  rintro out ⟨z', l, q', ⟨⟩, hsz, hqa, hqb, rfl⟩
  refine S_ ?_
  refine hQ1 _ _ (S_ ?_);clear hQ1 Q1
  refine n_ ?_
  refine wpM_regionK [0,3,8] rfl fun Q1 hQ1 => ?_
  refine S_ ?_
  refine call_fn (l := [(B, .cells 45 (smc l))]) (first := []) (cap := []) (ps := [.sl 45 B 0 l.length]) (stmtsOk_sl B l (by omega)) Tryz.call93 rfl rfl rfl G_ T_ ?_
  rintro out rfl
  refine S_ ?_
  refine hQ1 _ _ (S_ ?_);clear hQ1 Q1
  refine c_ (fun hc0 => ?_) fun hc0 => ?_
  ·
    refine n_ ?_
    refine wpM_regionK [2] rfl fun Q1 hQ1 => ?_
    refine S_ ?_
    refine call_fn (l := [(id, rdObj bs q')]) (first := []) (cap := []) (ps := [.ptr id 0]) (l4Count_ok id bs q' hbs (by omega) (by omega)) Tryz.call94 rfl rfl rfl G_ T_ ?_
    rintro out ⟨_, q2, ⟨s, hs, rfl⟩, hqc, hqd, rfl⟩
    refine S_ ?_
    refine hQ1 _ _ (S_ ?_);clear hQ1 Q1
    refine wpM_ret ?_
    try refine S_ ?_
    have e1 : [PV.int .i64 s.kind, .int .i64 s.to'.kind, .int .i64 s.to'.at', .int .i64 s.e.kind, .int .i64 s.e.n, .int .i64 s.e.a.kind, .int .i64 s.e.a.at', .rows 27 (Ex.csL s.e.kids), .rows 45 (Sm.csL s.th), .rows 45 (Sm.csL s.el)] = smc [s] := by rw [← smc_one, Sm.cs_eq]
    rw [e1]
    refine hQ _ _ (retK [B + 1] [(id, some (rdObj bs q2))] [(z, .cells 45 (smc [s]))] rfl rfl rfl (by rw [Tryz.results63] <;> simp (maxSteps := 1000000) -implicitDefEqProofs (disch := omega) only [go_sem] <;> rfl) ?_ ⟨z, [s], q2, rfl, by simp [Sm.szL]; omega, by omega, by omega, rfl⟩ ?_ ?_ ?_ ?_ ?_ ?_)
    all_goals (first | (simp -implicitDefEqProofs (disch := omega) only [go_sem, rdObj, List.nodup_cons, List.nodup_nil, true_or, or_true, List.mem_cons, List.not_mem_nil]; done) | (simp -implicitDefEqProofs (disch := omega) only [go_sem, rdObj, List.nodup_cons, List.nodup_nil, true_or, or_true, List.mem_cons, List.not_mem_nil]; first | omega | rfl))
  refine g_ [2] ?_
  refine wpM_ret ?_
  try refine S_ ?_
  refine hQ _ _ (retK [B] [(id, some (rdObj bs q'))] [(z, .cells 45 (smc l))] rfl rfl rfl (by rw [Tryz.results63] <;> simp (maxSteps := 1000000) -implicitDefEqProofs (disch := omega) only [go_sem] <;> rfl) ?_ ⟨z, l, q', rfl, by omega, by omega, by omega, rfl⟩ ?_ ?_ ?_ ?_ ?_ ?_)
  all_goals (simp -implicitDefEqProofs (disch := omega) only [go_sem, rdObj, List.nodup_cons, List.nodup_nil, true_or, or_true, List.mem_cons, List.not_mem_nil] <;> omega)
end Go.Proofs.YtmicbfojofcigaaGreat
namespace Go.Proofs.YtmicbfojofcigaaGreat
open Go Sg
set_option linter.unusedSectionVars false
variable [Glob]
set_option maxRecDepth 100000
set_option linter.unusedSimpArgs false
set_option linter.unusedVariables false
set_option maxHeartbeats 4000000
structure DRun (m : MM) (l : List Sm) (F : Int) : Prop where
  m : m.Sm
  l : Sm.szL l ≤ 1000000
  F0 : -1 ≤ F
  F1 : F ≤ 101
end Go.Proofs.YtmicbfojofcigaaGreat
namespace Go.Proofs.YtmicbfojofcigaaGreat
open Go Sg
set_option linter.unusedSectionVars false
variable [Glob]
set_option maxRecDepth 100000
set_option linter.unusedSimpArgs false
set_option linter.unusedVariables false
set_option maxHeartbeats 4000000
theorem icut_ok (n : Int) : PureF Tryz.prog 168 [.int .i64 n] [.int .i64 (cut n)] := by
  refine pureF_of Tryz.func168 rfl Tryz.ntmps168 (by simp) T_ ?_
  intro f0 B Q hQ
  refine g_ [0] ?_
  refine g_ [2] ?_
  refine e_ Tryz.results168 ?_
  first
  | exact True.intro
  | unfold cut; omega
def isNum (n : Int) : Bool := decide (n ≥ -1000000) && decide (n ≤ 1000000)
theorem isNum_cut (n : Int) : isNum n = (cut n == n) := by
  unfold isNum cut
  rw [Bool.eq_iff_iff]
  simp only [Bool.and_eq_true, decide_eq_true_eq, beq_iff_eq]
  omega
theorem isNum_ok (n : Int) : PureF Tryz.prog 61 [.int .i64 n] [.bool (isNum n)] := by
  refine pureF_of Tryz.func61 rfl Tryz.ntmps61 (by simp) T_ ?_
  intro f0 B Q hQ
  refine g_ [0] ?_
  refine gD_ [2] ?_
  refine e_ Tryz.results61 ?_
  first
  | exact True.intro
  | rfl
theorem iis_ok (b : Bool) : PureF Tryz.prog 165 [.bool b] [.int .i64 (numIs b)] := by
  refine pureF_of Tryz.func165 rfl Tryz.ntmps165 (by simp) T_ ?_
  intro f0 B Q hQ
  refine g_ [0] ?_
  refine g_ [3] ?_
  refine c_ (fun hc0 => ?_) fun hc0 => ?_
  ·
    refine g_ [2] ?_
    refine e_ Tryz.results165 ?_
    first
    | exact True.intro
    | simp [numIs, *]
  refine g_ [2] ?_
  refine e_ Tryz.results165 ?_
  first
  | exact True.intro
  | simp [numIs, *]
theorem ion_ok (a : Int) : PureF Tryz.prog 166 [.int .i64 a] [.bool (a != 0)] := by
  refine pureF_of Tryz.func166 rfl Tryz.ntmps166 (by simp) T_ ?_
  intro f0 B Q hQ
  refine g_ [0] ?_
  refine g_ [2] ?_
  refine e_ Tryz.results166 ?_
  first
  | exact True.intro
  | rfl
theorem iaddrOk_ok (a : AD) : PureF Tryz.prog 96 [.agg a.cs] [.bool a.ok] := by
  refine pureF_of Tryz.func96 rfl Tryz.ntmps96 (by simp) T_ ?_
  intro f0 B Q hQ
  refine g_ [1] ?_
  refine gD_ [2] ?_
  refine e_ Tryz.results96 ?_
  first
  | exact True.intro
  | rfl
def isTwo (k : Int) : Bool := decide (k ≥ 3) && decide (k ≤ 9)
theorem isTwo_ok (k : Int) : PureF Tryz.prog 58 [.int .i64 k] [.bool (isTwo k)] := by
  refine pureF_of Tryz.func58 rfl Tryz.ntmps58 (by simp) T_ ?_
  intro f0 B Q hQ
  refine g_ [0] ?_
  refine gD_ [2] ?_
  refine e_ Tryz.results58 ?_
  first
  | exact True.intro
  | rfl
def recOf (k : Int) : PV := if k == 1 then .iface 95 (.agg []) else if k == 2 then .iface 96 (.agg []) else if isTwo k then .iface 97 (.agg []) else if k == 10 then .iface 98 (.agg []) else .nilif
@[go_sem] theorem buildA_numReckoning : buildA Tryz.prog 95 [] = some (.agg []) := buildA_of (pl := []) (z := []) zeroA95 (placesA_struct Tryz.underlying95 rfl rfl) []
@[go_sem] theorem buildA_addrReckoning : buildA Tryz.prog 96 [] = some (.agg []) := buildA_of (pl := []) (z := []) zeroA96 (placesA_struct Tryz.underlying96 rfl rfl) []
@[go_sem] theorem buildA_twoReckoning : buildA Tryz.prog 97 [] = some (.agg []) := buildA_of (pl := []) (z := []) zeroA97 (placesA_struct Tryz.underlying97 rfl rfl) []
@[go_sem] theorem buildA_notReckoning : buildA Tryz.prog 98 [] = some (.agg []) := buildA_of (pl := []) (z := []) zeroA98 (placesA_struct Tryz.underlying98 rfl rfl) []
theorem recOf_pure (k : Int) : (recOf k).pure = true := by
  unfold recOf
  repeat' split
  all_goals rfl
theorem recOf_ok (k : Int) : PureF Tryz.prog 31 [.int .i64 k] [recOf k] := by
  refine pureF_of Tryz.func31 rfl Tryz.ntmps31 (by simp) (by simp [PV.pureL, recOf_pure]) ?_
  intro f0 B Q hQ
  refine g_ [0] ?_
  refine g_ [0,3] ?_
  refine c_ (fun hc0 => ?_) fun hc0 => ?_
  ·
    refine g_ [2] ?_
    refine e_ Tryz.results31 ?_
    first
    | exact True.intro
    | simp only [recOf, *, ↓reduceIte, Bool.false_eq_true]
  refine g_ [0,8] ?_
  refine c_ (fun hc1 => ?_) fun hc1 => ?_
  ·
    refine g_ [2] ?_
    refine e_ Tryz.results31 ?_
    first
    | exact True.intro
    | simp only [recOf, *, ↓reduceIte, Bool.false_eq_true]
  refine n_ ?_
  refine wpM_regionK [0,13] rfl fun Q1 hQ1 => ?_
  refine S_ ?_
  refine cp_ (isTwo_ok k) Tryz.call58 ?_
  refine hQ1 _ _ (S_ ?_);clear hQ1 Q1
  refine c_ (fun hc2 => ?_) fun hc2 => ?_
  ·
    refine g_ [2] ?_
    refine e_ Tryz.results31 ?_
    first
    | exact True.intro
    | simp only [recOf, *, ↓reduceIte, Bool.false_eq_true]
  refine g_ [18] ?_
  refine c_ (fun hc3 => ?_) fun hc3 => ?_
  ·
    refine g_ [2] ?_
    refine e_ Tryz.results31 ?_
    first
    | exact True.intro
    | simp only [recOf, *, ↓reduceIte, Bool.false_eq_true]
  refine g_ [2] ?_
  refine e_ Tryz.results31 ?_
  first
  | exact True.intro
  | simp only [recOf, *, ↓reduceIte, Bool.false_eq_true]
theorem kids1_ok : PureF Tryz.prog 131 [.agg []] [.int .i64 0] := by
  refine pureF_of Tryz.func131 rfl Tryz.ntmps131 (by simp) T_ ?_
  intro f0 B Q hQ
  refine g_ [] ?_
  refine g_ [2] ?_
  refine e_ Tryz.results131 ?_
  first
  | exact True.intro
  | rfl
theorem kids2_ok : PureF Tryz.prog 149 [.agg []] [.int .i64 0] := by
  refine pureF_of Tryz.func149 rfl Tryz.ntmps149 (by simp) T_ ?_
  intro f0 B Q hQ
  refine g_ [] ?_
  refine g_ [2] ?_
  refine e_ Tryz.results149 ?_
  first
  | exact True.intro
  | rfl
theorem kids3_ok : PureF Tryz.prog 156 [.agg []] [.int .i64 2] := by
  refine pureF_of Tryz.func156 rfl Tryz.ntmps156 (by simp) T_ ?_
  intro f0 B Q hQ
  refine g_ [] ?_
  refine g_ [2] ?_
  refine e_ Tryz.results156 ?_
  first
  | exact True.intro
  | rfl
theorem kids4_ok : PureF Tryz.prog 169 [.agg []] [.int .i64 1] := by
  refine pureF_of Tryz.func169 rfl Tryz.ntmps169 (by simp) T_ ?_
  intro f0 B Q hQ
  refine g_ [] ?_
  refine g_ [2] ?_
  refine e_ Tryz.results169 ?_
  first
  | exact True.intro
  | rfl
def noAddr (e : Ex) : Bool := e.a.kind == 0 && e.a.at' == 0
theorem shape1_ok (e : Ex) : PureF Tryz.prog 133 [.agg [], .agg e.cs] [.bool (isNum e.n && noAddr e)] := by
  refine pureF_of Tryz.func133 rfl Tryz.ntmps133 (by simp) T_ ?_
  intro f0 B Q hQ
  refine g_ [3] ?_
  refine n_ ?_
  refine wpM_regionK [4] rfl fun Q1 hQ1 => ?_
  refine SD_ ?_
  refine cpD_ (isNum_ok e.n) Tryz.call61 ?_
  refine hQ1 _ _ (S_ ?_);clear hQ1 Q1
  refine e_ Tryz.results133 ?_
  first
  | exact True.intro
  | rfl
theorem shape2_ok (e : Ex) : PureF Tryz.prog 151 [.agg [], .agg e.cs] [.bool (e.a.ok && e.n == 0)] := by
  refine pureF_of Tryz.func151 rfl Tryz.ntmps151 (by simp) T_ ?_
  intro f0 B Q hQ
  refine g_ [3] ?_
  refine n_ ?_
  refine wpM_regionK [4] rfl fun Q1 hQ1 => ?_
  refine SD_ ?_
  refine cpD_ (iaddrOk_ok e.a) Tryz.call96 ?_
  refine hQ1 _ _ (S_ ?_);clear hQ1 Q1
  refine e_ Tryz.results151 ?_
  first
  | exact True.intro
  | rfl
theorem shape3_ok (e : Ex) : PureF Tryz.prog 158 [.agg [], .agg e.cs] [.bool (e.n == 0 && noAddr e)] := by
  refine pureF_of Tryz.func158 rfl Tryz.ntmps158 (by simp) T_ ?_
  intro f0 B Q hQ
  refine g_ [3] ?_
  refine gD_ [4] ?_
  refine e_ Tryz.results158 ?_
  first
  | exact True.intro
  | rfl
theorem shape4_ok (e : Ex) : PureF Tryz.prog 171 [.agg [], .agg e.cs] [.bool (e.n == 0 && noAddr e)] := by
  refine pureF_of Tryz.func171 rfl Tryz.ntmps171 (by simp) T_ ?_
  intro f0 B Q hQ
  refine g_ [3] ?_
  refine gD_ [4] ?_
  refine e_ Tryz.results171 ?_
  first
  | exact True.intro
  | rfl
theorem imaker_ok (k : Nat) (hk : k < 3) (a b : Int) : PureF Tryz.prog 167 [.int .i64 (k : Int), .int .i64 a, .int .i64 b] [.int .i64 (if k = 0 then cut (cut a + cut b) else if k = 1 then cut (cut a - cut b) else cut (cut a * cut b))] := by
  have ha := cut_bd a
  have hb := cut_bd b
  have hm := cut_mul a b
  refine pureF_of Tryz.func167 rfl Tryz.ntmps167 (by simp) T_ ?_
  intro f0 B Q hQ
  refine g_ [0,1,2] ?_
  refine n_ ?_
  refine wpM_regionK [0,1,2] rfl fun Q1 hQ1 => ?_
  refine S_ ?_
  refine cp_ (icut_ok a) Tryz.call168 ?_
  refine cp_ (icut_ok b) Tryz.call168 ?_
  refine hQ1 _ _ (S_ ?_);clear hQ1 Q1
  refine g_ [1,2,11] ?_
  refine g_ [1,2,11,12] ?_
  refine c_ (fun hc0 => ?_) fun hc0 => ?_
  ·
    refine n_ ?_
    refine wpM_regionK [6] rfl fun Q1 hQ1 => ?_
    refine S_ ?_
    refine cp_ (icut_ok (cut a + cut b)) Tryz.call168 ?_
    refine hQ1 _ _ (S_ ?_);clear hQ1 Q1
    refine e_ Tryz.results167 ?_
    first
    | exact True.intro
    | simp only [beq_iff_eq, beq_eq_false_iff_ne, ne_eq] at *
      have : k = 0 ∨ k = 1 ∨ k = 2 := by omega
      rcases this with rfl | rfl | rfl <;> simp_all
  refine g_ [1,2,18] ?_
  refine c_ (fun hc1 => ?_) fun hc1 => ?_
  ·
    refine n_ ?_
    refine wpM_regionK [6] rfl fun Q1 hQ1 => ?_
    refine S_ ?_
    refine cp_ (icut_ok (cut a - cut b)) Tryz.call168 ?_
    refine hQ1 _ _ (S_ ?_);clear hQ1 Q1
    refine e_ Tryz.results167 ?_
    first
    | exact True.intro
    | simp only [beq_iff_eq, beq_eq_false_iff_ne, ne_eq] at *
      have : k = 0 ∨ k = 1 ∨ k = 2 := by omega
      rcases this with rfl | rfl | rfl <;> simp_all
  refine n_ ?_
  refine wpM_regionK [6] rfl fun Q1 hQ1 => ?_
  refine S_ ?_
  refine cp_ (icut_ok (cut a * cut b)) Tryz.call168 ?_
  refine hQ1 _ _ (S_ ?_);clear hQ1 Q1
  refine e_ Tryz.results167 ?_
  first
  | exact True.intro
  | simp only [beq_iff_eq, beq_eq_false_iff_ne, ne_eq] at *
    have : k = 0 ∨ k = 1 ∨ k = 2 := by omega
    rcases this with rfl | rfl | rfl <;> simp_all
theorem iadd_ok (a b : Int) : PureF Tryz.prog 162 [.int .i64 a, .int .i64 b] [.int .i64 (cut (cut a + cut b))] := by
  refine pureF_of Tryz.func162 rfl Tryz.ntmps162 (by simp) T_ ?_
  intro f0 B Q hQ
  refine g_ [0,1] ?_
  refine n_ ?_
  refine wpM_regionK [4] rfl fun Q1 hQ1 => ?_
  refine S_ ?_
  refine cp_ (imaker_ok 0 (by omega) a b) Tryz.call167 ?_
  refine hQ1 _ _ (S_ ?_);clear hQ1 Q1
  refine e_ Tryz.results162 ?_
  first
  | exact True.intro
  | rfl
theorem isub_ok (a b : Int) : PureF Tryz.prog 163 [.int .i64 a, .int .i64 b] [.int .i64 (cut (cut a - cut b))] := by
  refine pureF_of Tryz.func163 rfl Tryz.ntmps163 (by simp) T_ ?_
  intro f0 B Q hQ
  refine g_ [0,1] ?_
  refine n_ ?_
  refine wpM_regionK [4] rfl fun Q1 hQ1 => ?_
  refine S_ ?_
  refine cp_ (imaker_ok 1 (by omega) a b) Tryz.call167 ?_
  refine hQ1 _ _ (S_ ?_);clear hQ1 Q1
  refine e_ Tryz.results163 ?_
  first
  | exact True.intro
  | rfl
theorem imul_ok (a b : Int) : PureF Tryz.prog 164 [.int .i64 a, .int .i64 b] [.int .i64 (cut (cut a * cut b))] := by
  refine pureF_of Tryz.func164 rfl Tryz.ntmps164 (by simp) T_ ?_
  intro f0 B Q hQ
  refine g_ [0,1] ?_
  refine n_ ?_
  refine wpM_regionK [4] rfl fun Q1 hQ1 => ?_
  refine S_ ?_
  refine cp_ (imaker_ok 2 (by omega) a b) Tryz.call167 ?_
  refine hQ1 _ _ (S_ ?_);clear hQ1 Q1
  refine e_ Tryz.results164 ?_
  first
  | exact True.intro
  | rfl
end Go.Proofs.YtmicbfojofcigaaGreat
namespace Go.Proofs.YtmicbfojofcigaaGreat
open Go Sg
set_option linter.unusedSectionVars false
variable [Glob]
set_option maxRecDepth 100000
set_option linter.unusedSimpArgs false
set_option linter.unusedVariables false
set_option maxHeartbeats 4000000
theorem ex_idsL (p : Nat → Prop) (e : Ex) : PV.idsL p e.cs = True := by rw [Ex.cs_eq]; simp [PV.idsL, PV.ids]
theorem parts_ok (e : Ex) : CallF Tryz.prog 30 [.agg e.cs] [] 1 (fun ns o => ∃ x, ns = [x] ∧ o = { rs := [.fn (.func 56) [] [.ptr x 0]], nw := [(x, .cells 27 e.cs)] }) := by
  refine callF_of' Tryz.func30 rfl Tryz.ntmps30 (by simp) ?_
  intro f0 B ns Q hB hns hQ
  obtain ⟨x, rfl⟩ : ∃ x, ns = [x] := by
    match ns, hns with
    | [x], _ => exact ⟨x, rfl⟩
  refine g_ [1] ?_
  refine g_ [2] ?_
  refine wpM_ret ?_
  try refine S_ ?_
  refine hQ _ _ (retK [B] [] [(x, .cells 27 e.cs)] rfl rfl rfl (by rw [Tryz.results30] <;> simp (maxSteps := 1000000) -implicitDefEqProofs (disch := omega) only [go_sem] <;> rfl) ?_ ⟨x, rfl, rfl⟩ ?_ ?_ ?_ ?_ ?_ ?_)
  all_goals (first | (simp -implicitDefEqProofs (disch := omega) only [go_sem, List.nodup_cons, List.nodup_nil, true_or, or_true, List.mem_cons, List.not_mem_nil]; done) | (simp -implicitDefEqProofs (disch := omega) only [go_sem, List.nodup_cons, List.nodup_nil, true_or, or_true, List.mem_cons, List.not_mem_nil]; omega))
def rfs : Code → List (Code × Code)
  | .seq a b | .cond _ a b => rfs a ++ rfs b
  | .block _ a | .loop a => rfs a
  | .rangeFunc _ _ a b => [(a, b)]
  | _ => []
def recNil (k : Int) : Bool := !(k == 1 || k == 2 || isTwo k || k == 10)
def kidsR (k : Int) : Int := if k == 10 then 1 else if isTwo k then 2 else 0
def shapeR (e : Ex) : Bool := if e.kind == 1 then isNum e.n && noAddr e else if e.kind == 2 then e.a.ok && e.n == 0 else e.n == 0 && noAddr e
@[go_sem] theorem eql_rec (x : Operand) (v : Value) (k : Int) : binOpA Tryz.prog .eql 59 x (.const v) (recOf k) .nilif = some (.bool (recNil k)) := by
  unfold recOf recNil
  cases h1 : k == 1 <;> cases h2 : k == 2 <;> cases h3 : isTwo k <;> cases h4 : k == 10 <;> simp [binOpA, eqPair, eqA, Tryz.underlying59, isConstOp]
@[go_sem] theorem isConstOp_const (v : Value) : isConstOp (.const v) = true := rfl
theorem rec_meth (k : Int) (hn : recNil k = false) : ∃ t fk fs, recOf k = .iface t (.agg []) ∧
    (∀ args w, (callFunc fk args).run Tryz.prog w = .ok (.enter fk args) w) ∧ (∀ (v : Value) w, (method (Tryz.prog.types.size + Made.depth) t v "loop.example/stopgate/impl.kids").run Tryz.prog w = .ok (fk, v) w) ∧ PureF Tryz.prog fk [.agg []] [.int .i64 (kidsR k)] ∧
    (∀ args w, (callFunc fs args).run Tryz.prog w = .ok (.enter fs args) w) ∧ (∀ (v : Value) w, (method (Tryz.prog.types.size + Made.depth) t v "loop.example/stopgate/impl.shape").run Tryz.prog w = .ok (fs, v) w) ∧ (∀ e : Ex, e.kind = k → PureF Tryz.prog fs [.agg [], .agg e.cs] [.bool (shapeR e)]) := by
  by_cases h1 : k = 1
  · subst h1
    refine ⟨95, 131, 133, rfl, Tryz.call131, method_run info95 Tryz.underlying95 (by simp) (by rfl) rfl rfl, kids1_ok, Tryz.call133, method_run info95 Tryz.underlying95 (by simp) (by rfl) rfl rfl, fun e he => ?_⟩
    have : shapeR e = (isNum e.n && noAddr e) := by simp [shapeR, he]
    rw [this]; exact shape1_ok e
  by_cases h2 : k = 2
  · subst h2
    refine ⟨96, 149, 151, rfl, Tryz.call149, method_run info96 Tryz.underlying96 (by simp) (by rfl) rfl rfl, kids2_ok, Tryz.call151, method_run info96 Tryz.underlying96 (by simp) (by rfl) rfl rfl, fun e he => ?_⟩
    have : shapeR e = (e.a.ok && e.n == 0) := by simp [shapeR, he]
    rw [this]; exact shape2_ok e
  by_cases h3 : isTwo k = true
  · have h10 : (k == 10) = false := by
      simp only [isTwo, Bool.and_eq_true, decide_eq_true_eq] at h3
      simp; omega
    have hk : kidsR k = 2 := by simp [kidsR, h3, h10]
    rw [hk]
    refine ⟨97, 156, 158, by simp [recOf, h1, h2, h3], Tryz.call156, method_run info97 Tryz.underlying97 (by simp) (by rfl) rfl rfl, kids3_ok, Tryz.call158, method_run info97 Tryz.underlying97 (by simp) (by rfl) rfl rfl, fun e he => ?_⟩
    have : shapeR e = (e.n == 0 && noAddr e) := by simp [shapeR, he, h1, h2]
    rw [this]; exact shape3_ok e
  have h10 : k = 10 := by
    simp only [Bool.not_eq_true] at h3
    simpa [recNil, h1, h2, h3] using hn
  subst h10
  refine ⟨98, 169, 171, rfl, Tryz.call169, method_run info98 Tryz.underlying98 (by simp) (by rfl) rfl rfl, kids4_ok, Tryz.call171, method_run info98 Tryz.underlying98 (by simp) (by rfl) rfl rfl, fun e he => ?_⟩
  have : shapeR e = (e.n == 0 && noAddr e) := by simp [shapeR, he]
  rw [this]; exact shape4_ok e
def badE (n : Int) (deep : Int) (e : Ex) : Bool := decide (n > 14) || decide (deep ≥ 6) || recNil e.kind || (e.kids.length : Int) != kidsR e.kind || !shapeR e
mutual
def vis : Ex → Nat → Nat → Option Nat
  | .mk k n a l, deep, c => if badE ((c : Int) + 1) (deep : Int) (.mk k n a l) then none else visL l (deep + 1) (c + 1)
def visL : List Ex → Nat → Nat → Option Nat
  | [], _, c => some c
  | e :: l, deep, c => match vis e deep c with
    | none => none
    | some c' => visL l deep c'
end
theorem vis_eq (e : Ex) (deep c : Nat) : vis e deep c = if badE ((c : Int) + 1) (deep : Int) e then none else visL e.kids (deep + 1) (c + 1) := by cases e; rfl
theorem visL_append (l l' : List Ex) (deep : Nat) : ∀ c, visL (l ++ l') deep c = (visL l deep c).bind (visL l' deep) := by
  induction l with
  | nil => intro c; rfl
  | cons e l ih =>
    intro c
    simp only [List.cons_append, visL]
    cases vis e deep c with
    | none => rfl
    | some c' => exact ih c'
theorem visL_take (l : List Ex) (deep c i : Nat) (h : i < l.length) : visL (l.take (i + 1)) deep c = (visL (l.take i) deep c).bind (vis (l.getD i default) deep) := by
  rw [List.take_succ_eq_append_getElem h, visL_append]
  have : l.getD i default = l[i] := by simp [List.getD, h]
  rw [this]
  congr 1
  funext c'
  simp only [visL]
  cases vis l[i] deep c' <;> rfl
theorem visL_none {l : List Ex} {deep c i : Nat} (h : visL (l.take i) deep c = none) : visL l deep c = none := by
  conv => lhs; rw [← List.take_append_drop i l]
  rw [visL_append, h]; rfl
def okSt (x : Nat) (rc : AObj) (b n : Nat) : List (Nat × AObj) :=
  [(x + 7, .cells 3 [.int .i64 (n : Int)]), (x + 5, rc), (x + 2, .cells 3 [.int .i64 (n : Int)]), (x + 1, .cells 4 [.bool false]),
   (x + 6, .cells 93 [.fn (.yield b) [] []]), (x + 8, .cells 52 [.fn (.func 57) [] [.ptr (x + 7) 0, .ptr (x + 6) 0, .ptr (x + 8) 0]])]
def okRec (x b d fn : Nat) (fv : PV) (asg body : Code) (st : LoopState) (pe : Option Code) : AObj := .loop b d st pe fn 40 [(2, .ptr (x + 1) 0), (3, .ptr (x + 2) 0), (8, fv)] #[9, 10] asg body
@[go_sem] theorem okRec_eq (x b d fn : Nat) (fv : PV) (asg body : Code) (st : LoopState) (pe : Option Code) : okRec x b d fn fv asg body st pe = .loop b d st pe fn 40 [(2, .ptr (x + 1) 0), (3, .ptr (x + 2) 0), (8, fv)] #[9, 10] asg body := rfl
@[go_sem] theorem okSt_eq (x : Nat) (rc : AObj) (b n : Nat) : okSt x rc b n = [(x + 7, .cells 3 [.int .i64 (n : Int)]), (x + 5, rc), (x + 2, .cells 3 [.int .i64 (n : Int)]), (x + 1, .cells 4 [.bool false]),
   (x + 6, .cells 93 [.fn (.yield b) [] []]), (x + 8, .cells 52 [.fn (.func 57) [] [.ptr (x + 7) 0, .ptr (x + 6) 0, .ptr (x + 8) 0]])] := rfl
def visQ (x b d fn : Nat) (fv : PV) (asg body : Code) (e : Ex) (deep cnt : Nat) (f0 : Nat → Option AObj) (B : Nat) (ex : ExitA) (s : MS) : Prop :=
  ex = .ret ∧ ((∃ cnt' M', vis e deep cnt = some cnt' ∧ cnt' ≤ 14 ∧ B ≤ M' ∧ s = ⟨[(7, .bool true)], okSt x (okRec x b d fn fv asg body .ready none) b cnt', f0, B, M', []⟩) ∨
    (∃ cnt' M', vis e deep cnt = none ∧ B ≤ M' ∧ s = ⟨[(7, .bool false)], okSt x (okRec x b d fn fv asg body .done (some .ret)) b cnt', f0, B, M', []⟩))
theorem walk_ok (x b d fn : Nat) (fv : PV) (asg body c : Code) (hcode : Tryz.f11.body.map rfs = some [(asg, body)]) (hc : Tryz.f57.body = some c) : ∀ (N : Nat) (e : Ex), e.sz ≤ N → e.sz ≤ 1099511627776 →
    ∀ (deep cnt : Nat) (dI : Int) (f0 : Nat → Option AObj) (B : Nat), dI = (deep : Int) → x + 9 ≤ B → deep ≤ 6 → cnt ≤ 14 →
      wpM Tryz.prog none 39 c ⟨envOf 0 [.agg e.cs, .int .i64 dI, .ptr (x + 7) 0, .ptr (x + 6) 0, .ptr (x + 8) 0], okSt x (okRec x b d fn fv asg body .ready none) b cnt, f0, B, B, []⟩ (visQ x b d fn fv asg body e deep cnt f0 B) := by
  have hcode' := Option.some.inj hcode
  simp only [rfs, List.nil_append, List.append_nil, List.cons.injEq, Prod.mk.injEq, and_true] at hcode'
  obtain ⟨hasg, hbody⟩ := hcode'
  obtain rfl : _ = c := Option.some.inj hc
  intro N
  induction N with
  | zero => intro e h; have := e.sz_pos; omega
  | succ N ih =>
    intro e hN hs deep cnt dI f0 B hdI hB hd hcn
    have hlen := e.kids_len
    refine wpM_wk ?_
    refine g_ [1,2,3,4,5] ?_
    refine g_ [1,2,3,4,5] ?_
    refine n_ ?_
    refine wpM_regionK [1,4,5,24] rfl fun Q1 hQ1 => ?_
    refine S_ ?_
    refine OpM_roundK (x + 5) rfl rfl rfl rfl (by simp -implicitDefEqProofs (disch := omega) only [go_sem]; rfl) rfl rfl ?_
    intro K' hK'
    refine wpM_code hasg ?_
    simp -implicitDefEqProofs (disch := omega) only [go_sem]
    refine g_ [2,3,4,10] ?_
    refine g_ [2,3,4,5] ?_
    refine ⟨d, none, fn, 40, [(2, .ptr (x + 1) 0), (3, .ptr (x + 2) 0), (8, fv)], #[9, 10], asg, body, rfl, ?_⟩
    refine wpM_code hbody ?_
    refine g_ [2,3,4,5] ?_
    refine n_ ?_
    refine wpM_regionK [2,3,4,5,6] rfl fun Q1 hQ1 => ?_
    refine S_ ?_
    refine cp_ (recOf_ok e.kind) Tryz.call31 ?_
    refine hQ1 _ _ (S_ ?_);clear hQ1 Q1
    refine n_ ?_
    refine dr_ mixed [2,39] 0 2 [x+2, B+1] [⟨[3],[0],[],[],false⟩,⟨[16],[],[],[],false⟩,⟨[17],[],[],[],false⟩,⟨[4,18],[],[],[],false⟩,⟨[18,19],[],[],[],false⟩,⟨[18,20],[],[],[],false⟩,⟨[21],[],[],[],false⟩,⟨[6,22],[],[],[],false⟩,⟨[22,23],[],[],[],false⟩,⟨[22,24],[],[],[],false⟩,⟨[25],[],[],[],false⟩,⟨[5,26],[],[],[],false⟩,⟨[26,27],[1],[],[],false⟩,⟨[26,28],[],[],[],false⟩,⟨[6,26],[],[],[],false⟩,⟨[26,30],[],[],[],true⟩,⟨[26,29,31],[],[],[],false⟩,⟨[26,32],[],[],[],false⟩,⟨[33],[],[],[],false⟩,⟨[6,34],[],[],[],false⟩,⟨[5,34],[1],[],[],false⟩,⟨[34,35,36],[],[],[],true⟩,⟨[34,37],[],[],[],false⟩,⟨[34,38],[],[],[],false⟩] [0,1,2,3,4,5,6,7,8,9,10,11,12,13,14,15,16,17,18,19,20,21,22,23] [[],[0],[0,1],[0,1,2],[0,1,2,3],[0,1,2,3,4],[0,1,2,3,4,5],[0,1,2,3,4,5,6],[0,1,2,3,4,5,6,7],[0,1,2,3,4,5,6,7,8],[0,1,2,3,4,5,6,7,8,9],[0,1,2,3,4,5,6,7,8,9,10],[0,1,2,3,4,5,6,7,8,9,10,11],[0,1,2,3,4,5,6,7,8,9,10,11,12],[0,1,2,3,4,5,6,7,8,9,10],[0,1,2,3,4,5,6,7,8,9,10,14],[0,1,2,3,4,5,6,7,8,9,10,11,12,13,14,15],[0,1,2,3,4,5,6,7,8,9,10,11,12,13,14,15,16],[0,1,2,3,4,5,6,7,8,9,10,11,12,13,14,15,16,17],[0,1,2,3,4,5,6,7,8,9,10,11,12,13,14,15,16,17,18],[0,1,2,3,4,5,6,7,8,9,10,11,12,13,14,15,16,17,18],[0,1,2,3,4,5,6,7,8,9,10,11,12,13,14,15,16,17,18,19,20],[0,1,2,3,4,5,6,7,8,9,10,11,12,13,14,15,16,17,18,19,20,21],[0,1,2,3,4,5,6,7,8,9,10,11,12,13,14,15,16,17,18,19,20,21,22]] 2 (htbl := by simp; omega) (hnm := by simp) ?_
    intro O A K hO hA hK;simp only [atL_cons,atL_nil,Nat.reduceAdd,Nat.zero_add] at hO hA
    refine SE_ ?_
    refine loudG (v := .int .i64 (kidsR e.kind)) (fun K2 hb h2 => ?_) ?_
    · have hb2 := hb
      simp only [Bool.not_eq_true', Bool.or_eq_false_iff] at hb2
      obtain ⟨t, fk, fs, hr, q1, q2, q3, q4, q5, q6⟩ := rec_meth e.kind hb2.2
      exact loudi_p (args := []) q3 q1 q2 rfl (by simp -implicitDefEqProofs (disch := omega) only [go_sem, hb, gd_of hb, hr]) rfl rfl h2
    refine SE_ ?_
    refine loudG (v := .bool (shapeR e)) (fun K2 hb h2 => ?_) ?_
    · have hb2 := hb
      simp only [Bool.not_eq_true', Bool.or_eq_false_iff] at hb2
      obtain ⟨t, fk, fs, hr, q1, q2, q3, q4, q5, q6⟩ := rec_meth e.kind hb2.1.2
      exact loudi_p (args := [.agg e.cs]) (q6 e rfl) q4 q5 rfl (by simp -implicitDefEqProofs (disch := omega) only [go_sem, hb, gd_of hb, hr]) (by simp -implicitDefEqProofs (disch := omega) only [go_sem, hb, gd_of hb]) rfl h2
    refine SE_ ?_
    refine hK _ (S_ ?_);clear hK K hO hA O A
    refine c_ (fun hc0 => ?_) fun hc0 => ?_
    ·
      refine g_ [2] ?_
      refine wpM_ret ?_
      try refine S_ ?_
      have hbad : badE ((cnt : Int) + 1) dI e = true := hc0
      refine ⟨d, .busy, none, fn, 40, [(2, .ptr (x + 1) 0), (3, .ptr (x + 2) 0), (8, fv)], #[9, 10], asg, body, by simp -implicitDefEqProofs (disch := omega) only [go_sem], ?_⟩
      refine hK' _ ?_; clear hK' K'
      simp -implicitDefEqProofs (disch := omega) only [go_sem]
      refine hQ1 _ _ ?_; clear hQ1 Q1
      simp -implicitDefEqProofs (disch := omega) only [go_sem]
      refine wpM_condK ?_
      simp -implicitDefEqProofs (disch := omega) only [go_sem]
      refine wpM_seq ?_
      refine wpM_regionK [7] rfl ?_; intro Q1 hQ1
      simp -implicitDefEqProofs (disch := omega) only [go_sem]
      refine hQ1 _ _ ?_; clear hQ1 Q1
      simp -implicitDefEqProofs (disch := omega) only [go_sem]
      refine wpM_ret ?_
      refine .of' _ _ ⟨rfl, .inr ⟨cnt + 1, _, ?_, ?_, rfl⟩⟩ ?_ ?_ ?_
      · rw [vis_eq, ← hdI, if_pos hbad]
      · first | omega | (simp -implicitDefEqProofs (disch := omega) only [go_sem]; done)
      all_goals exact L_
    refine n_ ?_
    have hbad : badE ((cnt : Int) + 1) dI e = false := hc0
    clear hc0
    have hb2 := hbad
    simp only [badE, Bool.or_eq_false_iff] at hb2
    obtain ⟨⟨⟨⟨hg1, hg2⟩, _⟩, _⟩, _⟩ := hb2
    have hg2' : deep < 6 := by simp at hg2; omega
    have hg1' : cnt + 1 ≤ 14 := by simp at hg1; omega
    refine ⟨d, .busy, none, fn, 40, [(2, .ptr (x + 1) 0), (3, .ptr (x + 2) 0), (8, fv)], #[9, 10], asg, body, by simp -implicitDefEqProofs (disch := omega) only [go_sem], ?_⟩
    refine hK' _ ?_; clear hK' K'
    simp -implicitDefEqProofs (disch := omega) only [go_sem, hg1, hg2]
    refine hQ1 _ _ (S_ ?_);clear hQ1 Q1
    refine c1_ ?_
    refine g_ [1,4,26,27,28] ?_
    refine n_ ?_
    refine wpM_loopS (fun s n s' => ∃ (i M ci : Nat), i + n = e.kids.length ∧ B + 1 ≤ M ∧ visL (e.kids.take i) (deep + 1) (cnt + 1) = some ci ∧ ci ≤ 14 ∧ s' = { s with env := setE 28 (.int .i64 (i : Nat)) s.env, l := okSt x (okRec x b d fn fv asg body .ready none) b ci ++ [(B, .cells 27 e.cs)], M := M }) (e.kids.length) ?_ ?_
    ·
      refine .of' _ _ ⟨0, _, cnt + 1, by omega, ?_, rfl, hg1', rfl⟩ ?_ ?_ ?_
      · first | omega | (simp -implicitDefEqProofs (disch := omega) only [go_sem]; done)
      all_goals exact L_
    rintro n s' ⟨i, M, ci, hi, hM, hv, hci, rfl⟩
    try refine S_ ?_
    refine g_ [1,4,26,27,28,29] ?_
    refine c_ (fun hc1 => ?_) fun hc1 => ?_
    ·
      have hl0 : i < e.kids.length := by omega
      have hks := Ex.kid_sz hl0
      refine g_ [1,4,9,26,27,28] ?_
      refine n_ ?_
      refine wpM_regionK [1,4,26,27,28,37] rfl fun Q1 hQ1 => ?_
      refine S_ ?_
      refine OpM_inlineK (first := []) (ps := [.agg (e.kids.getD i default).cs, .int .i64 (dI + 1)]) (cap := [.ptr (x + 7) 0, .ptr (x + 6) 0, .ptr (x + 8) 0]) Tryz.func57 rfl Tryz.ntmps57 (by simp) Tryz.call57 rfl rfl F_ F_ ?_
      intro K' hK'
      refine wpM_frame (okSt x (okRec x b d fn fv asg body .ready none) b ci) [(M, .cells 27 (e.kids.getD i default).cs), (B, .cells 27 e.cs)] T_ T_ T_ (by simp -implicitDefEqProofs (disch := omega) only [go_sem, true_or, or_true]) T_ ?_
      intro f1
      refine wpM_mono (ih (e.kids.getD i default) (by omega) (by omega) (deep + 1) ci (dI + 1) f1 (M + 1) (by rw [hdI]; rfl) (by omega) (by omega) hci) ?_
      rintro ex s' ⟨rfl, ⟨cnt', M', h1, h2, h3, rfl⟩ | ⟨cnt', M', h1, h3, rfl⟩⟩
      rotate_left
      · refine ⟨rfl, rfl, T_, (by simp -implicitDefEqProofs (disch := omega) only [go_sem, true_or, or_true]), ?_⟩
        refine ⟨[], rfl, trivial, [.bool false], (by rw [Tryz.results57]; simp -implicitDefEqProofs (disch := omega) only [go_sem]), ?_⟩
        refine hK' _ ?_; clear hK' K'
        simp -implicitDefEqProofs (disch := omega) only [go_sem]
        refine hQ1 _ _ ?_; clear hQ1 Q1
        simp -implicitDefEqProofs (disch := omega) only [go_sem]
        refine wpM_condK ?_
        simp -implicitDefEqProofs (disch := omega) only [go_sem]
        refine wpM_seq ?_
        refine wpM_regionK [7] rfl ?_; intro Q1 hQ1
        simp -implicitDefEqProofs (disch := omega) only [go_sem]
        refine hQ1 _ _ ?_; clear hQ1 Q1
        simp -implicitDefEqProofs (disch := omega) only [go_sem]
        refine wpM_ret ?_
        refine .of' _ _ ⟨rfl, .inr ⟨cnt', _, ?_, ?_, rfl⟩⟩ ?_ ?_ ?_
        · rw [vis_eq, ← hdI, hbad]
          exact visL_none (i := i + 1) (by rw [visL_take _ _ _ _ hl0, hv]; exact h1)
        · first | omega | (simp -implicitDefEqProofs (disch := omega) only [go_sem]; done) | (simp -implicitDefEqProofs (disch := omega) only [go_sem]; omega)
        all_goals exact L_
      refine ⟨rfl, rfl, T_, (by simp -implicitDefEqProofs (disch := omega) only [go_sem, true_or, or_true]), ?_⟩
      refine ⟨[], rfl, trivial, [.bool true], (by rw [Tryz.results57]; simp -implicitDefEqProofs (disch := omega) only [go_sem]), ?_⟩
      refine hK' _ ?_; clear hK' K'
      have hv2 : visL (e.kids.take (i + 1)) (deep + 1) (cnt + 1) = some cnt' := by rw [visL_take _ _ _ _ hl0, hv]; exact h1
      refine S_ ?_
      refine hQ1 _ _ (S_ ?_);clear hQ1 Q1
      refine c1_ ?_
      refine g_ [1,4,26,27,28] ?_
      refine .of' _ _ ⟨n - 1, by omega, i + 1, _, cnt', by omega, ?_, hv2, h2, rfl⟩ ?_ ?_ ?_
      · first | omega | (simp -implicitDefEqProofs (disch := omega) only [go_sem]; done) | (simp -implicitDefEqProofs (disch := omega) only [go_sem]; omega)
      all_goals exact L_
    refine g_ [7] ?_
    refine wpM_ret ?_
    try refine S_ ?_
    have hie : i = e.kids.length := by omega
    rw [hie, List.take_of_length_le (Nat.le_refl _)] at hv
    refine .of' _ _ ⟨rfl, .inl ⟨ci, _, ?_, hci, ?_, rfl⟩⟩ ?_ ?_ ?_
    · rw [vis_eq, ← hdI, hbad]; exact hv
    · first | omega | (simp -implicitDefEqProofs (disch := omega) only [go_sem]; done) | (simp -implicitDefEqProofs (disch := omega) only [go_sem]; omega)
    all_goals exact L_
end Go.Proofs.YtmicbfojofcigaaGreat
namespace Go.Proofs.YtmicbfojofcigaaGreat
open Go Sg
set_option linter.unusedSectionVars false
variable [Glob]
set_option maxRecDepth 100000
set_option linter.unusedSimpArgs false
set_option linter.unusedVariables false
set_option maxHeartbeats 4000000
theorem iexprOk_ok (e : Ex) (hs : e.sz ≤ 1099511627776) : PureF Tryz.prog 11 [.agg e.cs] [.bool (vis e 0 0).isSome] := by
  refine pureF_ofM Tryz.func11 rfl Tryz.ntmps11 (by simp) T_ ?_
  intro f0 B Q hQ
  obtain ⟨asg, body, hcode⟩ : ∃ asg body, Tryz.f11.body.map rfs = some [(asg, body)] := ⟨_, _, rfl⟩
  have hcode' := Option.some.inj hcode
  simp only [rfs, List.nil_append, List.append_nil, List.cons.injEq, Prod.mk.injEq, and_true] at hcode'
  obtain ⟨hasg, hbody⟩ := hcode'
  refine g_ [1,2,9,10] ?_
  refine g_ [1,2,3,9,10] ?_
  refine n_ ?_
  refine wpM_regionK [2,3,8,9,10] rfl fun Q1 hQ1 => ?_
  refine S_ ?_
  refine call_fn (l := []) (first := []) (cap := []) (ps := [.agg e.cs]) (parts_ok e) Tryz.call30 rfl rfl rfl T_ T_ ?_
  rintro out ⟨x, hns, rfl⟩
  injection hns with hn1 hns
  subst hn1
  refine S_ ?_
  refine hQ1 _ _ (S_ ?_);clear hQ1 Q1
  refine n_ ?_
  refine wpM_code (c' := Code.rangeFunc (.tmp 8) #[9, 10] asg body) (by rw [← hasg, ← hbody]) ?_
  refine wpM_rangeFunc (first := []) (cap := [.ptr (B + 3) 0]) T_ Tryz.func56 rfl Tryz.ntmps56 (by simp) Tryz.call56 ?_
  intro fn b d
  refine g_ [1,2] ?_
  refine g_ [1,2,3] ?_
  refine g_ [1,2,3,4] ?_
  refine g_ [1,4] ?_
  refine wpM_regionK [] rfl fun Q1 hQ1 => ?_
  refine S_ ?_
  simp -implicitDefEqProofs (disch := omega) only [go_sem, Nat.add_assoc]
  refine OpM_inlineK (first := []) (ps := [.agg e.cs, .int .i64 0]) (cap := [.ptr (B + 7) 0, .ptr (B + 6) 0, .ptr (B + 8) 0]) Tryz.func57 rfl Tryz.ntmps57 (by simp) Tryz.call57 rfl rfl F_ F_ ?_
  intro K' hK'
  refine wpM_frame (okSt B (okRec B b d fn (.fn (.func 56) [] [.ptr (B + 3) 0]) asg body .ready none) b 0) [(B + 4, .dfr d), (B + 3, .cells 27 e.cs), (B, .cells 27 e.cs)] (by simp -implicitDefEqProofs (disch := omega) only [go_sem, Int.natCast_zero]) T_ T_ (by simp -implicitDefEqProofs (disch := omega) only [go_sem, true_or, or_true]) T_ ?_
  intro f1
  refine wpM_mono (walk_ok B b d fn (.fn (.func 56) [] [.ptr (B + 3) 0]) asg body _ hcode rfl e.sz e (Nat.le_refl _) hs 0 0 0 f1 (B + 9) rfl (by omega) (by omega) (by omega)) ?_
  rintro ex s' ⟨rfl, ⟨cnt', M', q1, q2, q3, rfl⟩ | ⟨cnt', M', q1, q3, rfl⟩⟩
  rotate_left
  · refine ⟨rfl, rfl, T_, (by simp -implicitDefEqProofs (disch := omega) only [go_sem, true_or, or_true]), ?_⟩
    refine ⟨[], rfl, trivial, [.bool false], (by rw [Tryz.results57]; simp -implicitDefEqProofs (disch := omega) only [go_sem]), ?_⟩
    refine hK' _ ?_; clear hK' K'
    simp -implicitDefEqProofs (disch := omega) only [go_sem]
    refine hQ1 _ _ ?_; clear hQ1 Q1
    simp -implicitDefEqProofs (disch := omega) only [go_sem]
    refine ⟨[], rfl, trivial, [], (by rw [Tryz.results56]; simp -implicitDefEqProofs (disch := omega) only [go_sem]), ?_⟩
    refine ⟨d, .done, some .ret, fn, 40, [(2, .ptr (B + 1) 0), (3, .ptr (B + 2) 0), (8, .fn (.func 56) [] [.ptr (B + 3) 0])], #[9, 10], asg, body, T_, (by simp), ?_⟩
    simp -implicitDefEqProofs (disch := omega) only [go_sem, Nat.add_assoc]
    refine hQ [B + 4] _ _ rfl rfl rfl ⟨⟨by simp -implicitDefEqProofs (disch := omega) only [go_sem], ⟨d, by simp -implicitDefEqProofs (disch := omega) only [go_sem]⟩, by simp⟩, trivial⟩ (by simp -implicitDefEqProofs (disch := omega) only [go_sem, true_or]) ?_ (.inl rfl)
    rw [Tryz.results11, q1]
    simp -implicitDefEqProofs (disch := omega) only [go_sem, Option.isSome_none]
  refine ⟨rfl, rfl, T_, (by simp -implicitDefEqProofs (disch := omega) only [go_sem, true_or, or_true]), ?_⟩
  refine ⟨[], rfl, trivial, [.bool true], (by rw [Tryz.results57]; simp -implicitDefEqProofs (disch := omega) only [go_sem]), ?_⟩
  refine hK' _ ?_; clear hK' K'
  refine S_ ?_
  refine hQ1 _ _ (S_ ?_);clear hQ1 Q1
  refine ⟨[], rfl, trivial, [], (by rw [Tryz.results56]; simp -implicitDefEqProofs (disch := omega) only [go_sem]), ?_⟩
  refine ⟨d, .ready, none, fn, 40, [(2, .ptr (B + 1) 0), (3, .ptr (B + 2) 0), (8, .fn (.func 56) [] [.ptr (B + 3) 0])], #[9, 10], asg, body, T_, (by simp), ?_⟩
  simp -implicitDefEqProofs (disch := omega) only [go_sem, Nat.add_assoc]
  refine g_ [2] ?_
  refine wpM_ret ?_
  try refine S_ ?_
  refine hQ [B + 4] _ _ rfl rfl rfl ⟨⟨by simp -implicitDefEqProofs (disch := omega) only [go_sem], ⟨d, by simp -implicitDefEqProofs (disch := omega) only [go_sem]⟩, by simp⟩, trivial⟩ (by simp -implicitDefEqProofs (disch := omega) only [go_sem, true_or]) ?_ (.inl rfl)
  rw [Tryz.results11, q1]
  simp -implicitDefEqProofs (disch := omega) only [go_sem, Option.isSome_some]
end Go.Proofs.YtmicbfojofcigaaGreat
namespace Go.Proofs.YtmicbfojofcigaaGreat
open Go Sg
set_option linter.unusedSectionVars false
variable [Glob]
set_option maxRecDepth 100000
set_option linter.unusedSimpArgs false
set_option linter.unusedVariables false
set_option maxHeartbeats 4000000
def idxOf {α : Type} (p : α → Bool) (l : List α) : Int := if l.any p then (l.findIdx p : Int) else -1
theorem idxOf_at {α : Type} {p : α → Bool} {l : List α} {z : α} {i : Nat} (h : i < l.length) (ha : (l.take i).all (fun x => !p x) = true) (hp : p (l.getD i z) = true) : idxOf p l = (i : Int) := by
  have hg : l.getD i z = l[i] := by simp [List.getD, h]
  rw [hg] at hp
  have hany : l.any p = true := List.any_eq_true.2 ⟨l[i], List.getElem_mem h, hp⟩
  rw [idxOf, if_pos hany]
  have : l.findIdx p = i := by
    rw [List.findIdx_eq h]
    refine ⟨hp, fun j hj => ?_⟩
    rw [List.all_eq_true] at ha
    have hm : l[j] ∈ l.take i := by
      rw [List.mem_take_iff_getElem]
      exact ⟨j, by omega, rfl⟩
    have := ha _ hm
    simpa using this
  rw [this]
theorem idxOf_no {α : Type} {p : α → Bool} {l : List α} (ha : l.all (fun x => !p x) = true) : idxOf p l = -1 := by
  have : l.any p = false := by
    rw [List.all_eq_not_any_not] at ha
    simpa using ha
  rw [idxOf, if_neg (by rw [this]; simp)]
theorem idxOf_ge {α : Type} (p : α → Bool) (l : List α) : decide (idxOf p l ≥ 0) = l.any p := by
  unfold idxOf
  cases h : l.any p <;> simp
theorem idxI_ok (l : List Int) (fid : Nat) (cap : List PV) (p : Int → Bool) (lst : List (Nat × AObj)) (hl : l.length ≤ 1099511627776) (henter : ∀ args w, (callFunc fid args).run Tryz.prog w = .ok (.enter fid args) w)
    (hf : ∀ i, i < l.length → CallF Tryz.prog fid ([.int .i64 (l.getD i 0)] ++ cap) lst 0 (fun _ o => o = { rs := [.bool (p (l.getD i 0))] })) :
    CallF Tryz.prog 90 [.rows 3 (rowsI l), .fn (.func fid) [] cap] lst 0 (fun _ o => o = { rs := [.int .i64 (idxOf p l)] }) := by
  refine callF_ofR Tryz.func90 rfl Tryz.ntmps90 (by simp) T_ ?_
  intro f0 B Q hhid hQ
  refine g_ [0,1] ?_
  refine g_ [0,1,7,8] ?_
  refine n_ ?_
  refine wpM_loopS (fun s n s' => ∃ (i0 M0 : Nat) , i0 + n = l.length ∧ s.M ≤ M0 ∧ ((l.take i0).all (fun x => !p x) = true) ∧ s' = { s with env := setE 8 (.int .i64 (i0 : Nat)) s.env, M := M0 }) (l.length) ?_ ?_
  ·
    refine .of' _ _ ⟨0, _, by omega, Nat.le_refl _, by simp, rfl⟩ ?_ ?_ ?_ <;> exact L_
  rintro n0 s' ⟨i0, M0, hi0, hM0, hv0, rfl⟩
  try dsimp only at hM0
  try refine S_ ?_
  refine g_ [0,1,7,8,9] ?_
  refine c_ (fun hc0 => ?_) fun hc0 => ?_
  ·
    have hl0 : i0 < l.length := by omega
    refine g_ [0,1,5,7,8] ?_
    refine n_ ?_
    refine wpM_regionK [0,1,5,7,8,16] rfl fun Q1 hQ1 => ?_
    refine S_ ?_
    refine call_cap (args := [.int .i64 (l.getD i0 0)]) (hf i0 hl0) (hidden_f hhid (by simp -implicitDefEqProofs (disch := omega) only [go_sem, true_or])) henter rfl rfl T_ T_ ?_
    refine S_ ?_
    refine hQ1 _ _ (S_ ?_);clear hQ1 Q1
    refine c_ (fun hc1 => ?_) fun hc1 => ?_
    ·
      refine g_ [4] ?_
      refine e_ Tryz.results90 ?_
      first
      | exact True.intro
      | first | rw [idxOf_at hl0 hv0 hc1] | rw [idxOf_no (all_yes' hi0 hc0 hv0)]
    refine g_ [0,1,7,8] ?_
    refine .of' _ _ ⟨n0 - 1, by omega, i0 + 1, _, by omega, M_, ?_, rfl⟩ L_ L_ L_
    rw [take_all' _ _ 0 _ hl0, hv0, hc1]; rfl
  refine g_ [4] ?_
  refine e_ Tryz.results90 ?_
  first
  | exact True.intro
  | first | rw [idxOf_at hl0 hv0 hc1] | rw [idxOf_no (all_yes' hi0 hc0 hv0)]
theorem hasI_ok (l : List Int) (fid : Nat) (cap : List PV) (p : Int → Bool) (lst : List (Nat × AObj)) (hl : l.length ≤ 1099511627776) (henter : ∀ args w, (callFunc fid args).run Tryz.prog w = .ok (.enter fid args) w)
    (hf : ∀ i, i < l.length → CallF Tryz.prog fid ([.int .i64 (l.getD i 0)] ++ cap) lst 0 (fun _ o => o = { rs := [.bool (p (l.getD i 0))] })) :
    CallF Tryz.prog 59 [.rows 3 (rowsI l), .fn (.func fid) [] cap] lst 0 (fun _ o => o = { rs := [.bool (l.any p)] }) := by
  refine callF_ofR Tryz.func59 rfl Tryz.ntmps59 (by simp) T_ ?_
  intro f0 B Q hhid hQ
  refine g_ [0,1] ?_
  refine n_ ?_
  refine wpM_regionK [4] rfl fun Q1 hQ1 => ?_
  refine S_ ?_
  refine call_r (idxI_ok l fid cap p lst hl henter hf) (hidden_f hhid (by simp -implicitDefEqProofs (disch := omega) only [go_sem, true_or])) Tryz.call90 rfl rfl rfl F_ ?_
  refine S_ ?_
  refine hQ1 _ _ (S_ ?_);clear hQ1 Q1
  refine e_ Tryz.results59 ?_
  first
  | exact True.intro
  | rw [idxOf_ge]
def eqI (a b : List Int) : Bool := if (a.length : Int) != (b.length : Int) then false else (List.range a.length).all (fun i => !(a.getD i 0 != b.getD i 0))
def memSame (a b : MM) : Bool := eqI a.i b.i && eqI a.o b.o && eqI a.v b.v
end Go.Proofs.YtmicbfojofcigaaGreat
namespace Go.Proofs.YtmicbfojofcigaaGreat
open Go Sg
set_option linter.unusedSectionVars false
variable [Glob]
set_option maxRecDepth 100000
set_option linter.unusedSimpArgs false
set_option linter.unusedVariables false
set_option maxHeartbeats 4000000
def MM.flat (m : MM) : List Int := m.i ++ (m.o ++ m.v)
theorem MM.flat_len {m : MM} (h : m.Six) : m.flat.length = 18 := by simp [MM.flat, h.i, h.o, h.v]
def MM.nth (m : MM) (i : Nat) : List Int := [m.i, m.o, m.v].getD i []
@[go_sem] theorem drop3 (e : TypeId) (m : MM) (i : Nat) (h : i < 3) : ([PV.rows e (rowsI m.i), PV.rows e (rowsI m.o), PV.rows e (rowsI m.v)].drop i)[0]? = some (.rows e (rowsI (m.nth i))) := by
  match i, h with
  | 0, _ => rfl
  | 1, _ => rfl
  | 2, _ => rfl
@[go_sem] theorem ints_cell (l : List Int) : (ints l).all PV.cell = true := by
  induction l with
  | nil => rfl
  | cons x l ih => simp only [ints, List.map_cons, List.all_cons, PV.cell, Bool.true_and] at ih ⊢; exact ih
@[go_sem] theorem ints_take6 (l : List Int) (h : l.length = 6) : (ints l).take 6 = ints l := by rw [List.take_of_length_le (by simp [ints, h])]
@[go_sem high] theorem splice_ints6 (L l : List Int) (k : Nat) : splice (ints L) k (ints l) = ints (L.take k ++ l ++ L.drop (k + l.length)) := by
  simp [splice, ints, List.map_take, List.map_drop]
def MM.bk (m : MM) : Nat → List Int
  | 0 => List.replicate 18 0
  | n + 1 => (m.bk n).take (n * 6) ++ m.nth n ++ (m.bk n).drop (n * 6 + (m.nth n).length)
theorem MM.bk3 {m : MM} (h : m.Six) : m.bk 3 = m.flat := by
  have h1 := h.i
  have h2 := h.o
  have h3 := h.v
  simp only [MM.bk, MM.nth, List.getD_cons_zero, List.getD_cons_succ, Nat.zero_mul, List.take_zero, List.nil_append, Nat.zero_add, h1, h2, h3, MM.flat]
  have a1 : ∀ x : List Int, (m.i ++ x).take (1 * 6) = m.i := fun x => by rw [List.take_append_of_le_length (by omega), List.take_of_length_le (by omega)]
  have a2 : ∀ x : List Int, (m.i ++ m.o ++ x).take (2 * 6) = m.i ++ m.o := fun x => by rw [List.take_append_of_le_length (by simp; omega), List.take_of_length_le (by simp; omega)]
  rw [a1, a2]
  have a3 : ((m.i ++ m.o ++ ((m.i ++ (List.replicate 18 (0 : Int)).drop 6).drop (1 * 6 + 6))).drop (2 * 6 + 6)) = [] := by
    rw [List.drop_eq_nil_iff]; simp; omega
  rw [a3]; simp
theorem MM.bk_len {m : MM} : ∀ n, (∀ j, j < n → (m.nth j).length = 6) → n ≤ 3 → (m.bk n).length = 18 := by
  intro n
  induction n with
  | zero => intro _ _; simp [MM.bk]
  | succ n ih =>
    intro h hn
    have := ih (fun j hj => h j (by omega)) (by omega)
    have h6 := h n (by omega)
    simp only [MM.bk, List.length_append, List.length_take, List.length_drop, this, h6]
    omega
theorem listOk_eq (l : List Int) : ((l.length : Int) != 6 || l.any (fun x => !isNum x)) = !listOk l := by
  have : (fun x => !isNum x) = fun x => cut x != x := by funext x; rw [isNum_cut]; rfl
  rw [this, listOk, List.all_eq_not_any_not]
  simp only [Bool.not_not]
  cases l.any (fun x => cut x != x) <;> cases h : ((l.length : Int) == 6) <;> simp_all
@[go_sem] theorem rep_two (z : List PV) : rep 2 z = z ++ z := by simp [rep, List.replicate_succ]
@[go_sem] theorem rep_three (z : List PV) : rep 3 z = z ++ (z ++ z) := by simp [rep, List.replicate_succ]
theorem notNum_ok (n : Int) : PureF Tryz.prog 60 [.int .i64 n] [.bool (!isNum n)] := by
  refine pureF_of Tryz.func60 rfl Tryz.ntmps60 (by simp) T_ ?_
  intro f0 B Q hQ
  refine g_ [0] ?_
  refine n_ ?_
  refine wpM_regionK [2] rfl fun Q1 hQ1 => ?_
  refine S_ ?_
  refine cp_ (isNum_ok n) Tryz.call61 ?_
  refine hQ1 _ _ (S_ ?_);clear hQ1 Q1
  refine e_ Tryz.results60 ?_
  first
  | exact True.intro
  | rfl
theorem MM.ok_nth (m : MM) : m.ok = (List.range 3).all (fun j => listOk (m.nth j)) := by
  simp only [MM.ok, MM.nth, List.range, List.range.loop, List.all_cons, List.all_nil, Bool.and_true, List.getD_cons_zero, List.getD_cons_succ, Bool.and_assoc]
theorem readMem_ok (m : MM) (hm : m.Sm) : CallF Tryz.prog 33 [.agg m.cs] [] 1 (fun ns o => ∃ x, ns = [x] ∧ ((m.ok = true ∧ o = { rs := [.ptr x 0, .bool true], nw := [(x, .cells 104 (ints m.flat))] }) ∨
    (m.ok = false ∧ ∃ l, o = { rs := [.nilp, .bool false], nw := [(x, .cells 104 (ints l))] }))) := by
  have hsm : ∀ j, (m.nth j).length ≤ 1099511627776 := by
    intro j
    match j with
    | 0 => exact hm.i
    | 1 => exact hm.o
    | 2 => exact hm.v
    | n + 3 => simp [MM.nth]
  refine callF_of' Tryz.func33 rfl Tryz.ntmps33 (by simp) ?_
  intro f0 B ns Q hB hns hQ
  obtain ⟨x, rfl⟩ : ∃ x, ns = [x] := by
    match ns, hns with
    | [x], _ => exact ⟨x, rfl⟩
  refine g_ [1] ?_
  refine g_ [1,4] ?_
  refine g_ [4,15,16,17] ?_
  have hlit : [PV.int .i64 0, .int .i64 0, .int .i64 0, .int .i64 0, .int .i64 0, .int .i64 0, .int .i64 0, .int .i64 0, .int .i64 0, .int .i64 0, .int .i64 0, .int .i64 0, .int .i64 0, .int .i64 0, .int .i64 0, .int .i64 0, .int .i64 0, .int .i64 0] = ints (m.bk 0) := rfl
  rw [hlit]
  refine n_ ?_
  refine wpM_loopS (fun s n s' => ∃ (i0 M0 : Nat) , i0 + n = 3 ∧ s.M ≤ M0 ∧ ((List.range i0).all (fun j => listOk (m.nth j)) = true) ∧ s' = { s with env := setE 17 (.int .i64 (i0 : Nat)) s.env, l := setl (B + 1) (.cells 104 (ints (m.bk i0))) s.l, M := M0 }) (3) ?_ ?_
  ·
    refine .of' _ _ ⟨0, _, by omega, Nat.le_refl _, rfl, rfl⟩ ?_ ?_ ?_ <;> exact L_
  rintro n0 s' ⟨i0, M0, hi0, hM0, hv0, rfl⟩
  try dsimp only at hM0
  try refine S_ ?_
  refine g_ [4,15,16,17,18] ?_
  refine c_ (fun hc0 => ?_) fun hc0 => ?_
  ·
    have hl0 : i0 < 3 := by omega
    have hsj := hsm i0
    have hbl : (m.bk i0).length = 18 := MM.bk_len i0 (fun j hj => by
      rw [List.all_eq_true] at hv0
      have := hv0 j (List.mem_range.2 hj)
      simp only [listOk, Bool.and_eq_true, beq_iff_eq] at this; omega) (by omega)
    refine g_ [4,5,6,15,16,17] ?_
    refine n_ ?_
    refine wpM_regionK [4,5,6,15,16,17,28] rfl fun Q1 hQ1 => ?_
    refine SD_ ?_
    refine callG_r (l := []) (fun hb => hasI_ok (m.nth i0) 60 [] (fun x => !isNum x) [] hsj Tryz.call60 (fun i hi => notNum_ok _)) (fun i o h => by simp [lk] at h) Tryz.call59 rfl rfl (fun hb => by simp -implicitDefEqProofs (disch := omega) only [go_sem]) (fun hb => by simp -implicitDefEqProofs (disch := omega) only [go_sem, hb, gd_of hb]) ?_
    refine SD_ ?_
    refine hQ1 _ _ (S_ ?_);clear hQ1 Q1
    refine c_ (fun hc1 => ?_) fun hc1 => ?_
    ·
      refine g_ [2,3] ?_
      refine wpM_ret ?_
      try refine S_ ?_
      have hok : m.ok = true ∨ m.ok = false := by cases m.ok <;> simp
      first
      | (have hbad : m.ok = false := by
           have h1 := listOk_eq (m.nth i0)
           rw [hc1] at h1
           have h2 : listOk (m.nth i0) = false := by simpa using h1.symm
           rw [MM.ok_nth]; exact range_no hl0 h2
         refine hQ _ _ (retK [B + 1] [] [(x, .cells 104 (ints (m.bk i0)))] rfl rfl rfl (by rw [Tryz.results33] <;> simp (maxSteps := 1000000) -implicitDefEqProofs (disch := omega) only [go_sem] <;> rfl) ?_ ⟨x, rfl, .inr ⟨hbad, _, rfl⟩⟩ ?_ ?_ ?_ ?_ ?_ ?_)
         all_goals (first | (simp -implicitDefEqProofs (disch := omega) only [go_sem, List.nodup_cons, List.nodup_nil, true_or, or_true, List.mem_cons, List.not_mem_nil]; done) | (simp -implicitDefEqProofs (disch := omega) only [go_sem, List.nodup_cons, List.nodup_nil, true_or, or_true, List.mem_cons, List.not_mem_nil]; omega)))
      | (have hi3 : i0 = 3 := by omega
         have hgood : m.ok = true := by rw [MM.ok_nth, ← hi3]; exact hv0
         have hfl : m.bk i0 = m.flat := by rw [hi3, MM.bk3 (MM.ok_six hgood)]
         rw [hfl]
         refine hQ _ _ (retK [B + 1] [] [(x, .cells 104 (ints m.flat))] rfl rfl rfl (by rw [Tryz.results33] <;> simp (maxSteps := 1000000) -implicitDefEqProofs (disch := omega) only [go_sem] <;> rfl) ?_ ⟨x, rfl, .inl ⟨hgood, rfl⟩⟩ ?_ ?_ ?_ ?_ ?_ ?_)
         all_goals (first | (simp -implicitDefEqProofs (disch := omega) only [go_sem, List.nodup_cons, List.nodup_nil, true_or, or_true, List.mem_cons, List.not_mem_nil]; done) | (simp -implicitDefEqProofs (disch := omega) only [go_sem, List.nodup_cons, List.nodup_nil, true_or, or_true, List.mem_cons, List.not_mem_nil]; omega)))
    have hok : listOk (m.nth i0) = true := by have := listOk_eq (m.nth i0); rw [hc1] at this; simpa using this.symm
    have hl6 : (m.nth i0).length = 6 := by
      simp only [listOk, Bool.and_eq_true, beq_iff_eq] at hok; omega
    refine n_ ?_
    refine dr_ mixed [4,15,16,17] 0 1 [B + 1] [⟨[4],[],[],[],false⟩,⟨[5],[],[],[],false⟩,⟨[6],[],[],[],false⟩,⟨[31],[],[],[],false⟩,⟨[32],[],[],[],false⟩,⟨[29],[],[],[],false⟩,⟨[34],[],[],[],false⟩,⟨[30,35],[],[],[],false⟩,⟨[33,36],[0],[0],[],false⟩] [0,1,2,3,4,5,6,7,8] [[],[],[],[2],[2,3],[0],[0,5],[0,1,2,3,4,5,6],[0,1,2,3,4,5,6,7]] 1 ?_
    intro O A K hO hA hK;simp only [atL_cons,atL_nil,Nat.reduceAdd,Nat.zero_add] at hO hA
    refine SO_ ?_
    refine hK _ (S_ ?_);clear hK K hO hA O A
    refine g_ [4,15,16,17] ?_
    rw [show List.take (i0 * 6) (m.bk i0) ++ m.nth i0 ++ List.drop (i0 * 6 + (m.nth i0).length) (m.bk i0) = m.bk (i0 + 1) from rfl]
    refine .of' _ _ ⟨n0 - 1, by omega, i0 + 1, _, by omega, M_, ?_, rfl⟩ L_ L_ L_
    rw [range_all, hv0, hok]; rfl
  refine g_ [2,3] ?_
  refine wpM_ret ?_
  try refine S_ ?_
  have hok : m.ok = true ∨ m.ok = false := by cases m.ok <;> simp
  first
  | (have hbad : m.ok = false := by
       have h1 := listOk_eq (m.nth i0)
       rw [hc1] at h1
       have h2 : listOk (m.nth i0) = false := by simpa using h1.symm
       rw [MM.ok_nth]; exact range_no hl0 h2
     refine hQ _ _ (retK [B + 1] [] [(x, .cells 104 (ints (m.bk i0)))] rfl rfl rfl (by rw [Tryz.results33] <;> simp (maxSteps := 1000000) -implicitDefEqProofs (disch := omega) only [go_sem] <;> rfl) ?_ ⟨x, rfl, .inr ⟨hbad, _, rfl⟩⟩ ?_ ?_ ?_ ?_ ?_ ?_)
     all_goals (first | (simp -implicitDefEqProofs (disch := omega) only [go_sem, List.nodup_cons, List.nodup_nil, true_or, or_true, List.mem_cons, List.not_mem_nil]; done) | (simp -implicitDefEqProofs (disch := omega) only [go_sem, List.nodup_cons, List.nodup_nil, true_or, or_true, List.mem_cons, List.not_mem_nil]; omega)))
  | (have hi3 : i0 = 3 := by omega
     have hgood : m.ok = true := by rw [MM.ok_nth, ← hi3]; exact hv0
     have hfl : m.bk i0 = m.flat := by rw [hi3, MM.bk3 (MM.ok_six hgood)]
     rw [hfl]
     refine hQ _ _ (retK [B + 1] [] [(x, .cells 104 (ints m.flat))] rfl rfl rfl (by rw [Tryz.results33] <;> simp (maxSteps := 1000000) -implicitDefEqProofs (disch := omega) only [go_sem] <;> rfl) ?_ ⟨x, rfl, .inl ⟨hgood, rfl⟩⟩ ?_ ?_ ?_ ?_ ?_ ?_)
     all_goals (first | (simp -implicitDefEqProofs (disch := omega) only [go_sem, List.nodup_cons, List.nodup_nil, true_or, or_true, List.mem_cons, List.not_mem_nil]; done) | (simp -implicitDefEqProofs (disch := omega) only [go_sem, List.nodup_cons, List.nodup_nil, true_or, or_true, List.mem_cons, List.not_mem_nil]; omega)))
end Go.Proofs.YtmicbfojofcigaaGreat
namespace Go.Proofs.YtmicbfojofcigaaGreat
open Go Sg
set_option linter.unusedSectionVars false
variable [Glob]
set_option maxRecDepth 100000
set_option linter.unusedSimpArgs false
set_option linter.unusedVariables false
set_option maxHeartbeats 4000000
@[go_sem] theorem ints_dt (l : List Int) (a b : Nat) : ((ints l).drop a).take b = ints ((l.drop a).take b) := by simp [ints, List.map_take, List.map_drop]
theorem place_ok (id : Nat) (L : List Int) (a : AD) (h : a.ok = true) (hL : L.length = 18) : CallF Tryz.prog 155 [.ptr id 0, .agg a.cs] [(id, .cells 104 (ints L))] 0 (fun _ o => o = { rs := [.ptr id ((a.kind - 1).toNat * 6 + a.at'.toNat)] }) := by
  have hk : 1 ≤ a.kind ∧ a.kind ≤ 3 ∧ 0 ≤ a.at' ∧ a.at' < 6 := by simp only [AD.ok, Bool.and_eq_true, decide_eq_true_eq] at h; omega
  refine callF_of' Tryz.func155 rfl Tryz.ntmps155 (by simp) ?_
  intro f0 B ns Q hB hns hQ
  have hid : id < B := hB id (by simp [hasKey, lk])
  obtain rfl : ns = [] := List.eq_nil_of_length_eq_zero hns
  refine g_ [0,3] ?_
  refine n_ ?_
  refine dr_ mixed [4] 0 2 [B, id] [⟨[0],[],[],[],false⟩,⟨[3],[],[],[],false⟩,⟨[6],[0],[],[],false⟩,⟨[7],[],[],[],false⟩,⟨[3],[],[],[],false⟩,⟨[9],[0],[],[],false⟩,⟨[5],[],[],[],false⟩,⟨[11],[1],[],[],false⟩,⟨[8,12],[1],[],[],false⟩,⟨[10,13],[1],[],[],false⟩,⟨[14],[],[],[],false⟩] [0,1,2,3,4,5,6,7,8,9,10] [[],[],[1],[1,2],[],[4],[0],[0,6],[0,1,2,3,6,7],[0,1,2,3,4,5,6,7,8],[0,1,2,3,4,5,6,7,8,9]] 2 (htbl := by simp; omega) (hnm := by simp) ?_
  intro O A K hO hA hK;simp only [atL_cons,atL_nil,Nat.reduceAdd,Nat.zero_add] at hO hA
  refine SO_ ?_
  refine hK _ (S_ ?_);clear hK K hO hA O A
  refine wpM_ret ?_
  try refine S_ ?_
  refine hQ _ _ (ret0 [] rfl rfl rfl (by rw [Tryz.results155] <;> simp (maxSteps := 1000000) -implicitDefEqProofs (disch := omega) only [go_sem] <;> rfl) rfl ?_ ?_ ?_ ?_)
  all_goals simp -implicitDefEqProofs (disch := omega) only [go_sem, true_or, or_true]
theorem puts_ok (a : AD) : PureF Tryz.prog 97 [.agg a.cs] [.bool (a.ok && a.kind != 1)] := by
  refine pureF_of Tryz.func97 rfl Tryz.ntmps97 (by simp) T_ ?_
  intro f0 B Q hQ
  refine g_ [1] ?_
  refine n_ ?_
  refine wpM_regionK [2] rfl fun Q1 hQ1 => ?_
  refine SD_ ?_
  refine cpD_ (iaddrOk_ok a) Tryz.call96 ?_
  refine hQ1 _ _ (S_ ?_);clear hQ1 Q1
  refine e_ Tryz.results97 ?_
  first
  | exact True.intro
  | rfl
def pos (a : AD) : Nat := (a.kind - 1).toNat * 6 + a.at'.toNat
theorem iget_ok (id : Nat) (L : List Int) (a : AD) (h : a.ok = true) (hL : L.length = 18) : CallF Tryz.prog 153 [.ptr id 0, .agg a.cs] [(id, .cells 104 (ints L))] 0 (fun _ o => o = { rs := [.int .i64 (L.getD (pos a) 0)] }) := by
  have hk : 1 ≤ a.kind ∧ a.kind ≤ 3 ∧ 0 ≤ a.at' ∧ a.at' < 6 := by simp only [AD.ok, Bool.and_eq_true, decide_eq_true_eq] at h; omega
  have hp : pos a < L.length := by unfold pos; omega
  refine callF_of' Tryz.func153 rfl Tryz.ntmps153 (by simp) ?_
  intro f0 B ns Q hB hns hQ
  have hid : id < B := hB id (by simp [hasKey, lk])
  obtain rfl : ns = [] := List.eq_nil_of_length_eq_zero hns
  refine g_ [0,3] ?_
  refine n_ ?_
  refine wpM_regionK [0,3,7] rfl fun Q1 hQ1 => ?_
  simp -implicitDefEqProofs (disch := omega) only [go_sem, h]
  refine call_p (iaddrOk_ok a) Tryz.call96 rfl rfl rfl (by first | rfl | (simp -implicitDefEqProofs (disch := omega) only [go_sem] <;> rfl)) ?_
  simp -implicitDefEqProofs (disch := omega) only [go_sem, h]
  refine hQ1 _ _ (S_ ?_);clear hQ1 Q1
  refine c1_ ?_
  refine n_ ?_
  refine wpM_regionK [4] rfl fun Q1 hQ1 => ?_
  refine S_ ?_
  refine call_rs (place_ok id L a h hL) T_ Tryz.call155 rfl rfl rfl F_ ?_
  rw [show (a.kind - 1).toNat * 6 + a.at'.toNat = pos a from rfl]
  refine S_ ?_
  refine hQ1 _ _ (S_ ?_);clear hQ1 Q1
  refine wpM_ret ?_
  try refine S_ ?_
  refine hQ _ _ (ret0 [] rfl rfl rfl (by rw [Tryz.results153] <;> simp (maxSteps := 1000000) -implicitDefEqProofs (disch := omega) only [go_sem] <;> rfl) rfl ?_ ?_ ?_ ?_)
  all_goals simp -implicitDefEqProofs (disch := omega) only [go_sem, true_or, or_true]
end Go.Proofs.YtmicbfojofcigaaGreat
namespace Go.Proofs.YtmicbfojofcigaaGreat
open Go Sg
set_option linter.unusedSectionVars false
variable [Glob]
set_option maxRecDepth 100000
set_option linter.unusedSimpArgs false
set_option linter.unusedVariables false
set_option maxHeartbeats 4000000
theorem MM.flat_get (m : MM) (hm : m.Six) (a : AD) (h : a.ok = true) : m.flat.getD (pos a) 0 = m.get a := by
  have hk : 1 ≤ a.kind ∧ a.kind ≤ 3 ∧ 0 ≤ a.at' ∧ a.at' < 6 := by simp only [AD.ok, Bool.and_eq_true, decide_eq_true_eq] at h; omega
  have e1 := hm.i
  have e2 := hm.o
  have e3 := hm.v
  unfold MM.flat pos MM.get
  have hk3 : a.kind = 1 ∨ a.kind = 2 ∨ a.kind = 3 := by omega
  simp only [List.getD_eq_getElem?_getD]
  rcases hk3 with h | h | h <;> rw [h] <;> simp only [Int.reduceSub, Int.reduceToNat, Int.reduceBEq, Nat.zero_mul, Nat.one_mul, Nat.zero_add, Int.sub_self, Int.toNat_zero, if_true, if_false, Bool.false_eq_true]
  · rw [List.getElem?_append_left (by omega)]
  · rw [List.getElem?_append_right (by omega), List.getElem?_append_left (by omega)]
    congr 2; omega
  · rw [List.getElem?_append_right (by omega), List.getElem?_append_right (by omega)]
    congr 2; omega
theorem itwo_ok (k a b : Int) : PureF Tryz.prog 160 [.int .i64 k, .int .i64 a, .int .i64 b] [.int .i64 (two k a b)] := by
  refine pureF_of Tryz.func160 rfl Tryz.ntmps160 (by simp) T_ ?_
  intro f0 B Q hQ
  refine g_ [0,1,2] ?_
  refine g_ [1,2,7] ?_
  refine g_ [1,2,7,8] ?_
  refine c_ (fun hc0 => ?_) fun hc0 => ?_
  ·
    refine n_ ?_
    refine wpM_regionK [6] rfl fun Q1 hQ1 => ?_
    refine S_ ?_
    refine cp_ (iadd_ok a b) Tryz.call162 ?_
    refine hQ1 _ _ (S_ ?_);clear hQ1 Q1
    refine e_ Tryz.results160 ?_
    first
    | exact True.intro
    | simp only [two, *, ↓reduceIte, Bool.false_eq_true]
  refine g_ [1,2,7,13] ?_
  refine c_ (fun hc1 => ?_) fun hc1 => ?_
  ·
    refine n_ ?_
    refine wpM_regionK [6] rfl fun Q1 hQ1 => ?_
    refine S_ ?_
    refine cp_ (isub_ok a b) Tryz.call163 ?_
    refine hQ1 _ _ (S_ ?_);clear hQ1 Q1
    refine e_ Tryz.results160 ?_
    first
    | exact True.intro
    | simp only [two, *, ↓reduceIte, Bool.false_eq_true]
  refine g_ [1,2,7,18] ?_
  refine c_ (fun hc2 => ?_) fun hc2 => ?_
  ·
    refine n_ ?_
    refine wpM_regionK [6] rfl fun Q1 hQ1 => ?_
    refine S_ ?_
    refine cp_ (imul_ok a b) Tryz.call164 ?_
    refine hQ1 _ _ (S_ ?_);clear hQ1 Q1
    refine e_ Tryz.results160 ?_
    first
    | exact True.intro
    | simp only [two, *, ↓reduceIte, Bool.false_eq_true]
  refine g_ [1,2,7,23] ?_
  refine c_ (fun hc3 => ?_) fun hc3 => ?_
  ·
    refine n_ ?_
    refine wpM_regionK [6] rfl fun Q1 hQ1 => ?_
    refine S_ ?_
    refine cp_ (iis_ok (decide (a < b))) Tryz.call165 ?_
    refine hQ1 _ _ (S_ ?_);clear hQ1 Q1
    refine e_ Tryz.results160 ?_
    first
    | exact True.intro
    | simp only [two, *, ↓reduceIte, Bool.false_eq_true]
  refine g_ [1,2,7,29] ?_
  refine c_ (fun hc4 => ?_) fun hc4 => ?_
  ·
    refine n_ ?_
    refine wpM_regionK [6] rfl fun Q1 hQ1 => ?_
    refine S_ ?_
    refine cp_ (iis_ok (a == b)) Tryz.call165 ?_
    refine hQ1 _ _ (S_ ?_);clear hQ1 Q1
    refine e_ Tryz.results160 ?_
    first
    | exact True.intro
    | simp only [two, *, ↓reduceIte, Bool.false_eq_true]
  refine g_ [1,2,35] ?_
  refine c_ (fun hc5 => ?_) fun hc5 => ?_
  ·
    refine n_ ?_
    refine wpM_regionK [6] rfl fun Q1 hQ1 => ?_
    refine SD_ ?_
    refine cpD_ (ion_ok a) Tryz.call166 ?_
    first | refine cg_ (fun hb => ion_ok b) Tryz.call166 ?_ | refine cpD_ (ion_ok b) Tryz.call166 ?_
    refine cpD_ (iis_ok (a != 0 && b != 0)) Tryz.call165 ?_
    refine hQ1 _ _ (S_ ?_);clear hQ1 Q1
    refine e_ Tryz.results160 ?_
    first
    | exact True.intro
    | simp only [two, *, ↓reduceIte, Bool.false_eq_true]
  refine n_ ?_
  refine wpM_regionK [6] rfl fun Q1 hQ1 => ?_
  refine SD_ ?_
  refine cpD_ (ion_ok a) Tryz.call166 ?_
  first | refine cg_ (fun hb => ion_ok b) Tryz.call166 ?_ | refine cpD_ (ion_ok b) Tryz.call166 ?_
  refine cpD_ (iis_ok (a != 0 || b != 0)) Tryz.call165 ?_
  refine hQ1 _ _ (S_ ?_);clear hQ1 Q1
  refine e_ Tryz.results160 ?_
  first
  | exact True.intro
  | simp only [two, *, ↓reduceIte, Bool.false_eq_true]
def mobj (id : Nat) (m : MM) : List (Nat × AObj) := [(id, .cells 104 (ints m.flat))]
@[go_sem] theorem mobj_eq (id : Nat) (m : MM) : mobj id m = [(id, .cells 104 (ints m.flat))] := rfl
def OfK (m : MM) (id fo : Nat) (e : Ex) : Prop := CallF Tryz.prog fo [.agg [], .ptr id 0, .agg e.cs] (mobj id m) 0 (fun _ o => o = { rs := [.int .i64 (e.of m)] })
theorem of1_ok (m : MM) (id : Nat) (e : Ex) (h : e.kind = 1) : OfK m id 132 e := by
  have he : e.of m = e.n := by rw [Ex.of_eq, h]; rfl
  unfold OfK; rw [he]
  refine callF_of' Tryz.func132 rfl Tryz.ntmps132 (by simp) ?_
  intro f0 B ns Q hB hns hQ
  have hid : id < B := hB id (by simp [hasKey, lk, mobj])
  obtain rfl : ns = [] := List.eq_nil_of_length_eq_zero hns
  refine g_ [5] ?_
  refine g_ [6] ?_
  refine wpM_ret ?_
  try refine S_ ?_
  refine hQ _ _ (ret0 [] rfl rfl rfl (by rw [Tryz.results132] <;> simp (maxSteps := 1000000) -implicitDefEqProofs (disch := omega) only [go_sem] <;> rfl) rfl ?_ ?_ ?_ ?_)
  all_goals simp -implicitDefEqProofs (disch := omega) only [go_sem, true_or, or_true]
theorem of2_ok (m : MM) (hm : m.Six) (id : Nat) (e : Ex) (h : e.kind = 2) (ha : e.a.ok = true) : OfK m id 150 e := by
  have he : e.of m = m.flat.getD (pos e.a) 0 := by rw [Ex.of_eq, h, MM.flat_get m hm e.a ha]; rfl
  unfold OfK; rw [he]
  refine callF_of' Tryz.func150 rfl Tryz.ntmps150 (by simp) ?_
  intro f0 B ns Q hB hns hQ
  have hid : id < B := hB id (by simp [hasKey, lk, mobj])
  obtain rfl : ns = [] := List.eq_nil_of_length_eq_zero hns
  refine g_ [1,5] ?_
  refine n_ ?_
  refine wpM_regionK [6] rfl fun Q1 hQ1 => ?_
  refine S_ ?_
  refine call_rs (iget_ok id m.flat e.a ha (MM.flat_len hm)) T_ Tryz.call153 rfl rfl rfl F_ ?_
  refine S_ ?_
  refine hQ1 _ _ (S_ ?_);clear hQ1 Q1
  refine wpM_ret ?_
  try refine S_ ?_
  refine hQ _ _ (ret0 [] rfl rfl rfl (by rw [Tryz.results150] <;> simp (maxSteps := 1000000) -implicitDefEqProofs (disch := omega) only [go_sem] <;> rfl) rfl ?_ ?_ ?_ ?_)
  all_goals simp -implicitDefEqProofs (disch := omega) only [go_sem, true_or, or_true]
def RecK (m : MM) (id : Nat) (e : Ex) : Prop := CallF Tryz.prog 34 [.ptr id 0, .agg e.cs] (mobj id m) 0 (fun _ o => o = { rs := [.int .i64 (e.of m)] })
theorem of4_ok (m : MM) (id : Nat) (e : Ex) (h : e.kind = 10) (hl : 0 < e.kids.length) (hr : RecK m id (e.kids.getD 0 default)) : OfK m id 170 e := by
  have he : e.of m = numIs (!((e.kids.getD 0 default).of m != 0)) := by rw [Ex.of_eq m e, h, Ex.ofL_get _ _ 0 hl]; rfl
  unfold OfK; rw [he]
  refine callF_of' Tryz.func170 rfl Tryz.ntmps170 (by simp) ?_
  intro f0 B ns Q hB hns hQ
  have hid : id < B := hB id (by simp [hasKey, lk, mobj])
  obtain rfl : ns = [] := List.eq_nil_of_length_eq_zero hns
  refine g_ [1,5] ?_
  refine n_ ?_
  refine wpM_regionK [6] rfl fun Q1 hQ1 => ?_
  refine S_ ?_
  refine call_rs hr T_ Tryz.call34 rfl rfl rfl F_ ?_
  refine S_ ?_
  refine cp_ (ion_ok ((e.kids.getD 0 default).of m)) Tryz.call166 ?_
  refine cp_ (iis_ok (!((e.kids.getD 0 default).of m != 0))) Tryz.call165 ?_
  refine hQ1 _ _ (S_ ?_);clear hQ1 Q1
  refine wpM_ret ?_
  try refine S_ ?_
  refine hQ _ _ (ret0 [] rfl rfl rfl (by rw [Tryz.results170] <;> simp (maxSteps := 1000000) -implicitDefEqProofs (disch := omega) only [go_sem] <;> rfl) rfl ?_ ?_ ?_ ?_)
  all_goals simp -implicitDefEqProofs (disch := omega) only [go_sem, true_or, or_true]
theorem of3_ok (m : MM) (id : Nat) (e : Ex) (h1 : (e.kind == 1) = false) (h2 : (e.kind == 2) = false) (h3 : (e.kind == 10) = false) (hl : 1 < e.kids.length) (hr : RecK m id (e.kids.getD 0 default)) (hr1 : RecK m id (e.kids.getD 1 default)) : OfK m id 157 e := by
  have hl0 : 0 < e.kids.length := by omega
  have he : e.of m = two e.kind ((e.kids.getD 0 default).of m) ((e.kids.getD 1 default).of m) := by rw [Ex.of_eq m e, h1, h2, h3, Ex.ofL_get _ _ 0 hl0, Ex.ofL_get _ _ 1 hl]; rfl
  unfold OfK; rw [he]
  refine callF_of' Tryz.func157 rfl Tryz.ntmps157 (by simp) ?_
  intro f0 B ns Q hB hns hQ
  have hid : id < B := hB id (by simp [hasKey, lk, mobj])
  obtain rfl : ns = [] := List.eq_nil_of_length_eq_zero hns
  refine g_ [1,5] ?_
  refine n_ ?_
  refine dr_ mixed [6] 0 2 [B + 1, id] [⟨[5],[],[],[],false⟩,⟨[7],[0],[],[],false⟩,⟨[1],[],[],[],false⟩,⟨[5],[],[],[],false⟩,⟨[10],[0],[],[],false⟩,⟨[11],[],[],[],false⟩,⟨[12],[],[],[],false⟩,⟨[9,13],[1],[],[],true⟩,⟨[1],[],[],[],false⟩,⟨[5],[],[],[],false⟩,⟨[16],[0],[],[],false⟩,⟨[17],[],[],[],false⟩,⟨[18],[],[],[],false⟩,⟨[15,19],[1],[],[],true⟩,⟨[8,14,20],[],[],[],true⟩,⟨[21],[],[],[],false⟩] [0,1,2,3,4,5,6,8,9,10,11,12,7,13,14,15] [[],[0],[],[],[3],[3,4],[3,4,5],[2,3,4,5,6],[],[],[9],[9,10],[9,10,11],[2,3,4,5,6,7,8,9,10,11,12],[0,1,2,3,4,5,6,7,8,9,10,11,12,13],[0,1,2,3,4,5,6,7,8,9,10,11,12,13,14]] 2 (htbl := by simp; omega) (hnm := by simp) ?_
  intro O A K hO hA hK;simp only [atL_cons,atL_nil,Nat.reduceAdd,Nat.zero_add] at hO hA
  refine SO_ ?_
  refine loud_r hr (subG_spec T_) Tryz.call34 rfl rfl F_ rfl ?_
  refine SO_ ?_
  refine loud_r hr1 (subG_spec T_) Tryz.call34 rfl rfl F_ rfl ?_
  refine SO_ ?_
  refine lp_ (itwo_ok e.kind ((e.kids.getD 0 default).of m) ((e.kids.getD 1 default).of m)) Tryz.call160 ?_
  refine hK _ (S_ ?_);clear hK K hO hA O A
  refine wpM_ret ?_
  try refine S_ ?_
  refine hQ _ _ (ret0 [] rfl rfl rfl (by rw [Tryz.results157] <;> simp (maxSteps := 1000000) -implicitDefEqProofs (disch := omega) only [go_sem] <;> rfl) rfl ?_ ?_ ?_ ?_)
  all_goals simp -implicitDefEqProofs (disch := omega) only [go_sem, true_or, or_true]
theorem rec_of (m : MM) (hm : m.Six) (id d : Nat) (e : Ex) (h : formD (d + 1) e = true) (ih : ∀ i, i < e.kids.length → RecK m id (e.kids.getD i default)) : ∃ t fo, recOf e.kind = .iface t (.agg []) ∧
    (∀ args w, (callFunc fo args).run Tryz.prog w = .ok (.enter fo args) w) ∧ (∀ (v : Value) w, (method (Tryz.prog.types.size + Made.depth) t v "loop.example/stopgate/impl.of").run Tryz.prog w = .ok (fo, v) w) ∧ OfK m id fo e := by
  obtain ⟨hk, ha, _⟩ := form_inv h
  by_cases h1 : e.kind = 1
  · exact ⟨95, 132, by rw [h1]; rfl, Tryz.call132, method_run info95 Tryz.underlying95 (by simp) (by rfl) rfl rfl, of1_ok m id e h1⟩
  by_cases h2 : e.kind = 2
  · exact ⟨96, 150, by rw [h2]; rfl, Tryz.call150, method_run info96 Tryz.underlying96 (by simp) (by rfl) rfl rfl, of2_ok m hm id e h2 (ha h2)⟩
  by_cases h10 : e.kind = 10
  · have hl : 0 < e.kids.length := by rw [h10] at hk; simp [kidsN] at hk; omega
    exact ⟨98, 170, by rw [h10]; rfl, Tryz.call170, method_run info98 Tryz.underlying98 (by simp) (by rfl) rfl rfl, of4_ok m id e h10 hl (ih 0 hl)⟩
  have g1 : (e.kind == 1) = false := by simpa using h1
  have g2 : (e.kind == 2) = false := by simpa using h2
  have g10 : (e.kind == 10) = false := by simpa using h10
  have h2' := kidsN_two g1 g2 g10 (by omega)
  have ht : isTwo e.kind = true := by
    unfold kidsN at h2'
    rw [g1, g2, g10] at h2'
    simp only [Bool.or_self, Bool.false_eq_true, if_false] at h2'
    unfold isTwo
    cases hh : (decide (e.kind ≥ 3) && decide (e.kind ≤ 9))
    · rw [hh] at h2'; simp at h2'
    · rfl
  have hl : 1 < e.kids.length := by omega
  exact ⟨97, 157, by simp [recOf, g1, g2, ht], Tryz.call157, method_run info97 Tryz.underlying97 (by simp) (by rfl) rfl rfl, of3_ok m id e g1 g2 g10 hl (ih 0 (by omega)) (ih 1 hl)⟩
theorem reckon_ok (m : MM) (hm : m.Six) (id : Nat) (d : Nat) : ∀ (e : Ex), formD d e = true → RecK m id e := by
  induction d with
  | zero => intro e h; cases h
  | succ d ih =>
    intro e he
    have hkids := (form_inv he).2.2
    obtain ⟨t, fo, hr, q1, q2, q3⟩ := rec_of m hm id d e he (fun i hi => ih _ (hkids i hi))
    unfold RecK
    refine callF_of' Tryz.func34 rfl Tryz.ntmps34 (by simp) ?_
    intro f0 B ns Q hB hns hQ
    have hid : id < B := hB id (by simp [hasKey, lk, mobj])
    obtain rfl : ns = [] := List.eq_nil_of_length_eq_zero hns
    refine g_ [0,3] ?_
    refine n_ ?_
    refine dr_ mixed [4] 0 2 [B, id] [⟨[3],[],[],[],false⟩,⟨[5],[0],[],[],false⟩,⟨[6],[],[],[],true⟩,⟨[0],[],[],[],false⟩,⟨[3],[0],[],[],false⟩,⟨[7,8,9],[1],[],[],true⟩,⟨[10],[],[],[],false⟩] [0,1,3,4,2,5,6] [[],[0],[0,1],[],[],[0,1,2,3,4],[0,1,2,3,4,5]] 2 (htbl := by simp; omega) (hnm := by simp) ?_
    intro O A K hO hA hK;simp only [atL_cons,atL_nil,Nat.reduceAdd,Nat.zero_add] at hO hA
    refine SO_ ?_
    refine lp_ (recOf_ok e.kind) Tryz.call31 ?_
    refine loud_inv (l := mobj id m) (ps := [.ptr id 0, .agg e.cs]) (k := 0) q3 q1 q2 rfl (by simp -implicitDefEqProofs (disch := omega) only [go_sem, hr]) F_ (subG_spec T_) rfl ?_
    rintro out rfl
    refine ⟨rfl, ?_⟩
    refine SO_ ?_
    refine hK _ (S_ ?_);clear hK K hO hA O A
    refine wpM_ret ?_
    try refine S_ ?_
    refine hQ _ _ (ret0 [] rfl rfl rfl (by rw [Tryz.results34] <;> simp (maxSteps := 1000000) -implicitDefEqProofs (disch := omega) only [go_sem] <;> rfl) rfl ?_ ?_ ?_ ?_)
    all_goals simp -implicitDefEqProofs (disch := omega) only [go_sem, true_or, or_true]
theorem flat_dt (m : MM) (hm : m.Six) : (m.flat.drop 0).take 6 = m.i ∧ (m.flat.drop 6).take 6 = m.o ∧ (m.flat.drop 12).take 6 = m.v := by
  have e1 := hm.i
  have e2 := hm.o
  have e3 := hm.v
  unfold MM.flat
  refine ⟨?_, ?_, ?_⟩
  · rw [List.drop_zero, List.take_append_of_le_length (by omega), List.take_of_length_le (by omega)]
  · rw [List.drop_append_of_le_length (by omega), List.drop_eq_nil_of_le (by omega), List.nil_append, List.take_append_of_le_length (by omega), List.take_of_length_le (by omega)]
  · rw [show m.i ++ (m.o ++ m.v) = (m.i ++ m.o) ++ m.v by simp, List.drop_append_of_le_length (by simp; omega), List.drop_eq_nil_of_le (by simp; omega), List.nil_append, List.take_of_length_le (by omega)]
end Go.Proofs.YtmicbfojofcigaaGreat
namespace Go.Proofs.YtmicbfojofcigaaGreat
open Go Sg
set_option linter.unusedSectionVars false
variable [Glob]
set_option maxRecDepth 100000
set_option linter.unusedSimpArgs false
set_option linter.unusedVariables false
set_option maxHeartbeats 4000000
theorem readMem_ok' (m : MM) (hm : m.Sm) : CallF Tryz.prog 33 [.agg m.cs] [] 1 (fun ns o => ∃ x p l, ns = [x] ∧ ((m.ok = true ∧ p = .ptr x 0 ∧ l = m.flat) ∨ (m.ok = false ∧ p = .nilp)) ∧ o = { rs := [p, .bool m.ok], nw := [(x, .cells 104 (ints l))] }) := by
  refine (readMem_ok m hm).mono ?_
  rintro ns o ⟨x, rfl, ⟨h, rfl⟩ | ⟨h, l, rfl⟩⟩
  · exact ⟨x, _, _, rfl, .inl ⟨h, rfl, rfl⟩, by rw [h]⟩
  · exact ⟨x, _, l, rfl, .inr ⟨h, rfl⟩, by rw [h]⟩
@[go_sem] theorem subL_bls (θ : TypeId → Nat → Nat → Nat → Option PV) (l : List Bool) : PV.subL θ (bls l) = bls l := by
  induction l with
  | nil => rfl
  | cons x l ih => simp only [bls, List.map_cons, PV.subL, PV.sub] at ih ⊢; rw [ih]
@[go_sem] theorem subL_ints (θ : TypeId → Nat → Nat → Nat → Option PV) (l : List Int) : PV.subL θ (ints l) = ints l := by
  induction l with
  | nil => rfl
  | cons x l ih => simp only [ints, List.map_cons, PV.subL, PV.sub] at ih ⊢; rw [ih]
theorem loc_eq (e : Ex) : (recNil e.kind || (e.kids.length : Int) != kidsR e.kind || !shapeR e) =
    (kidsN e.kind != (e.kids.length : Int) || ((e.kind == 1 && cut e.n != e.n) || (e.kind != 1 && e.n != 0)) || ((e.kind == 2 && !e.a.ok) || (e.kind != 2 && !(e.a.kind == 0 && e.a.at' == 0)))) := by
  unfold recNil kidsR shapeR kidsN noAddr isTwo
  simp only [isNum_cut]
  have hL : 0 ≤ (e.kids.length : Int) := by omega
  generalize (e.kids.length : Int) = L at *
  generalize cut e.n = cn
  generalize e.n = n
  generalize e.a.ok = ok
  generalize e.a.kind = ak
  generalize e.a.at' = aa
  generalize e.kind = k
  by_cases h1 : k = 1
  · subst h1
    rw [Bool.eq_iff_iff]
    cases ok <;> simp <;> omega
  by_cases h2 : k = 2
  · subst h2
    rw [Bool.eq_iff_iff]
    cases ok <;> simp <;> omega
  by_cases h10 : k = 10
  · subst h10
    rw [Bool.eq_iff_iff]
    cases ok <;> simp <;> omega
  have e1 : (k == 1) = false := by simpa using h1
  have e2 : (k == 2) = false := by simpa using h2
  have e3 : (k == 10) = false := by simpa using h10
  rw [e1, e2, e3]
  by_cases h3 : 3 ≤ k ∧ k ≤ 9
  · have f1 : decide (k ≥ 3) = true := by simp; omega
    have f2 : decide (k ≤ 9) = true := by simp; omega
    rw [f1, f2, Bool.eq_iff_iff]
    cases ok <;> simp <;> omega
  · have f : (decide (k ≥ 3) && decide (k ≤ 9)) = false := by
      rw [Bool.and_eq_false_iff]; simp; omega
    have fk : ((k ≥ 3) ∧ (k ≤ 9)) = False := by simp; omega
    rw [f, Bool.eq_iff_iff]
    cases ok <;> simp [bne, h1, h2] <;> omega
theorem form_eq (d : Nat) (e : Ex) : formD (d + 1) e = (!(recNil e.kind || (e.kids.length : Int) != kidsR e.kind || !shapeR e) && e.kids.all (formD d)) := by
  rw [loc_eq, formD]
  cases (kidsN e.kind != (e.kids.length : Int)) <;> simp only [Bool.false_eq_true, if_false, if_true, Bool.true_or, Bool.false_or, Bool.not_true, Bool.false_and]
  cases ((e.kind == 1 && cut e.n != e.n) || (e.kind != 1 && e.n != 0)) <;> simp only [Bool.false_eq_true, if_false, if_true, Bool.true_or, Bool.false_or, Bool.not_true, Bool.false_and]
  cases ((e.kind == 2 && !e.a.ok) || (e.kind != 2 && !(e.a.kind == 0 && e.a.at' == 0))) <;> simp
theorem bad_eq (c deep : Nat) (e : Ex) : badE ((c : Int) + 1) (deep : Int) e = (decide (14 ≤ c) || decide (6 ≤ deep) || (recNil e.kind || (e.kids.length : Int) != kidsR e.kind || !shapeR e)) := by
  unfold badE
  have h1 : decide ((c : Int) + 1 > 14) = decide (14 ≤ c) := by simp; omega
  have h2 : decide ((deep : Int) ≥ 6) = decide (6 ≤ deep) := by simp; omega
  rw [h1, h2]
  simp only [Bool.or_assoc]
theorem vis_sound (d : Nat) : d ≤ 6 → ∀ (e : Ex) (c c' : Nat), vis e (6 - d) c = some c' → formD d e = true ∧ c' = c + manyD d e ∧ c' ≤ 14 := by
  induction d with
  | zero =>
    intro _ e c c' h
    rw [vis_eq, bad_eq] at h
    simp at h
  | succ d ih =>
    intro hd e c c' h
    have hL : ∀ (l : List Ex) (c c' : Nat), c ≤ 14 → visL l (6 - d) c = some c' → l.all (formD d) = true ∧ c' = c + (l.map (manyD d)).sum ∧ c' ≤ 14 := by
      intro l
      induction l with
      | nil => intro c c' hc h; simp [visL] at h; subst h; simp [hc]
      | cons x l ihl =>
        intro c c' hc h
        simp only [visL] at h
        split at h
        · cases h
        · rename_i c1 h1
          obtain ⟨a1, a2, a3⟩ := ih (by omega) x c c1 h1
          obtain ⟨b1, b2, b3⟩ := ihl c1 c' a3 h
          refine ⟨by simp [a1, b1], ?_, b3⟩
          simp only [List.map_cons, List.sum_cons]; omega
    rw [vis_eq, bad_eq] at h
    split at h
    · cases h
    · rename_i hb
      simp only [Bool.or_eq_true, decide_eq_true_eq, not_or] at hb
      obtain ⟨⟨hb1, hb2⟩, hb3⟩ := hb
      have hdeep : 6 - (d + 1) + 1 = 6 - d := by omega
      rw [hdeep] at h
      obtain ⟨a1, a2, a3⟩ := hL e.kids (c + 1) c' (by omega) h
      refine ⟨?_, ?_, a3⟩
      · rw [form_eq, a1]
        simp only [Bool.and_true, Bool.not_eq_true', Bool.or_eq_false_iff]
        simp only [Bool.not_eq_true] at hb3
        exact ⟨⟨hb3.1.1, hb3.1.2⟩, hb3.2⟩
      · simp only [manyD]; omega
theorem vis_complete (d : Nat) : d ≤ 6 → ∀ (e : Ex) (c : Nat), formD d e = true → c + manyD d e ≤ 14 → vis e (6 - d) c = some (c + manyD d e) := by
  induction d with
  | zero => intro _ e c h; cases h
  | succ d ih =>
    intro hd e c hf hm
    have hL : ∀ (l : List Ex) (c : Nat), l.all (formD d) = true → c + (l.map (manyD d)).sum ≤ 14 → visL l (6 - d) c = some (c + (l.map (manyD d)).sum) := by
      intro l
      induction l with
      | nil => intro c _ _; simp [visL]
      | cons x l ihl =>
        intro c hl hs
        simp only [List.all_cons, Bool.and_eq_true] at hl
        simp only [List.map_cons, List.sum_cons] at hs ⊢
        simp only [visL, ih (by omega) x c hl.1 (by omega)]
        rw [ihl _ hl.2 (by omega)]
        congr 1; omega
    rw [form_eq] at hf
    simp only [Bool.and_eq_true, Bool.not_eq_true'] at hf
    simp only [manyD] at hm ⊢
    rw [vis_eq, bad_eq, hf.1]
    have h1 : decide (14 ≤ c) = false := by simp; omega
    have h2 : decide (6 ≤ 6 - (d + 1)) = false := by simp; omega
    rw [h1, h2]
    have hdeep : 6 - (d + 1) + 1 = 6 - d := by omega
    simp only [Bool.or_self, Bool.false_eq_true, if_false, hdeep]
    rw [hL e.kids (c + 1) hf.2 (by omega)]
    congr 1; omega
theorem vis_ok (e : Ex) : (vis e 0 0).isSome = e.ok := by
  rw [Bool.eq_iff_iff, Ex.ok, Bool.and_eq_true, decide_eq_true_eq]
  constructor
  · intro h
    obtain ⟨c', hc⟩ := Option.isSome_iff_exists.1 h
    obtain ⟨a1, a2, a3⟩ := vis_sound 6 (by omega) e 0 c' hc
    exact ⟨a1, by omega⟩
  · rintro ⟨h1, h2⟩
    have := vis_complete 6 (by omega) e 0 h1 (by omega)
    simp at this
    rw [this]; rfl
def iof (e : Ex) (m : MM) : Int := if m.ok && e.ok then e.of m else 0
theorem iof_ok (e : Ex) (m : MM) (he : e.sz ≤ 1099511627776) (hm : m.Sm) : PureF Tryz.prog 13 [.agg e.cs, .agg m.cs] [.int .i64 (iof e m)] := by
  refine pureF_of Tryz.func13 rfl Tryz.ntmps13 (by simp) T_ ?_
  intro f0 B Q hQ
  refine g_ [2,3] ?_
  refine n_ ?_
  refine wpM_regionK [2,5,6] rfl fun Q1 hQ1 => ?_
  refine S_ ?_
  refine call_fn (l := []) (first := []) (cap := []) (ps := [.agg m.cs]) (readMem_ok' m hm) Tryz.call33 rfl rfl rfl G_ T_ ?_
  rintro out ⟨x', p, l, ⟨⟩, hp, rfl⟩
  refine S_ ?_
  refine hQ1 _ _ (S_ ?_);clear hQ1 Q1
  refine n_ ?_
  refine wpM_regionK [2,5,18] rfl fun Q1 hQ1 => ?_
  refine SD_ ?_
  first | refine cg_ (fun hb => iexprOk_ok e he) Tryz.call11 ?_ | refine cpD_ (iexprOk_ok e he) Tryz.call11 ?_
  refine hQ1 _ _ (S_ ?_);clear hQ1 Q1
  refine c_ (fun hc0 => ?_) fun hc0 => ?_
  ·
    refine g_ [4] ?_
    refine e_ Tryz.results13 ?_
    first
    | exact True.intro
    | unfold iof
      first
      | (rw [if_neg]; intro hh
         rw [Bool.and_eq_true] at hh
         rw [hh.1, vis_ok, hh.2] at hc0; cases hc0)
      | rw [if_pos (by rw [hc0.1, hc0.2]; rfl)]
  simp only [Bool.or_eq_false_iff, Bool.not_eq_false', vis_ok] at hc0
  have hsix := MM.ok_six hc0.1
  have hfe : formD 6 e = true := by have := hc0.2; simp only [Ex.ok, Bool.and_eq_true] at this; exact this.1
  have hpp : p = .ptr (B + 2) 0 ∧ l = m.flat := by
    rcases hp with ⟨_, h2, h3⟩ | ⟨h1, _⟩
    · exact ⟨h2, h3⟩
    · rw [hc0.1] at h1; cases h1
  obtain ⟨rfl, rfl⟩ := hpp
  refine n_ ?_
  refine wpM_regionK [4] rfl fun Q1 hQ1 => ?_
  refine S_ ?_
  refine call_fn (l := mobj (B + 2) m) (first := []) (cap := []) (ps := [.ptr (B + 2) 0, .agg e.cs]) (reckon_ok m hsix (B + 2) 6 e hfe) Tryz.call34 rfl rfl rfl G_ T_ ?_
  rintro out rfl
  refine S_ ?_
  refine hQ1 _ _ (S_ ?_);clear hQ1 Q1
  refine e_ Tryz.results13 ?_
  first
  | exact True.intro
  | unfold iof
    first
    | (rw [if_neg]; intro hh
       rw [Bool.and_eq_true] at hh
       rw [hh.1, vis_ok, hh.2] at hc0; cases hc0)
    | rw [if_pos (by rw [hc0.1, hc0.2]; rfl)]
end Go.Proofs.YtmicbfojofcigaaGreat
namespace Go.Proofs.YtmicbfojofcigaaGreat
open Go Sg
set_option linter.unusedSectionVars false
variable [Glob]
set_option maxRecDepth 100000
set_option linter.unusedSimpArgs false
set_option linter.unusedVariables false
set_option maxHeartbeats 4000000
def doOf (s : Sm) : PV :=
  if s.kind == 1 then .iface 148 (.agg [.int .i64 s.to'.kind, .int .i64 s.to'.at', .int .i64 s.e.kind, .int .i64 s.e.n, .int .i64 s.e.a.kind, .int .i64 s.e.a.at', .rows 27 (Ex.csL s.e.kids)])
  else if s.kind == 2 then .iface 150 (.agg [.int .i64 s.e.kind, .int .i64 s.e.n, .int .i64 s.e.a.kind, .int .i64 s.e.a.at', .rows 27 (Ex.csL s.e.kids), .rows 45 (Sm.csL s.th), .rows 45 (Sm.csL s.el)])
  else if s.kind == 3 then .iface 152 (.agg [.int .i64 s.e.kind, .int .i64 s.e.n, .int .i64 s.e.a.kind, .int .i64 s.e.a.at', .rows 27 (Ex.csL s.e.kids), .rows 45 (Sm.csL s.th)]) else .nilif
theorem doOf_pure (s : Sm) : (doOf s).pure = true := by
  unfold doOf
  repeat' split
  all_goals rfl
theorem doOf_ok (s : Sm) : PureF Tryz.prog 98 [.agg s.cs] [doOf s] := by
  refine pureF_of Tryz.func98 rfl Tryz.ntmps98 (by simp) (by simp [PV.pureL, doOf_pure]) ?_
  intro f0 B Q hQ
  refine g_ [1] ?_
  refine g_ [1,4] ?_
  refine g_ [1,4,5] ?_
  refine c_ (fun hc0 => ?_) fun hc0 => ?_
  ·
    refine g_ [2] ?_
    refine e_ Tryz.results98 ?_
    first
    | exact True.intro
    | simp only [doOf, *, ↓reduceIte, Bool.false_eq_true]
  refine g_ [1,4,13] ?_
  refine c_ (fun hc1 => ?_) fun hc1 => ?_
  ·
    refine g_ [2] ?_
    refine e_ Tryz.results98 ?_
    first
    | exact True.intro
    | simp only [doOf, *, ↓reduceIte, Bool.false_eq_true]
  refine g_ [1,23] ?_
  refine c_ (fun hc2 => ?_) fun hc2 => ?_
  ·
    refine g_ [2] ?_
    refine e_ Tryz.results98 ?_
    first
    | exact True.intro
    | simp only [doOf, *, ↓reduceIte, Bool.false_eq_true]
  refine g_ [2] ?_
  refine e_ Tryz.results98 ?_
  first
  | exact True.intro
  | simp only [doOf, *, ↓reduceIte, Bool.false_eq_true]
theorem plain1_ok (s : Sm) (v : List PV) (hv : v.all PV.cell = true) : PureF Tryz.prog 174 [.agg v, .agg s.cs] [.bool (s.to'.ok && s.to'.kind != 1 && (s.th.length : Int) == 0 && (s.el.length : Int) == 0)] := by
  refine pureF_of Tryz.func174 rfl Tryz.ntmps174 (by simp) T_ ?_
  intro f0 B Q hQ
  refine n_ ?_
  refine wpM_regionK [3] rfl fun Q1 hQ1 => ?_
  simp -implicitDefEqProofs (disch := omega) only [go_sem, hv, true_and]
  refine hQ1 _ _ (S_ ?_);clear hQ1 Q1
  refine n_ ?_
  refine wpM_regionK [4] rfl fun Q1 hQ1 => ?_
  refine SD_ ?_
  refine cpD_ (puts_ok s.to') Tryz.call97 ?_
  refine hQ1 _ _ (S_ ?_);clear hQ1 Q1
  refine e_ Tryz.results174 ?_
  first
  | exact True.intro
  | rfl
theorem plain2_ok (s : Sm) (v : List PV) (hv : v.all PV.cell = true) : PureF Tryz.prog 177 [.agg v, .agg s.cs] [.bool (s.to'.kind == 0 && s.to'.at' == 0)] := by
  refine pureF_of Tryz.func177 rfl Tryz.ntmps177 (by simp) T_ ?_
  intro f0 B Q hQ
  refine n_ ?_
  refine wpM_regionK [3] rfl fun Q1 hQ1 => ?_
  simp -implicitDefEqProofs (disch := omega) only [go_sem, hv, true_and]
  refine hQ1 _ _ (S_ ?_);clear hQ1 Q1
  refine g_ [4] ?_
  refine e_ Tryz.results177 ?_
  first
  | exact True.intro
  | rfl
theorem plain3_ok (s : Sm) (v : List PV) (hv : v.all PV.cell = true) : PureF Tryz.prog 180 [.agg v, .agg s.cs] [.bool (s.to'.kind == 0 && s.to'.at' == 0 && (s.el.length : Int) == 0)] := by
  refine pureF_of Tryz.func180 rfl Tryz.ntmps180 (by simp) T_ ?_
  intro f0 B Q hQ
  refine n_ ?_
  refine wpM_regionK [3] rfl fun Q1 hQ1 => ?_
  simp -implicitDefEqProofs (disch := omega) only [go_sem, hv, true_and]
  refine hQ1 _ _ (S_ ?_);clear hQ1 Q1
  refine gD_ [4] ?_
  refine e_ Tryz.results180 ?_
  first
  | exact True.intro
  | rfl
def doNil (s : Sm) : Bool := !(s.kind == 1 || s.kind == 2 || s.kind == 3)
@[go_sem] theorem eql_do (x : Operand) (v : Value) (s : Sm) : binOpA Tryz.prog .eql 134 x (.const v) (doOf s) .nilif = some (.bool (doNil s)) := by
  unfold doOf doNil
  cases h1 : s.kind == 1 <;> cases h2 : s.kind == 2 <;> cases h3 : s.kind == 3 <;> simp [binOpA, eqPair, eqA, Tryz.underlying134, isConstOp]
theorem do_plain (s : Sm) (hn : doNil s = false) : ∃ t v fp, doOf s = .iface t v ∧ (∀ args w, (callFunc fp args).run Tryz.prog w = .ok (.enter fp args) w) ∧
    (∀ (u : Value) w, (method (Tryz.prog.types.size + Made.depth) t u "loop.example/stopgate/impl.plain").run Tryz.prog w = .ok (fp, u) w) ∧ PureF Tryz.prog fp [v, .agg s.cs] [.bool s.plain] := by
  by_cases h1 : s.kind = 1
  · refine ⟨148, _, 174, by simp only [doOf, h1, beq_self_eq_true, if_true]; rfl, Tryz.call174, method_run info148 Tryz.underlying148 (by simp) (by rfl) rfl rfl, ?_⟩
    have := plain1_ok s
    simp only [Sm.plain, h1, beq_self_eq_true, if_true]
    exact this _ (by rfl)
  by_cases h2 : s.kind = 2
  · refine ⟨150, _, 177, by simp only [doOf, h2, beq_self_eq_true, if_true]; rfl, Tryz.call177, method_run info150 Tryz.underlying150 (by simp) (by rfl) rfl rfl, ?_⟩
    have := plain2_ok s
    simp only [Sm.plain, h2, beq_self_eq_true, if_true]
    exact this _ (by rfl)
  have h3 : s.kind = 3 := by simpa [doNil, h1, h2] using hn
  refine ⟨152, _, 180, by simp only [doOf, h3, beq_self_eq_true, if_true]; rfl, Tryz.call180, method_run info152 Tryz.underlying152 (by simp) (by rfl) rfl rfl, ?_⟩
  have := plain3_ok s
  simp only [Sm.plain, h3, beq_self_eq_true, if_true]
  exact this _ (by rfl)
def badS (n : Int) (deep : Int) (s : Sm) : Bool := decide (n > 16) || decide (deep ≥ 4) || doNil s || !s.plain || !(vis s.e 0 0).isSome
mutual
def Sm.vis : Sm → Nat → Nat → Option Nat
  | .mk k a e th el, d, c => if badS ((c : Int) + 1) (d : Int) (.mk k a e th el) then none else match Sm.visL th (d + 1) (c + 1) with
    | some c2 => Sm.visL el (d + 1) c2
    | none => none
def Sm.visL : List Sm → Nat → Nat → Option Nat
  | [], _, c => some c
  | s :: l, d, c => match s.vis d c with
    | some c2 => Sm.visL l d c2
    | none => none
end
end Go.Proofs.YtmicbfojofcigaaGreat
namespace Go.Proofs.YtmicbfojofcigaaGreat
open Go Sg
set_option linter.unusedSectionVars false
variable [Glob]
set_option maxRecDepth 100000
set_option linter.unusedSimpArgs false
set_option linter.unusedVariables false
set_option maxHeartbeats 4000000
theorem Sm.vis_eq (s : Sm) (d c : Nat) : s.vis d c = if badS ((c : Int) + 1) (d : Int) s then none else match Sm.visL s.th (d + 1) (c + 1) with
    | some c2 => Sm.visL s.el (d + 1) c2
    | none => none := by cases s; simp only [Sm.vis, Sm.th, Sm.el] <;> rfl
theorem Sm.visL_app (l : List Sm) : ∀ (r : List Sm) (d c : Nat), Sm.visL (l ++ r) d c = match Sm.visL l d c with
    | some c2 => Sm.visL r d c2
    | none => none := by
  induction l with
  | nil => intro r d c; rfl
  | cons s l ih =>
    intro r d c
    simp only [List.cons_append, Sm.visL]
    cases s.vis d c with
    | none => rfl
    | some c2 => exact ih r d c2
theorem Sm.visL_take (l : List Sm) (d c i : Nat) (h : i < l.length) : Sm.visL (l.take (i + 1)) d c = match Sm.visL (l.take i) d c with
    | some c2 => (l.getD i default).vis d c2
    | none => none := by
  rw [List.take_succ_eq_append_getElem h, Sm.visL_app]
  cases Sm.visL (l.take i) d c with
  | none => rfl
  | some c2 =>
    simp only [Sm.visL, List.getD, List.getElem?_eq_getElem h, Option.getD_some]
    cases (l[i]).vis d c2 <;> rfl
theorem Sm.visL_none {l : List Sm} {d c i : Nat} (h : Sm.visL (l.take i) d c = none) : Sm.visL l d c = none := by
  have := Sm.visL_app (l.take i) (l.drop i) d c
  rw [List.take_append_drop, h] at this
  exact this
def CntO (id : Nat) (l : List Sm) (d c : Nat) (_ : List Nat) (o : COut) : Prop :=
  ∃ (r : Option Nat) (c' : Nat), Sm.visL l d c = r ∧ c' ≤ 17 ∧ (∀ k, r = some k → c' = k ∧ k ≤ 16) ∧ o = { rs := [.bool r.isSome], u := [(id, some (.cells 3 [.int .i64 (c' : Nat)]))] }
def CntF (id : Nat) (l : List Sm) (d c : Nat) : Prop := CallF Tryz.prog 74 [.rows 45 (Sm.csL l), .int .i64 (d : Nat), .ptr id 0] [(id, .cells 3 [.int .i64 (c : Nat)])] 0 (CntO id l d c)
end Go.Proofs.YtmicbfojofcigaaGreat
namespace Go.Proofs.YtmicbfojofcigaaGreat
open Go Sg
set_option linter.unusedSectionVars false
variable [Glob]
set_option maxRecDepth 100000
set_option linter.unusedSimpArgs false
set_option linter.unusedVariables false
set_option maxHeartbeats 4000000
theorem count_ok (id : Nat) : ∀ (N : Nat) (l : List Sm), Sm.szL l ≤ N → Sm.szL l ≤ 1099511627776 → ∀ d c : Nat, d ≤ 4 → c ≤ 16 → CntF id l d c := by
  intro N
  induction N with
  | zero =>
    intro l hN
    have h0 : l.length = 0 := by have := Sm.len_szL l; omega
    obtain rfl : l = [] := List.eq_nil_of_length_eq_zero h0
    intro hs d c hd hc
    refine callF_of' Tryz.func74 rfl Tryz.ntmps74 (by simp) ?_
    intro f0 B ns Q hB hns hQ
    have hid : id < B := hB id (by simp [hasKey, lk])
    obtain rfl : ns = [] := List.eq_nil_of_length_eq_zero hns
    refine g_ [0,1,2] ?_
    refine g_ [1,2,10,11,12] ?_
    refine n_ ?_
    refine wpM_loopS (fun s n s' => s' = s) (0) ?_ ?_
    ·
      exact .here rfl
    rintro n s' rfl
    try refine S_ ?_
    refine g_ [1,2,10,11,12,13] ?_
    refine c_ (fun hc0 => ?_) fun hc0 => ?_
    · simp at hc0
    refine g_ [6] ?_
    refine wpM_ret ?_
    try refine S_ ?_
    refine hQ _ _ (ret0 [(id, some (.cells 3 [.int .i64 (c : Nat)]))] rfl rfl rfl (by rw [Tryz.results74] <;> simp (maxSteps := 1000000) -implicitDefEqProofs (disch := omega) only [go_sem] <;> rfl) ⟨some c, c, rfl, by omega, fun k hk => (by injection hk with hk; omega), rfl⟩ ?_ ?_ ?_ ?_)
    all_goals simp -implicitDefEqProofs (disch := omega) only [go_sem, true_or, or_true]
  | succ N ih =>
    intro l hN hs d c hd hc
    have hlen := Sm.len_szL l
    refine callF_of' Tryz.func74 rfl Tryz.ntmps74 (by simp) ?_
    intro f0 B ns Q hB hns hQ
    have hid : id < B := hB id (by simp [hasKey, lk])
    obtain rfl : ns = [] := List.eq_nil_of_length_eq_zero hns
    have hT : Tryz.prog.cellsOf 3 = 1 := cellsOf3
    refine g_ [0,1,2] ?_
    refine g_ [1,2,10,11,12] ?_
    refine n_ ?_
    refine wpM_loopS (fun s n s' => ∃ (i M ci : Nat), i + n = l.length ∧ B ≤ M ∧ Sm.visL (l.take i) d c = some ci ∧ ci ≤ 16 ∧ s' = { s with env := setE 12 (.int .i64 (i : Nat)) s.env, l := [(id, .cells 3 [.int .i64 (ci : Nat)])], M := M }) (l.length) ?_ ?_
    ·
      refine .of' _ _ ⟨0, _, c, by omega, Nat.le_refl _, rfl, hc, rfl⟩ ?_ ?_ ?_ <;> exact L_
    rintro n s' ⟨i, M, ci, hi, hM, hv, hci, rfl⟩
    try refine S_ ?_
    refine g_ [1,2,10,11,12,13] ?_
    refine c_ (fun hc0 => ?_) fun hc0 => ?_
    ·
      have hi2 : i < l.length := by omega
      have hin := Sm.get_in hi2
      refine g_ [1,2,8,10,11,12] ?_
      refine g_ [1,2,8,10,11,12] ?_
      refine n_ ?_
      refine wpM_regionK [1,2,8,9,10,11,12] rfl fun Q1 hQ1 => ?_
      refine S_ ?_
      refine cp_ (doOf_ok (l.getD i default)) Tryz.call98 ?_
      refine hQ1 _ _ (S_ ?_);clear hQ1 Q1
      refine n_ ?_
      refine wpM_regionK [1,2,8,10,11,12,46] rfl fun Q1 hQ1 => ?_
      refine SD_ ?_
      refine callG (v := .bool (l.getD i default).plain) (fun _ _ hb hk' => ?_) ?_
      · have hb2 := hb
        simp only [Bool.not_eq_true', Bool.or_eq_false_iff] at hb2
        obtain ⟨t, v, fp, hr, q1, q2, q3⟩ := do_plain _ hb2.2
        exact inv_p (args := [.agg (l.getD i default).cs]) q3 q1 q2 rfl rfl (by simp -implicitDefEqProofs (disch := omega) only [go_sem, hb, gd_of hb, hr]) (by simp -implicitDefEqProofs (disch := omega) only [go_sem, hb, gd_of hb]) hk'
      refine SD_ ?_
      first | refine cg_ (fun hb => iexprOk_ok (l.getD i default).e (by omega)) Tryz.call11 ?_ | refine cpD_ (iexprOk_ok (l.getD i default).e (by omega)) Tryz.call11 ?_
      refine hQ1 _ _ (S_ ?_);clear hQ1 Q1
      refine c_ (fun hc1 => ?_) fun hc1 => ?_
      ·
        refine g_ [6] ?_
        refine wpM_ret ?_
        try refine S_ ?_
        refine hQ _ _ (ret0 [(id, some (.cells 3 [.int .i64 ((ci + 1 : Nat) : Int)]))] rfl rfl rfl (by rw [Tryz.results74] <;> simp (maxSteps := 1000000) -implicitDefEqProofs (disch := omega) only [go_sem] <;> rfl) ⟨none, ci + 1, ?_, by omega, fun k hk => (by cases hk), rfl⟩ ?_ ?_ ?_ ?_)
        · refine Sm.visL_none (i := i + 1) ?_
          rw [Sm.visL_take l d c i hi2, hv]
          have hbad : badS ((ci : Int) + 1) (d : Int) (l.getD i default) = true := hc1
          simp only [Sm.vis_eq, hbad, if_true]
        all_goals simp -implicitDefEqProofs (disch := omega) only [go_sem, true_or, or_true]
        rfl
      have hbad : badS ((ci : Int) + 1) (d : Int) (l.getD i default) = false := hc1
      have hdd : d + 1 ≤ 4 := by
        simp only [badS, Bool.or_eq_false_iff, decide_eq_false_iff_not] at hbad; omega
      have hcc : ci + 1 ≤ 16 := by
        simp only [badS, Bool.or_eq_false_iff, decide_eq_false_iff_not] at hbad; omega
      refine n_ ?_
      refine wpM_regionK [1,2,10,11,12,62] rfl fun Q1 hQ1 => ?_
      refine SD_ ?_
      refine call_fn (l := [(id, .cells 3 [.int .i64 ((ci + 1 : Nat) : Int)])]) (first := []) (cap := []) (ps := [.rows 45 (Sm.csL (l.getD i default).th), .int .i64 ((d + 1 : Nat) : Int), .ptr id 0]) (ih (l.getD i default).th (by omega) (by omega) (d + 1) (ci + 1) hdd hcc) Tryz.call74 rfl rfl rfl (by simp -implicitDefEqProofs (disch := omega) only [go_sem] <;> rfl) (by simp -implicitDefEqProofs (disch := omega) only [go_sem] <;> rfl) ?_
      rintro out ⟨r1, c1, hr1, hc1', hk1, rfl⟩
      rcases r1 with _ | k1
      · refine S_ ?_
        refine hQ1 _ _ (S_ ?_)
        refine c1_ ?_
        refine g_ [6] ?_
        refine n_ ?_
        refine wpM_ret ?_
        try refine S_ ?_
        refine hQ _ _ (ret0 [(id, some (.cells 3 [.int .i64 (c1 : Nat)]))] rfl rfl rfl (by rw [Tryz.results74] <;> simp (maxSteps := 1000000) -implicitDefEqProofs (disch := omega) only [go_sem] <;> rfl) ⟨none, c1, ?_, hc1', fun k hk => (by cases hk), rfl⟩ ?_ ?_ ?_ ?_)
        · refine Sm.visL_none (i := i + 1) ?_
          rw [Sm.visL_take l d c i hi2, hv]
          simp only [Sm.vis_eq, hbad, hr1, Bool.false_eq_true, if_false]
        all_goals simp -implicitDefEqProofs (disch := omega) only [go_sem, true_or, or_true]
      obtain ⟨rfl, hk1⟩ := hk1 k1 rfl
      refine SD_ ?_
      refine call_fn (l := [(id, .cells 3 [.int .i64 (c1 : Nat)])]) (first := []) (cap := []) (ps := [.rows 45 (Sm.csL (l.getD i default).el), .int .i64 ((d + 1 : Nat) : Int), .ptr id 0]) (ih (l.getD i default).el (by omega) (by omega) (d + 1) c1 hdd hk1) Tryz.call74 rfl rfl rfl (by simp -implicitDefEqProofs (disch := omega) only [go_sem] <;> rfl) T_ ?_
      rintro out ⟨r2, c2, hr2, hc2', hk2, rfl⟩
      refine SD_ ?_
      refine hQ1 _ _ (S_ ?_);clear hQ1 Q1
      refine c_ (fun hc2 => ?_) fun hc2 => ?_
      ·
        refine g_ [6] ?_
        refine wpM_ret ?_
        try refine S_ ?_
        obtain rfl : r2 = none := by
          cases r2 with
          | none => rfl
          | some k2 => simp at hc2
        refine hQ _ _ (ret0 [(id, some (.cells 3 [.int .i64 (c2 : Nat)]))] rfl rfl rfl (by rw [Tryz.results74] <;> simp (maxSteps := 1000000) -implicitDefEqProofs (disch := omega) only [go_sem] <;> rfl) ⟨none, c2, ?_, hc2', fun k hk => (by cases hk), rfl⟩ ?_ ?_ ?_ ?_)
        · refine Sm.visL_none (i := i + 1) ?_
          rw [Sm.visL_take l d c i hi2, hv]
          simp only [Sm.vis_eq, hbad, hr1, hr2, Bool.false_eq_true, if_false]
        all_goals simp -implicitDefEqProofs (disch := omega) only [go_sem, true_or, or_true]
      refine g_ [1,2,10,11,12] ?_
      obtain ⟨k2, rfl⟩ : ∃ k2, r2 = some k2 := by
        cases r2 with
        | none => simp at hc2
        | some k2 => exact ⟨k2, rfl⟩
      obtain ⟨rfl, hk2⟩ := hk2 k2 rfl
      refine .of' _ _ ⟨n - 1, by omega, i + 1, _, c2, by omega, ?_, ?_, hk2, rfl⟩ ?_ ?_ ?_
      · exact M_
      · rw [Sm.visL_take l d c i hi2, hv]
        simp only [Sm.vis_eq, hbad, hr1, hr2, Bool.false_eq_true, if_false]
      all_goals exact L_
    refine g_ [6] ?_
    refine wpM_ret ?_
    try refine S_ ?_
    obtain rfl : i = l.length := by omega
    rw [List.take_of_length_le (Nat.le_refl _)] at hv
    refine hQ _ _ (ret0 [(id, some (.cells 3 [.int .i64 (ci : Nat)]))] rfl rfl rfl (by rw [Tryz.results74] <;> simp (maxSteps := 1000000) -implicitDefEqProofs (disch := omega) only [go_sem] <;> rfl) ⟨some ci, ci, hv, by omega, fun k hk => (by injection hk with hk; omega), rfl⟩ ?_ ?_ ?_ ?_)
    all_goals simp -implicitDefEqProofs (disch := omega) only [go_sem, true_or, or_true]
end Go.Proofs.YtmicbfojofcigaaGreat
namespace Go.Proofs.YtmicbfojofcigaaGreat
open Go Sg
set_option maxRecDepth 100000
set_option linter.unusedSimpArgs false
set_option linter.unusedVariables false
set_option linter.unusedSectionVars false
set_option maxHeartbeats 4000000
variable [Tab]
@[go_sem] theorem eql_nil2 (x : Operand) (v : Value) : binOpA Tryz.prog .eql 191 x (.const v) .nilif .nilif = some (.bool true) := by
  simp [binOpA, isConstOp, Tryz.underlying191]
@[go_sem] theorem neq_nil2 (x : Operand) (v : Value) : binOpA Tryz.prog .neq 191 x (.const v) .nilif .nilif = some (.bool false) := by
  simp [binOpA, isConstOp, Tryz.underlying191]
end Go.Proofs.YtmicbfojofcigaaGreat
namespace Go.Proofs.YtmicbfojofcigaaGreat
open Go Sg
set_option maxRecDepth 100000
set_option linter.unusedSimpArgs false
set_option linter.unusedVariables false
set_option linter.unusedSectionVars false
set_option maxHeartbeats 4000000
variable [Tab]
def wh (c : MM → Bool) (b : MM → Nat → MM × Nat × Bool) : Nat → MM → Nat → MM × Nat × Bool
  | 0, m, _ => (m, 0, true)
  | g + 1, m, F => if c m then (if (b m F).2.2 then b m F else if (b m F).2.1 = 0 then ((b m F).1, 0, true) else wh c b g (b m F).1 ((b m F).2.1 - 1)) else (m, F, false)
mutual
def Sm.ex : Sm → MM → Nat → MM × Nat × Bool
  | .mk k a e th el, m, F => if k == 1 then (m.put a (e.of m), F, false)
    else if k == 3 then wh (fun m => e.of m != 0) (fun m F => Sm.exL th m F) (F + 1) m F
    else if e.of m != 0 then Sm.exL th m F else Sm.exL el m F
def Sm.exL : List Sm → MM → Nat → MM × Nat × Bool
  | [], m, F => (m, F, false)
  | s :: l, m, F => if (s.ex m F).2.2 then s.ex m F else Sm.exL l (s.ex m F).1 (s.ex m F).2.1
end
@[go_sem] theorem Sm.exL_nil (m : MM) (F : Nat) : Sm.exL [] m F = (m, F, false) := by simp only [Sm.exL]
theorem Sm.ex_eq (s : Sm) (m : MM) (F : Nat) : s.ex m F = if s.kind == 1 then (m.put s.to' (s.e.of m), F, false)
    else if s.kind == 3 then wh (fun m => s.e.of m != 0) (fun m F => Sm.exL s.th m F) (F + 1) m F
    else if s.e.of m != 0 then Sm.exL s.th m F else Sm.exL s.el m F := by cases s; simp only [Sm.ex, Sm.kind, Sm.to', Sm.e, Sm.th, Sm.el] <;> rfl
theorem wh_le {c : MM → Bool} {b : MM → Nat → MM × Nat × Bool} (h : ∀ m F, (b m F).2.1 ≤ F) : ∀ g m F, (wh c b g m F).2.1 ≤ F
  | 0, m, F => by simp [wh]
  | g + 1, m, F => by
    simp only [wh]
    split
    · split
      · exact h m F
      · split
        · simp
        · exact Nat.le_trans (wh_le h g _ _) (by have := h m F; omega)
    · simp
theorem wh_six {c : MM → Bool} {b : MM → Nat → MM × Nat × Bool} (h : ∀ m F, m.Six → (b m F).1.Six) : ∀ g m F, m.Six → (wh c b g m F).1.Six
  | 0, m, F => fun hm => hm
  | g + 1, m, F => fun hm => by
    simp only [wh]
    split
    · split
      · exact h m F hm
      · split
        · exact h m F hm
        · exact wh_six h g _ _ (h m F hm)
    · exact hm
mutual
theorem Sm.ex_le : (s : Sm) → (m : MM) → (F : Nat) → (s.ex m F).2.1 ≤ F
  | .mk k a e th el, m, F => by
    simp only [Sm.ex]
    split
    · simp
    · split
      · exact wh_le (fun m F => Sm.exL_le th m F) _ _ _
      · split
        · exact Sm.exL_le th m F
        · exact Sm.exL_le el m F
theorem Sm.exL_le : (l : List Sm) → (m : MM) → (F : Nat) → (Sm.exL l m F).2.1 ≤ F
  | [], m, F => by simp [Sm.exL]
  | s :: l, m, F => by
    simp only [Sm.exL]
    split
    · exact Sm.ex_le s m F
    · exact Nat.le_trans (Sm.exL_le l _ _) (Sm.ex_le s m F)
end
mutual
theorem Sm.ex_six : (s : Sm) → (m : MM) → (F : Nat) → m.Six → (s.ex m F).1.Six
  | .mk k a e th el, m, F => fun hm => by
    simp only [Sm.ex]
    split
    · exact MM.put_six hm _ _
    · split
      · exact wh_six (fun m F hm => Sm.exL_six th m F hm) _ _ _ hm
      · split
        · exact Sm.exL_six th m F hm
        · exact Sm.exL_six el m F hm
theorem Sm.exL_six : (l : List Sm) → (m : MM) → (F : Nat) → m.Six → (Sm.exL l m F).1.Six
  | [], m, F => fun hm => hm
  | s :: l, m, F => fun hm => by
    simp only [Sm.exL]
    split
    · exact Sm.ex_six s m F hm
    · exact Sm.exL_six l _ _ (Sm.ex_six s m F hm)
end
theorem pair3 {x : MM × Nat × Bool} (h : x.2.2 = false) : (x.1, x.2.1, false) = x := by rw [← h]
theorem Sm.exL_app (l r : List Sm) (m : MM) (F : Nat) : Sm.exL (l ++ r) m F = if (Sm.exL l m F).2.2 then Sm.exL l m F else Sm.exL r (Sm.exL l m F).1 (Sm.exL l m F).2.1 := by
  induction l generalizing m F with
  | nil => simp [Sm.exL]
  | cons s l ih =>
    simp only [List.cons_append, Sm.exL]
    split
    · rfl
    · rw [ih]
theorem Sm.exL_take (l : List Sm) (m : MM) (F i : Nat) (h : i < l.length) : Sm.exL (l.take (i + 1)) m F = if (Sm.exL (l.take i) m F).2.2 then Sm.exL (l.take i) m F else (l.getD i default).ex (Sm.exL (l.take i) m F).1 (Sm.exL (l.take i) m F).2.1 := by
  rw [List.take_succ_eq_append_getElem h, Sm.exL_app]
  split
  · rfl
  · simp only [Sm.exL, List.getD, List.getElem?_eq_getElem h, Option.getD_some]
    split
    · rfl
    · rename_i h1; rw [Bool.not_eq_true] at h1; exact pair3 h1
theorem Sm.exL_long {l : List Sm} {m : MM} {F i : Nat} (h : (Sm.exL (l.take i) m F).2.2 = true) : Sm.exL l m F = Sm.exL (l.take i) m F := by
  have := Sm.exL_app (l.take i) (l.drop i) m F
  rw [List.take_append_drop, if_pos h] at this
  exact this
theorem formS_at {d : Nat} {l : List Sm} (h : formS d l = true) {i : Nat} (hi : i < l.length) : (l.getD i default).plain = true ∧ (l.getD i default).e.ok = true ∧ ∃ d', formS d' (l.getD i default).th = true ∧ formS d' (l.getD i default).el = true := by
  cases d with
  | zero => simp only [formS, beq_iff_eq] at h; omega
  | succ d =>
    simp only [formS, List.all_eq_true] at h
    have := h (l.getD i default) (by simp [List.getD, hi])
    simp only [Bool.and_eq_true] at this
    exact ⟨this.1.1.1, this.1.1.2, d, this.1.2, this.2⟩
theorem ok_form {e : Ex} (h : e.ok = true) : formD 6 e = true := by
  simp only [Ex.ok, Bool.and_eq_true] at h; first | exact h.1 | exact h.2
theorem put_flat {m : MM} (hm : m.Six) {a : AD} (ha : a.ok = true) (h1 : a.kind ≠ 1) (n : Int) : (m.put a n).flat = m.flat.set (pos a) (cut n) := by
  have hk : 1 ≤ a.kind ∧ a.kind ≤ 3 ∧ 0 ≤ a.at' ∧ a.at' < 6 := by simp only [AD.ok, Bool.and_eq_true, decide_eq_true_eq] at ha; omega
  have e1 := hm.i
  have e2 := hm.o
  have h23 : a.kind = 2 ∨ a.kind = 3 := by omega
  rcases h23 with h2 | h2
  · rw [MM.put2 (by rw [h2]; rfl)]
    unfold MM.flat pos
    rw [h2]
    show m.i ++ (m.o.set a.at'.toNat (cut n) ++ m.v) = (m.i ++ (m.o ++ m.v)).set (1 * 6 + a.at'.toNat) (cut n)
    rw [List.set_append_right _ _ (by omega), List.set_append_left _ _ (by omega)]
    congr 3; omega
  · rw [MM.put3 (by rw [h2]; rfl) (by rw [h2]; rfl)]
    unfold MM.flat pos
    rw [h2]
    show m.i ++ (m.o ++ m.v.set a.at'.toNat (cut n)) = (m.i ++ (m.o ++ m.v)).set (2 * 6 + a.at'.toNat) (cut n)
    rw [List.set_append_right _ _ (by omega), List.set_append_right _ _ (by omega)]
    congr 3; omega
def rfoot (r id F : Nat) (m : MM) : List (Nat × AObj) := [(r, .cells 194 [.ptr id 0, .int .i64 (F : Int)]), (id, .cells 104 (ints m.flat))]
@[go_sem] theorem rfoot_eq (r id F : Nat) (m : MM) : rfoot r id F m = [(r, .cells 194 [.ptr id 0, .int .i64 (F : Int)]), (id, .cells 104 (ints m.flat))] := rfl
def ru (r id : Nat) (x : MM × Nat × Bool) : List (Nat × Option AObj) := [(r, some (.cells 194 [.ptr id 0, .int .i64 (x.2.1 : Int)])), (id, some (.cells 104 (ints x.1.flat)))]
@[go_sem] theorem ru_eq (r id : Nat) (x : MM × Nat × Bool) : ru r id x = [(r, some (.cells 194 [.ptr id 0, .int .i64 (x.2.1 : Int)])), (id, some (.cells 104 (ints x.1.flat)))] := rfl
end Go.Proofs.YtmicbfojofcigaaGreat
namespace Go.Proofs.YtmicbfojofcigaaGreat
open Go Sg
set_option maxRecDepth 100000
set_option linter.unusedSimpArgs false
set_option linter.unusedVariables false
set_option linter.unusedSectionVars false
set_option maxHeartbeats 4000000
variable [Tab]
theorem badS_eq (n d : Int) (s : Sm) : badS n d s = (decide (n > 16) || decide (d ≥ 4) || !(s.plain && s.e.ok)) := by
  unfold badS
  rw [vis_ok]
  cases hp : s.plain
  · simp
  · have : doNil s = false := by
      unfold Sm.plain at hp
      unfold doNil
      cases h1 : s.kind == 1 <;> cases h2 : s.kind == 2 <;> cases h3 : s.kind == 3 <;> simp_all
    rw [this]
    cases s.e.ok <;> simp
theorem manyS_cons (k : Nat) (s : Sm) (l : List Sm) : manyS (k + 1) (s :: l) = 1 + manyS k s.th + manyS k s.el + manyS (k + 1) l := by
  simp only [manyS, List.length_cons, List.map_cons, List.sum_cons]; omega
theorem formS_cons (k : Nat) (s : Sm) (l : List Sm) : formS (k + 1) (s :: l) = (s.plain && s.e.ok && formS k s.th && formS k s.el && formS (k + 1) l) := by
  simp only [formS, List.all_cons]
theorem manyS_nil (k : Nat) : manyS k [] = 0 := by cases k <;> rfl
theorem formS_nil (k : Nat) : formS k [] = true := by cases k <;> rfl
theorem visL_eq (k : Nat) : ∀ (l : List Sm) (d c : Nat), d + k = 4 → c ≤ 16 → Sm.visL l d c = if formS k l = true ∧ c + manyS k l ≤ 16 then some (c + manyS k l) else none := by
  induction k with
  | zero =>
    intro l d c hd hc
    cases l with
    | nil => simp [Sm.visL, formS, manyS, hc]
    | cons s l =>
      simp only [Sm.visL, Sm.vis_eq, badS_eq]
      have : decide ((d : Int) ≥ 4) = true := by simp; omega
      simp [this, formS]
  | succ k ih =>
    intro l
    induction l with
    | nil => intro d c hd hc; simp [Sm.visL, formS_nil, manyS_nil, hc]
    | cons s l ihl =>
      intro d c hd hc
      simp only [Sm.visL, Sm.vis_eq, badS_eq]
      have hd4 : decide ((d : Int) ≥ 4) = false := by simp; omega
      rw [manyS_cons, formS_cons, hd4, Bool.or_false]
      by_cases h16 : c + 1 > 16
      · have : decide (((c : Int) + 1) > 16) = true := by simp; omega
        rw [this, Bool.true_or, if_pos rfl, if_neg (by omega)]
      · have : decide (((c : Int) + 1) > 16) = false := by simp; omega
        rw [this, Bool.false_or]
        cases hp : (s.plain && s.e.ok)
        · simp
        · simp only [Bool.not_true, Bool.false_eq_true, if_false, Bool.true_and]
          rw [ih s.th (d + 1) (c + 1) (by omega) (by omega)]
          by_cases h1 : formS k s.th = true ∧ c + 1 + manyS k s.th ≤ 16
          · rw [if_pos h1]
            dsimp only
            rw [ih s.el (d + 1) _ (by omega) h1.2]
            by_cases h2 : formS k s.el = true ∧ c + 1 + manyS k s.th + manyS k s.el ≤ 16
            · rw [if_pos h2]
              dsimp only
              rw [ihl d _ hd h2.2]
              rw [h1.1, h2.1]
              simp only [Bool.true_and]
              have e : c + 1 + manyS k s.th + manyS k s.el + manyS (k + 1) l = c + (1 + manyS k s.th + manyS k s.el + manyS (k + 1) l) := by omega
              rw [e]
            · rw [if_neg h2, if_neg]
              rintro ⟨g1, g2⟩
              simp only [Bool.and_eq_true] at g1
              exact h2 ⟨g1.1.2, by omega⟩
          · rw [if_neg h1, if_neg]
            rintro ⟨g1, g2⟩
            simp only [Bool.and_eq_true] at g1
            exact h1 ⟨g1.1.1, by omega⟩
theorem visL_ok (l : List Sm) : Sm.visL l 0 0 = if okS l = true then some (manyS 4 l) else none := by
  rw [visL_eq 4 l 0 0 rfl (by omega)]
  simp only [Nat.zero_add, okS, Bool.and_eq_true, decide_eq_true_eq, and_comm]
theorem visL_is (l : List Sm) : (Sm.visL l 0 0).isSome = okS l := by
  rw [visL_ok]; cases okS l <;> rfl
theorem okS_form {l : List Sm} (h : okS l = true) : formS 4 l = true ∧ manyS 4 l ≤ 16 := by
  simpa [okS, and_comm] using h
theorem istmtsOk_ok (l : List Sm) (hs : Sm.szL l ≤ 1099511627776) : PureF Tryz.prog 41 [.rows 45 (Sm.csL l)] [.bool (okS l)] := by
  refine pureF_of Tryz.func41 rfl Tryz.ntmps41 (by simp) T_ ?_
  intro f0 B Q hQ
  have hv := visL_is l
  refine g_ [0] ?_
  refine g_ [0,3] ?_
  refine n_ ?_
  refine wpM_regionK [2] rfl fun Q1 hQ1 => ?_
  refine S_ ?_
  refine call_fn (l := [(B, .cells 3 [.int .i64 ((0 : Nat) : Int)])]) (first := []) (cap := []) (ps := [.rows 45 (Sm.csL l), .int .i64 ((0 : Nat) : Int), .ptr B 0]) (count_ok B _ l (Nat.le_refl _) hs 0 0 (by omega) (by omega)) Tryz.call74 rfl rfl rfl G_ (by simp -implicitDefEqProofs (disch := omega) only [go_sem, Int.natCast_zero]) ?_
  rintro out ⟨r1, c1, hr1, hc1, hk1, rfl⟩
  refine S_ ?_
  refine hQ1 _ _ (S_ ?_);clear hQ1 Q1
  refine e_ Tryz.results41 ?_
  first
  | exact True.intro
  | rw [← hr1, hv]
def manyOk (l : List Sm) : Nat := if okS l then manyS 4 l else 0
end Go.Proofs.YtmicbfojofcigaaGreat
namespace Go.Proofs.YtmicbfojofcigaaGreat
open Go Sg
set_option maxRecDepth 100000
set_option linter.unusedSimpArgs false
set_option linter.unusedVariables false
set_option linter.unusedSectionVars false
set_option maxHeartbeats 4000000
variable [Tab]
def endO (x : MM × Nat × Bool) : MM × Int × Int := (x.1, if x.2.2 then 1 else 0, if x.2.2 then 0 else (x.2.1 : Int))
def noM : MM := ⟨[], [], []⟩
def runOk (m : MM) (l : List Sm) (F : Int) : Bool := m.ok && okS l && decide (0 ≤ F) && decide (F ≤ 100)
def runS (m : MM) (l : List Sm) (F : Int) : MM × Int × Int := if runOk m l F then endO (Sm.exL l m F.toNat) else (noM, 2, 0)
end Go.Proofs.YtmicbfojofcigaaGreat
namespace Go.Proofs.YtmicbfojofcigaaGreat
open Go Sg
set_option maxRecDepth 100000
set_option linter.unusedSimpArgs false
set_option linter.unusedVariables false
set_option linter.unusedSectionVars false
set_option maxHeartbeats 4000000
variable [Tab]
theorem Ex.ext' {a b : Ex} (h1 : a.kind = b.kind) (h2 : a.n = b.n) (h3 : a.a = b.a) (h4 : a.kids = b.kids) : a = b := by
  cases a; cases b
  simp only [Ex.kind, Ex.n, Ex.a, Ex.kids] at h1 h2 h3 h4
  subst h1; subst h2; subst h3; subst h4; rfl
open Classical in
noncomputable def same {α : Type} (a b : α) : Bool := decide (a = b)
theorem same_iff {α : Type} {a b : α} : same a b = true ↔ a = b := by simp [same]
theorem same_no {α : Type} {a b : α} (h : a ≠ b) : same a b = false := by simp [same, h]
theorem same_self {α : Type} (a : α) : same a a = true := by simp [same]
def numX (n : Int) : Ex := .mk 1 n ⟨0, 0⟩ []
def noX : Ex := .mk 0 0 ⟨0, 0⟩ []
def Ex.isN (e : Ex) (n : Int) : Bool := e.kind == 1 && e.n == n
noncomputable def slim2 (e a b : Ex) : Ex :=
  if a.kind == 1 && b.kind == 1 then numX (two e.kind a.n b.n)
  else if e.kind == 3 && b.isN 0 || e.kind == 4 && b.isN 0 || e.kind == 5 && b.isN 1 then a
  else if e.kind == 3 && a.isN 0 || e.kind == 5 && a.isN 1 then b
  else if e.kind == 5 && (a.isN 0 || b.isN 0) || e.kind == 8 && (a.isN 0 || b.isN 0) then numX 0
  else if e.kind == 7 && same a b then numX 1
  else if (e.kind == 6 || e.kind == 4) && same a b then numX 0
  else e
noncomputable def slimN (e : Ex) : Ex :=
  if e.kind == 10 && (e.kids.getD 0 default).kind == 1 then numX (numIs (!((e.kids.getD 0 default).n != 0)))
  else if (e.kids.length : Int) == 2 then slim2 e (e.kids.getD 0 default) (e.kids.getD 1 default) else e
mutual
noncomputable def Ex.slim : Ex → Ex
  | .mk k n a l => slimN (.mk k n a (Ex.slimL l))
noncomputable def Ex.slimL : List Ex → List Ex
  | [] => []
  | e :: l => e.slim :: Ex.slimL l
end
theorem Ex.slimL_map (l : List Ex) : Ex.slimL l = l.map Ex.slim := by
  induction l with
  | nil => rfl
  | cons e l ih => simp [Ex.slimL, ih]
theorem Ex.slim_eq (e : Ex) : e.slim = slimN (.mk e.kind e.n e.a (Ex.slimL e.kids)) := by cases e; simp only [Ex.slim, Ex.kind, Ex.n, Ex.a, Ex.kids]
def Sm.no (s : Sm) : Bool := (s.kind == 1 && s.e.kind == 2 && (s.e.a.kind == s.to'.kind && s.e.a.at' == s.to'.at')) || (s.kind == 3 && s.e.isN 0) || (s.kind == 2 && (s.th.length : Int) == 0 && (s.el.length : Int) == 0)
def rb (s : Sm) : List Sm := if s.no then [] else if s.kind == 2 && s.e.kind == 1 && s.e.n != 0 then s.th else if s.kind == 2 && s.e.kind == 1 then s.el else [s]
mutual
noncomputable def Sm.sl : Sm → List Sm
  | .mk k a e th el => rb (.mk k a e.slim (Sm.slL th) (Sm.slL el))
noncomputable def Sm.slL : List Sm → List Sm
  | [] => []
  | s :: l => s.sl ++ Sm.slL l
end
noncomputable def Sm.inn (s : Sm) : Sm := .mk s.kind s.to' s.e.slim (Sm.slL s.th) (Sm.slL s.el)
theorem Sm.sl_eq (s : Sm) : s.sl = rb s.inn := by cases s; simp only [Sm.sl, Sm.inn, Sm.kind, Sm.to', Sm.e, Sm.th, Sm.el]
theorem Sm.slL_app (l r : List Sm) : Sm.slL (l ++ r) = Sm.slL l ++ Sm.slL r := by
  induction l with
  | nil => rfl
  | cons s l ih => simp only [List.cons_append, Sm.slL, ih, List.append_assoc]
theorem Sm.slL_take (l : List Sm) (i : Nat) (h : i < l.length) : Sm.slL (l.take (i + 1)) = Sm.slL (l.take i) ++ (l.getD i default).sl := by
  rw [List.take_succ_eq_append_getElem h, Sm.slL_app]
  simp [Sm.slL, List.getD, h]
theorem form_up (d : Nat) : ∀ e : Ex, formD d e = true → formD (d + 1) e = true := by
  induction d with
  | zero => intro e h; cases h
  | succ d ih =>
    intro e h
    rw [formD] at h ⊢
    split at h
    · cases h
    · rename_i h1
      rw [if_neg h1]
      split at h
      · cases h
      · rename_i h2
        rw [if_neg h2]
        split at h
        · cases h
        · rename_i h3
          rw [if_neg h3]
          rw [List.all_eq_true] at h ⊢
          exact fun x hx => ih x (h x hx)
theorem cut_cut' (n : Int) : cut (cut n) = cut n := by unfold cut; omega
theorem cut_numIs (b : Bool) : cut (numIs b) = numIs b := by cases b <;> rfl
theorem cut_two (k a b : Int) : cut (two k a b) = two k a b := by
  unfold two
  repeat' split
  all_goals first | exact cut_cut' _ | exact cut_numIs _
theorem form_num {n : Int} (h : cut n = n) (d : Nat) : formD (d + 1) (numX n) = true := by
  rw [formD]
  show (if _ then false else if _ then false else if _ then false else _) = true
  rw [if_neg (by simp [numX, Ex.kind, Ex.kids, kidsN]), if_neg (by simp [numX, Ex.kind, Ex.n, h]), if_neg (by simp [numX, Ex.kind, Ex.a])]
  rfl
theorem form_kids {d : Nat} {e : Ex} {l : List Ex} (h : formD (d + 1) e = true) (hl : l.length = e.kids.length) (hk : l.all (formD d) = true) : formD (d + 1) (.mk e.kind e.n e.a l) = true := by
  rw [formD] at h ⊢
  show (if kidsN e.kind != (l.length : Int) then false else if (e.kind == 1 && cut e.n != e.n) || (e.kind != 1 && e.n != 0) then false else if (e.kind == 2 && !e.a.ok) || (e.kind != 2 && !(e.a.kind == 0 && e.a.at' == 0)) then false else l.all (formD d)) = true
  rw [hl]
  split at h
  · cases h
  · rename_i h1
    rw [if_neg h1]
    split at h
    · cases h
    · rename_i h2
      rw [if_neg h2]
      split at h
      · cases h
      · rename_i h3
        rw [if_neg h3]; exact hk
theorem form_len {d : Nat} {e : Ex} (h : formD (d + 1) e = true) : (e.kids.length = 0 ∧ (e.kind = 1 ∨ e.kind = 2)) ∨ (e.kids.length = 1 ∧ e.kind = 10) ∨ (e.kids.length = 2 ∧ 3 ≤ e.kind ∧ e.kind ≤ 9) := by
  have := (form_inv h).1
  unfold kidsN at this
  split at this
  · rename_i h1; simp at h1; left; exact ⟨by omega, h1⟩
  · split at this
    · rename_i h1 h2; simp at h2; right; left; exact ⟨by omega, h2⟩
    · split at this
      · rename_i h1 h2 h3; simp at h3; right; right; exact ⟨by omega, h3⟩
      · omega
theorem slim2_form {d : Nat} {e : Ex} (h : formD (d + 1) e = true) (h0 : formD d (e.kids.getD 0 default) = true) (h1 : formD d (e.kids.getD 1 default) = true) : formD (d + 1) (slim2 e (e.kids.getD 0 default) (e.kids.getD 1 default)) = true := by
  unfold slim2
  repeat' split
  all_goals first | exact form_num (cut_two _ _ _) _ | exact form_num (by decide) _ | exact form_up _ _ h0 | exact form_up _ _ h1 | exact h
theorem slimN_form {d : Nat} {e : Ex} (h : formD (d + 1) e = true) : formD (d + 1) (slimN e) = true := by
  unfold slimN
  split
  · exact form_num (cut_numIs _) _
  · split
    · rename_i h2
      have h2' : e.kids.length = 2 := by simp at h2; omega
      exact slim2_form h ((form_inv h).2.2 0 (by omega)) ((form_inv h).2.2 1 (by omega))
    · exact h
theorem slim_form (d : Nat) : ∀ e : Ex, formD d e = true → formD d e.slim = true := by
  induction d with
  | zero => intro e h; cases h
  | succ d ih =>
    intro e h
    rw [Ex.slim_eq]
    refine slimN_form (form_kids h (by rw [Ex.slimL_map, List.length_map]) ?_)
    rw [Ex.slimL_map, List.all_map]
    rw [List.all_eq_true]
    intro x hx
    obtain ⟨i, hi, rfl⟩ := List.getElem_of_mem hx
    have := (form_inv h).2.2 i hi
    rw [List.getD_eq_getElem?_getD, List.getElem?_eq_getElem hi] at this
    exact ih _ this
noncomputable def Ex.node (e : Ex) : Ex := .mk e.kind e.n e.a (Ex.slimL e.kids)
theorem node_form {d : Nat} {e : Ex} (h : formD (d + 1) e = true) : formD (d + 1) e.node = true := by
  refine form_kids h (by rw [Ex.slimL_map, List.length_map]) ?_
  rw [Ex.slimL_map, List.all_map, List.all_eq_true]
  intro x hx
  obtain ⟨i, hi, rfl⟩ := List.getElem_of_mem hx
  have := (form_inv h).2.2 i hi
  rw [List.getD_eq_getElem?_getD, List.getElem?_eq_getElem hi] at this
  exact slim_form _ _ this
theorem Ex.slim_node (e : Ex) : e.slim = slimN e.node := e.slim_eq
theorem slim2_sz {e : Ex} (h : e.kids.length = 2) : (slim2 e (e.kids.getD 0 default) (e.kids.getD 1 default)).sz ≤ e.sz := by
  have h0 := Ex.kid_sz (e := e) (k := 0) (by omega)
  have h1 := Ex.kid_sz (e := e) (k := 1) (by omega)
  have hn : ∀ n, (numX n).sz = 1 := fun n => by simp [numX, Ex.sz, Ex.szL]
  unfold slim2
  repeat' split
  all_goals first | omega | (rw [hn]; omega)
theorem slimN_sz (e : Ex) : (slimN e).sz ≤ e.sz := by
  have hn : ∀ n, (numX n).sz = 1 := fun n => by simp [numX, Ex.sz, Ex.szL]
  have hp := e.sz_pos
  unfold slimN
  split
  · rw [hn]; omega
  · split
    · rename_i h2
      exact slim2_sz (by simp at h2; omega)
    · exact Nat.le_refl _
mutual
theorem Ex.slim_sz : (e : Ex) → e.slim.sz ≤ e.sz
  | .mk k n a l => by
    rw [Ex.slim]
    refine Nat.le_trans (slimN_sz _) ?_
    simp only [Ex.sz]
    have := Ex.slimL_sz l
    omega
theorem Ex.slimL_sz : (l : List Ex) → Ex.szL (Ex.slimL l) ≤ Ex.szL l
  | [] => Nat.le_refl _
  | e :: l => by
    simp only [Ex.slimL, Ex.szL]
    have := Ex.slim_sz e
    have := Ex.slimL_sz l
    omega
end
theorem many_sz (d : Nat) : ∀ e : Ex, formD d e = true → manyD d e = e.sz := by
  induction d with
  | zero => intro e h; cases h
  | succ d ih =>
    intro e h
    have hk : ∀ x ∈ e.kids, formD d x = true := by
      intro x hx
      obtain ⟨i, hi, rfl⟩ := List.getElem_of_mem hx
      have := (form_inv h).2.2 i hi
      rw [List.getD_eq_getElem?_getD, List.getElem?_eq_getElem hi] at this
      exact this
    rw [Ex.sz_eq, manyD]
    have : ∀ l : List Ex, (∀ x ∈ l, formD d x = true) → (l.map (manyD d)).sum = Ex.szL l := by
      intro l
      induction l with
      | nil => intro _; rfl
      | cons x l ihl =>
        intro hl
        simp only [List.map_cons, List.sum_cons, Ex.szL]
        rw [ih x (hl x (by simp)), ihl fun y hy => hl y (by simp [hy])]
    rw [this _ hk]
theorem slim_ok {e : Ex} (h : e.ok = true) : e.slim.ok = true := by
  simp only [Ex.ok, Bool.and_eq_true, decide_eq_true_eq] at h ⊢
  have h1 := slim_form 6 e h.1
  refine ⟨h1, ?_⟩
  rw [many_sz 6 _ h1]
  have h2 := h.2
  rw [many_sz 6 _ h.1] at h2
  have := e.slim_sz
  omega
theorem formS_up (d : Nat) : ∀ l : List Sm, formS d l = true → formS (d + 1) l = true := by
  induction d with
  | zero =>
    intro l h
    simp only [formS, beq_iff_eq] at h
    have : l = [] := List.eq_nil_of_length_eq_zero (by omega)
    subst this; rfl
  | succ d ih =>
    intro l h
    rw [formS, List.all_eq_true] at h ⊢
    intro s hs
    have := h s hs
    simp only [Bool.and_eq_true] at this ⊢
    exact ⟨⟨this.1.1, ih _ this.1.2⟩, ih _ this.2⟩
theorem formS_app {d : Nat} {l r : List Sm} (hl : formS (d + 1) l = true) (hr : formS (d + 1) r = true) : formS (d + 1) (l ++ r) = true := by
  rw [formS] at hl hr ⊢
  rw [List.all_append, hl, hr]; rfl
theorem inn_plain {s : Sm} (h : s.plain = true) : s.inn.plain = true := by
  have e1 : ∀ l : List Sm, (l.length : Int) = 0 → ((Sm.slL l).length : Int) = 0 := by
    intro l hl
    have : l = [] := List.eq_nil_of_length_eq_zero (by omega)
    subst this; rfl
  have key : s.inn.plain = (if s.kind == 1 then s.to'.ok && s.to'.kind != 1 && ((Sm.slL s.th).length : Int) == 0 && ((Sm.slL s.el).length : Int) == 0
    else if s.kind == 2 then s.to'.kind == 0 && s.to'.at' == 0
    else if s.kind == 3 then s.to'.kind == 0 && s.to'.at' == 0 && ((Sm.slL s.el).length : Int) == 0 else false) := rfl
  rw [key]
  unfold Sm.plain at h
  split at h
  · rename_i h1
    rw [if_pos h1]
    simp only [Bool.and_eq_true, beq_iff_eq] at h ⊢
    exact ⟨⟨h.1.1, e1 _ h.1.2⟩, e1 _ h.2⟩
  · rename_i h1
    rw [if_neg h1]
    split at h
    · rename_i h2; rw [if_pos h2]; exact h
    · rename_i h2
      rw [if_neg h2]
      split at h
      · rename_i h3
        rw [if_pos h3]
        simp only [Bool.and_eq_true, beq_iff_eq] at h ⊢
        exact ⟨h.1, e1 _ h.2⟩
      · cases h
theorem slL_form (d : Nat) : ∀ l : List Sm, formS d l = true → formS d (Sm.slL l) = true := by
  induction d with
  | zero =>
    intro l h
    simp only [formS, beq_iff_eq] at h
    have : l = [] := List.eq_nil_of_length_eq_zero (by omega)
    subst this; rfl
  | succ d ih =>
    intro l
    induction l with
    | nil => intro _; rfl
    | cons s l ihl =>
      intro h
      rw [formS, List.all_cons, Bool.and_eq_true] at h
      obtain ⟨hs, hl⟩ := h
      simp only [Bool.and_eq_true] at hs
      obtain ⟨⟨⟨h1, h2⟩, h3⟩, h4⟩ := hs
      have b1 := ih _ h3
      have b2 := ih _ h4
      refine formS_app ?_ (ihl (by rw [formS]; exact hl))
      rw [Sm.sl_eq, rb]
      split
      · rfl
      · split
        · exact formS_up _ _ b1
        · split
          · exact formS_up _ _ b2
          · rw [formS, List.all_cons, List.all_nil, Bool.and_true]
            simp only [Bool.and_eq_true]
            exact ⟨⟨⟨inn_plain h1, slim_ok h2⟩, b1⟩, b2⟩
mutual
def Sm.cnt : Sm → Nat | .mk _ _ _ th el => 1 + Sm.cntL th + Sm.cntL el
def Sm.cntL : List Sm → Nat | [] => 0 | s :: l => s.cnt + Sm.cntL l
end
theorem Sm.cnt_eq (s : Sm) : s.cnt = 1 + Sm.cntL s.th + Sm.cntL s.el := by cases s; simp only [Sm.cnt, Sm.th, Sm.el]
theorem Sm.cntL_app (l r : List Sm) : Sm.cntL (l ++ r) = Sm.cntL l + Sm.cntL r := by
  induction l with
  | nil => simp [Sm.cntL]
  | cons s l ih => simp only [List.cons_append, Sm.cntL, ih]; omega
theorem many_cnt (d : Nat) : ∀ l : List Sm, formS d l = true → manyS d l = Sm.cntL l := by
  induction d with
  | zero =>
    intro l h
    simp only [formS, beq_iff_eq] at h
    have : l = [] := List.eq_nil_of_length_eq_zero (by omega)
    subst this; rfl
  | succ d ih =>
    intro l
    induction l with
    | nil => intro _; rfl
    | cons s l ihl =>
      intro h
      rw [formS, List.all_cons, Bool.and_eq_true] at h
      obtain ⟨hs, hl⟩ := h
      simp only [Bool.and_eq_true] at hs
      have a1 := ih _ hs.1.2
      have a2 := ih _ hs.2
      have a3 := ihl (by rw [formS]; exact hl)
      rw [manyS] at a3 ⊢
      simp only [List.length_cons, List.map_cons, List.sum_cons, Sm.cntL]
      have := s.cnt_eq
      omega
theorem rb_cnt (s : Sm) : Sm.cntL (rb s) ≤ s.cnt := by
  have := s.cnt_eq
  unfold rb
  repeat' split
  · simp [Sm.cntL]
  · omega
  · omega
  · simp [Sm.cntL]
mutual
theorem Sm.sl_cnt : (s : Sm) → Sm.cntL s.sl ≤ s.cnt
  | .mk k a e th el => by
    rw [Sm.sl]
    refine Nat.le_trans (rb_cnt _) ?_
    simp only [Sm.cnt]
    have := Sm.slL_cnt th
    have := Sm.slL_cnt el
    omega
theorem Sm.slL_cnt : (l : List Sm) → Sm.cntL (Sm.slL l) ≤ Sm.cntL l
  | [] => Nat.le_refl _
  | s :: l => by
    simp only [Sm.slL, Sm.cntL_app, Sm.cntL]
    have := Sm.sl_cnt s
    have := Sm.slL_cnt l
    omega
end
theorem slL_ok {l : List Sm} (h : okS l = true) : okS (Sm.slL l) = true := by
  simp only [okS, Bool.and_eq_true, decide_eq_true_eq] at h ⊢
  have h1 := slL_form 4 l h.2
  refine ⟨?_, h1⟩
  rw [many_cnt 4 _ h1]
  have h2 := h.1
  rw [many_cnt 4 _ h.2] at h2
  have := Sm.slL_cnt l
  omega
theorem rb_sz (s : Sm) : Sm.szL (rb s) ≤ s.sz := by
  have := s.sz_eq
  unfold rb
  repeat' split
  · simp [Sm.szL]
  · omega
  · omega
  · simp [Sm.szL]
mutual
theorem Sm.sl_sz : (s : Sm) → Sm.szL s.sl ≤ s.sz
  | .mk k a e th el => by
    rw [Sm.sl]
    refine Nat.le_trans (rb_sz _) ?_
    simp only [Sm.sz]
    have := Sm.slL_sz th
    have := Sm.slL_sz el
    have := e.slim_sz
    omega
theorem Sm.slL_sz : (l : List Sm) → Sm.szL (Sm.slL l) ≤ Sm.szL l
  | [] => Nat.le_refl _
  | s :: l => by
    have happ : ∀ a b : List Sm, Sm.szL (a ++ b) = Sm.szL a + Sm.szL b := by
      intro a b
      induction a with
      | nil => simp [Sm.szL]
      | cons s l ih => simp only [List.cons_append, Sm.szL, ih]; omega
    simp only [Sm.slL, happ, Sm.szL]
    have := Sm.sl_sz s
    have := Sm.slL_sz l
    omega
end
end Go.Proofs.YtmicbfojofcigaaGreat
namespace Go.Proofs.YtmicbfojofcigaaGreat
open Go Sg
set_option maxRecDepth 100000
set_option linter.unusedSimpArgs false
set_option linter.unusedVariables false
set_option linter.unusedSectionVars false
set_option maxHeartbeats 4000000
variable [Tab]
theorem eqfE_ok (a b : List Ex) (fid : Nat) (p : Ex → Ex → Bool) (ha : a.length ≤ 1099511627776) (henter : ∀ args w, (callFunc fid args).run Tryz.prog w = .ok (.enter fid args) w)
    (hf : ∀ i, i < a.length → i < b.length → PureF Tryz.prog fid [.agg (a.getD i default).cs, .agg (b.getD i default).cs] [.bool (p (a.getD i default) (b.getD i default))]) :
    PureF Tryz.prog 23 [.rows 27 (Ex.csL a), .rows 27 (Ex.csL b), .fn (.func fid) [] []] [.bool (a.length == b.length && (List.range a.length).all fun i => p (a.getD i default) (b.getD i default))] := by
  refine pureF_of Tryz.func23 rfl Tryz.ntmps23 (by simp) T_ ?_
  intro f0 B Q hQ
  refine g_ [0,1,2] ?_
  refine g_ [0,1,2,14] ?_
  refine c_ (fun hc0 => ?_) fun hc0 => ?_
  ·
    refine g_ [6] ?_
    refine e_ Tryz.results23 ?_
    first
    | exact True.intro
    | simp at hc0
      rw [beq_eq_false_iff_ne.2 (by omega)]; rfl
  have hab : a.length = b.length := by simp at hc0; omega
  refine g_ [1,2,15,16,17] ?_
  refine n_ ?_
  refine wpM_loopS (fun s n s' => ∃ (i0 M0 : Nat) , i0 + n = a.length ∧ s.M ≤ M0 ∧ ((List.range i0).all (fun i => p (a.getD i default) (b.getD i default)) = true) ∧ s' = { s with env := setE 17 (.int .i64 (i0 : Nat)) s.env, M := M0 }) (a.length) ?_ ?_
  ·
    refine .of' _ _ ⟨0, _, by omega, Nat.le_refl _, by simp, rfl⟩ ?_ ?_ ?_ <;> exact L_
  rintro n0 s' ⟨i0, M0, hi0, hM0, hv0, rfl⟩
  try dsimp only at hM0
  try refine S_ ?_
  refine g_ [1,2,15,16,17,18] ?_
  refine c_ (fun hc1 => ?_) fun hc1 => ?_
  ·
    have hl0 : i0 < a.length := by omega
    refine g_ [1,2,7,8,15,16,17] ?_
    refine g_ [1,2,8,9,15,16,17] ?_
    refine n_ ?_
    refine wpM_regionK [1,2,15,16,17,30] rfl fun Q1 hQ1 => ?_
    refine S_ ?_
    refine call_cap (l := []) (cap := []) (args := [.agg (a.getD i0 default).cs, .agg (b.getD i0 default).cs]) (hf i0 hl0 (by omega)) (fun i o h => by simp [lk] at h) henter rfl rfl T_ T_ ?_
    refine S_ ?_
    refine hQ1 _ _ (S_ ?_);clear hQ1 Q1
    refine c_ (fun hc2 => ?_) fun hc2 => ?_
    ·
      refine g_ [6] ?_
      refine e_ Tryz.results23 ?_
      first
      | exact True.intro
      | have h2 : (!p (a.getD i0 default) (b.getD i0 default)) = true := hc2
        rw [range_no hl0 (by simpa using h2)]
        simp
    refine g_ [1,2,15,16,17] ?_
    refine .of' _ _ ⟨n0 - 1, by omega, i0 + 1, _, by omega, M_, ?_, rfl⟩ L_ L_ L_
    have h2 : (!p (a.getD i0 default) (b.getD i0 default)) = false := hc2
    rw [range_all, hv0]; simpa using h2
  refine g_ [6] ?_
  refine e_ Tryz.results23 ?_
  first
  | exact True.intro
  | have h1 : i0 = a.length := by omega
    rw [← h1, hv0]; simp; omega
theorem range_ext {α : Type} [Inhabited α] {a b : List α} (h : a.length = b.length) (p : α → α → Bool) (hp : ∀ i, i < a.length → p (a.getD i default) (b.getD i default) = same (a.getD i default) (b.getD i default)) : (List.range a.length).all (fun i => p (a.getD i default) (b.getD i default)) = same a b := by
  by_cases hab : a = b
  · subst hab
    rw [same_self, List.all_eq_true]
    intro i hi
    rw [hp i (List.mem_range.1 hi), same_self]
  · rw [same_no hab, Bool.eq_false_iff]
    intro hall
    rw [List.all_eq_true] at hall
    refine hab (List.ext_getElem h fun i h1 h2 => ?_)
    have := hall i (List.mem_range.2 h1)
    rw [hp i h1, same_iff] at this
    simpa [List.getD, h1, h2] using this
theorem same_ex (a b : Ex) : (a.kind == b.kind && a.n == b.n && (a.a.kind == b.a.kind && a.a.at' == b.a.at') && (a.kids.length == b.kids.length && (List.range a.kids.length).all fun i => same (a.kids.getD i default) (b.kids.getD i default))) = same a b := by
  by_cases hl : a.kids.length = b.kids.length
  · rw [range_ext hl same fun _ _ => rfl, Bool.eq_iff_iff]
    simp only [Bool.and_eq_true, beq_iff_eq, same_iff]
    constructor
    · rintro ⟨⟨⟨h1, h2⟩, h3, h4⟩, _, h5⟩
      refine Ex.ext' h1 h2 ?_ h5
      cases hx : a.a; cases hy : b.a
      rw [hx, hy] at h3 h4
      simp only at h3 h4
      rw [h3, h4]
    · rintro rfl
      simp
  · rw [same_no (fun h => hl (by rw [h]))]
    have : (a.kids.length == b.kids.length) = false := by simpa using hl
    rw [this]; simp
theorem ialike_ok : ∀ (N : Nat) (a b : Ex), a.sz ≤ N → a.sz ≤ 1099511627776 → PureF Tryz.prog 7 [.agg a.cs, .agg b.cs] [.bool (same a b)] := by
  intro N
  induction N with
  | zero => intro e b h; have := e.sz_pos; omega
  | succ N ih =>
    intro a b hN hs
    have hlen := a.kids_len
    refine pureF_of Tryz.func7 rfl Tryz.ntmps7 (by simp) T_ ?_
    intro f0 B Q hQ
    refine g_ [2,3] ?_
    refine n_ ?_
    refine wpM_regionK [4] rfl fun Q1 hQ1 => ?_
    refine SD_ ?_
    first | refine cg_ (fun hb => eqfE_ok a.kids b.kids 7 same (by omega) Tryz.call7 (fun i h1 h2 => ih _ _ (by have := Ex.kid_sz (e := a) h1; omega) (by have := Ex.kid_sz (e := a) h1; omega))) Tryz.call23 ?_ | refine cpD_ (eqfE_ok a.kids b.kids 7 same (by omega) Tryz.call7 (fun i h1 h2 => ih _ _ (by have := Ex.kid_sz (e := a) h1; omega) (by have := Ex.kid_sz (e := a) h1; omega))) Tryz.call23 ?_
    refine hQ1 _ _ (S_ ?_);clear hQ1 Q1
    refine e_ Tryz.results7 ?_
    first
    | exact True.intro
    | first | (rw [← same_ex]; done) | (rw [← same_ex]; simp only [Bool.and_assoc])
@[go_sem high] theorem numX_cs (n : Int) : (numX n).cs = [.int .i64 1, .int .i64 n, .int .i64 0, .int .i64 0, .rows 27 []] := by simp only [numX, Ex.cs, Ex.csL]
@[go_sem high] theorem noX_cs : noX.cs = [.int .i64 0, .int .i64 0, .int .i64 0, .int .i64 0, .rows 27 []] := by simp only [noX, Ex.cs, Ex.csL]
theorem isN_ok (e : Ex) (n : Int) : PureF Tryz.prog 102 [.agg e.cs, .int .i64 n] [.bool (e.isN n)] := by
  refine pureF_of Tryz.func102 rfl Tryz.ntmps102 (by simp) T_ ?_
  intro f0 B Q hQ
  refine g_ [1,2] ?_
  refine gD_ [4] ?_
  refine e_ Tryz.results102 ?_
  first
  | exact True.intro
  | rfl
theorem numOf_ok (n : Int) : PureF Tryz.prog 101 [.int .i64 n] [.agg (numX n).cs] := by
  refine pureF_of Tryz.func101 rfl Tryz.ntmps101 (by simp) T_ ?_
  intro f0 B Q hQ
  refine g_ [0,2] ?_
  refine g_ [2] ?_
  refine wpM_le [(2, .ptr B 0)] [(B, .cells 27 (numX n).cs)] T_ T_ T_ ?_
  exact e_ Tryz.results101 True.intro
theorem known1_ok (e : Ex) : PureF Tryz.prog 100 [.agg e.cs] [.bool (e.kind != 1)] := by
  refine pureF_of Tryz.func100 rfl Tryz.ntmps100 (by simp) T_ ?_
  intro f0 B Q hQ
  refine g_ [1] ?_
  refine g_ [2] ?_
  refine e_ Tryz.results100 ?_
  first
  | exact True.intro
  | rfl
theorem idxE_ok (l : List Ex) (fid : Nat) (p : Ex → Bool) (hl : l.length ≤ 1099511627776) (henter : ∀ args w, (callFunc fid args).run Tryz.prog w = .ok (.enter fid args) w)
    (hf : ∀ i, i < l.length → PureF Tryz.prog fid [.agg (l.getD i default).cs] [.bool (p (l.getD i default))]) :
    PureF Tryz.prog 112 [.rows 27 (Ex.csL l), .fn (.func fid) [] []] [.int .i64 (idxOf p l)] := by
  refine pureF_of Tryz.func112 rfl Tryz.ntmps112 (by simp) T_ ?_
  intro f0 B Q hQ
  refine g_ [0,1] ?_
  refine g_ [0,1,7,8] ?_
  refine n_ ?_
  refine wpM_loopS (fun s n s' => ∃ (i0 M0 : Nat) , i0 + n = l.length ∧ s.M ≤ M0 ∧ ((l.take i0).all (fun x => !p x) = true) ∧ s' = { s with env := setE 8 (.int .i64 (i0 : Nat)) s.env, M := M0 }) (l.length) ?_ ?_
  ·
    refine .of' _ _ ⟨0, _, by omega, Nat.le_refl _, by simp, rfl⟩ ?_ ?_ ?_ <;> exact L_
  rintro n0 s' ⟨i0, M0, hi0, hM0, hv0, rfl⟩
  try dsimp only at hM0
  try refine S_ ?_
  refine g_ [0,1,7,8,9] ?_
  refine c_ (fun hc0 => ?_) fun hc0 => ?_
  ·
    have hl0 : i0 < l.length := by omega
    refine g_ [0,1,5,7,8] ?_
    refine n_ ?_
    refine wpM_regionK [0,1,5,7,8,16] rfl fun Q1 hQ1 => ?_
    refine S_ ?_
    refine call_cap (l := []) (cap := []) (args := [.agg (l.getD i0 default).cs]) (hf i0 hl0) (fun i o h => by simp [lk] at h) henter rfl rfl T_ T_ ?_
    refine S_ ?_
    refine hQ1 _ _ (S_ ?_);clear hQ1 Q1
    refine c_ (fun hc1 => ?_) fun hc1 => ?_
    ·
      refine g_ [4] ?_
      refine e_ Tryz.results112 ?_
      first
      | exact True.intro
      | first | rw [idxOf_at hl0 hv0 hc1] | rw [idxOf_no (all_yes hi0 hc0 hv0)]
    refine g_ [0,1,7,8] ?_
    refine .of' _ _ ⟨n0 - 1, by omega, i0 + 1, _, by omega, M_, ?_, rfl⟩ L_ L_ L_
    rw [take_all _ _ _ hl0, hv0, hc1]; rfl
  refine g_ [4] ?_
  refine e_ Tryz.results112 ?_
  first
  | exact True.intro
  | first | rw [idxOf_at hl0 hv0 hc1] | rw [idxOf_no (all_yes hi0 hc0 hv0)]
theorem hasE_ok (l : List Ex) (fid : Nat) (p : Ex → Bool) (hl : l.length ≤ 1099511627776) (henter : ∀ args w, (callFunc fid args).run Tryz.prog w = .ok (.enter fid args) w)
    (hf : ∀ i, i < l.length → PureF Tryz.prog fid [.agg (l.getD i default).cs] [.bool (p (l.getD i default))]) :
    PureF Tryz.prog 99 [.rows 27 (Ex.csL l), .fn (.func fid) [] []] [.bool (l.any p)] := by
  refine pureF_of Tryz.func99 rfl Tryz.ntmps99 (by simp) T_ ?_
  intro f0 B Q hQ
  refine g_ [0,1] ?_
  refine n_ ?_
  refine wpM_regionK [4] rfl fun Q1 hQ1 => ?_
  refine S_ ?_
  refine cp_ (idxE_ok l fid p hl henter hf) Tryz.call112 ?_
  refine hQ1 _ _ (S_ ?_);clear hQ1 Q1
  refine e_ Tryz.results99 ?_
  first
  | exact True.intro
  | rw [idxOf_ge]
def zM : MM := ⟨List.replicate 6 0, List.replicate 6 0, List.replicate 6 0⟩
@[go_sem high] theorem zM_mobj (id : Nat) : mobj id zM = [(id, .cells 104 [.int .i64 0, .int .i64 0, .int .i64 0, .int .i64 0, .int .i64 0, .int .i64 0, .int .i64 0, .int .i64 0, .int .i64 0, .int .i64 0, .int .i64 0, .int .i64 0, .int .i64 0, .int .i64 0, .int .i64 0, .int .i64 0, .int .i64 0, .int .i64 0])] := rfl
theorem known_ok (e : Ex) (d : Nat) (h : formD (d + 1) e = true) : PureF Tryz.prog 79 [.agg e.cs] [.agg (if (e.kids.length : Int) == 0 || e.kids.any (fun x => x.kind != 1) then noX else numX (e.of zM)).cs, .bool (!((e.kids.length : Int) == 0 || e.kids.any (fun x => x.kind != 1)))] := by
  have hlen := form_len h
  refine pureF_of Tryz.func79 rfl Tryz.ntmps79 (by simp) T_ ?_
  intro f0 B Q hQ
  refine g_ [1,2] ?_
  refine n_ ?_
  refine wpM_regionK [1,2,12] rfl fun Q1 hQ1 => ?_
  refine SD_ ?_
  first | refine cg_ (fun hb => hasE_ok e.kids 100 (fun x => x.kind != 1) (by omega) Tryz.call100 (fun i hi => known1_ok _)) Tryz.call99 ?_ | refine cpD_ (hasE_ok e.kids 100 (fun x => x.kind != 1) (by omega) Tryz.call100 (fun i hi => known1_ok _)) Tryz.call99 ?_
  refine hQ1 _ _ (S_ ?_);clear hQ1 Q1
  refine c_ (fun hc0 => ?_) fun hc0 => ?_
  ·
    refine g_ [2,3] ?_
    refine wpM_le [(2, .ptr (B + 1) 0), (3, .bool false)] [(B + 1, .cells 27 noX.cs)] T_ T_ T_ ?_
    refine e_ Tryz.results79 ?_
    first
    | exact True.intro
    | rw [if_pos hc0, hc0]
      repeat' apply And.intro
      all_goals first | rfl | trivial | (simp -implicitDefEqProofs (disch := omega) only [go_sem]; repeat' apply And.intro) <;> rfl
  refine n_ ?_
  refine wpM_regionK [2,3] rfl fun Q1 hQ1 => ?_
  refine S_ ?_
  refine call_fn (l := mobj (B + 2) zM) (first := []) (cap := []) (ps := [.ptr (B + 2) 0, .agg e.cs]) (reckon_ok zM ⟨rfl, rfl, rfl⟩ (B + 2) (d + 1) e h) Tryz.call34 rfl rfl rfl G_ T_ ?_
  rintro out rfl
  refine S_ ?_
  refine cp_ (numOf_ok (e.of zM)) Tryz.call101 ?_
  refine hQ1 _ _ (S_ ?_);clear hQ1 Q1
  refine e_ Tryz.results79 ?_
  first
  | exact True.intro
  | rw [hc0]
    repeat' apply And.intro
    all_goals first | rfl | trivial | (simp -implicitDefEqProofs (disch := omega) only [go_sem]; repeat' apply And.intro) <;> rfl
end Go.Proofs.YtmicbfojofcigaaGreat
namespace Go.Proofs.YtmicbfojofcigaaGreat
open Go Sg
set_option maxRecDepth 100000
set_option linter.unusedSimpArgs false
set_option linter.unusedVariables false
set_option linter.unusedSectionVars false
set_option maxHeartbeats 4000000
variable [Tab]
theorem two_len {d : Nat} {e : Ex} (h : formD (d + 1) e = true) : isTwo e.kind = true ↔ e.kids.length = 2 := by
  have := form_len h
  simp only [isTwo, Bool.and_eq_true, decide_eq_true_eq]
  omega
theorem second_ok (e : Ex) (d : Nat) (h : formD (d + 1) e = true) : PureF Tryz.prog 80 [.agg e.cs] [.agg (if !isTwo e.kind then noX else e.kids.getD 0 default).cs, .bool (if !isTwo e.kind then false else ((e.kind == 3 || e.kind == 4) && (e.kids.getD 1 default).isN 0 || e.kind == 5 && (e.kids.getD 1 default).isN 1))] := by
  refine pureF_of Tryz.func80 rfl Tryz.ntmps80 (by simp) T_ ?_
  intro f0 B Q hQ
  refine g_ [1,2] ?_
  refine n_ ?_
  refine wpM_regionK [1,2,8] rfl fun Q1 hQ1 => ?_
  refine S_ ?_
  refine cp_ (isTwo_ok e.kind) Tryz.call58 ?_
  refine hQ1 _ _ (S_ ?_);clear hQ1 Q1
  refine c_ (fun hc0 => ?_) fun hc0 => ?_
  ·
    refine g_ [2,3] ?_
    refine wpM_le [(2, .ptr (B + 1) 0), (3, .bool false)] [(B + 1, .cells 27 noX.cs)] T_ T_ T_ ?_
    refine e_ Tryz.results80 ?_
    first
    | exact True.intro
    | rw [if_pos hc0, if_pos hc0]
      repeat' apply And.intro
      all_goals first | rfl | trivial | (simp -implicitDefEqProofs (disch := omega) only [go_sem]; repeat' apply And.intro) <;> rfl
  have hk2 : e.kids.length = 2 := (two_len h).1 (by simpa using hc0)
  refine n_ ?_
  refine wpM_regionK [1,2,4] rfl fun Q1 hQ1 => ?_
  refine SD_ ?_
  first | refine cg_ (fun hb => isN_ok (e.kids.getD 1 default) 0) Tryz.call102 ?_ | refine cpD_ (isN_ok (e.kids.getD 1 default) 0) Tryz.call102 ?_
  refine hQ1 _ _ (S_ ?_);clear hQ1 Q1
  refine n_ ?_
  refine dr_ mixed [2,3] 0 2 [B,B + 1] [⟨[1],[],[],[],false⟩,⟨[25],[0],[],[],false⟩,⟨[26],[],[],[],false⟩,⟨[27],[],[],[],false⟩,⟨[4],[],[],[],false⟩,⟨[29],[],[],[],false⟩,⟨[1,30],[],[],[],false⟩,⟨[30,31],[0],[],[],false⟩,⟨[30,32],[],[],[],false⟩,⟨[30,33],[],[],[],false⟩,⟨[1,34],[],[],[],false⟩,⟨[34,35],[0],[],[],false⟩,⟨[34,36],[],[],[],false⟩,⟨[34,37],[],[],[],false⟩,⟨[34,38],[],[],[],true⟩,⟨[30,34,39],[],[],[],false⟩,⟨[30,40],[],[],[],false⟩,⟨[2,28],[1],[1],[],false⟩,⟨[41],[],[],[],false⟩] [0,1,2,3,4,5,6,7,8,9,10,11,12,13,14,15,16,17,18] [[],[0],[0,1],[0,1,2],[],[4],[4,5],[4,5,6],[4,5,6,7],[4,5,6,7,8],[4,5,6,7,8,9],[4,5,6,7,8,9,10],[4,5,6,7,8,9,10,11],[4,5,6,7,8,9,10,11,12],[4,5,6,7,8,9,10,11,12,13],[4,5,6,7,8,9,10,11,12,13,14],[4,5,6,7,8,9,10,11,12,13,14,15],[0,1,2,3,4,5,6,7,8,9,10,11,12,13,14],[0,1,2,3,4,5,6,7,8,9,10,11,12,13,14,15,16,17]] 2 ?_
  intro O A K hO hA hK;simp only [atL_cons,atL_nil,Nat.reduceAdd,Nat.zero_add] at hO hA
  refine SE_ ?_
  first | refine lg_ (fun hb => isN_ok (e.kids.getD 1 default) 1) Tryz.call102 ?_ | refine lpE_ (isN_ok (e.kids.getD 1 default) 1) Tryz.call102 ?_
  refine hK _ (S_ ?_);clear hK K hO hA O A
  refine e_ Tryz.results80 ?_
  first
  | exact True.intro
  | rw [hc0]
    repeat' apply And.intro
    all_goals first | rfl | trivial | (simp -implicitDefEqProofs (disch := omega) only [go_sem]; repeat' apply And.intro) <;> rfl
theorem first_ok (e : Ex) (d : Nat) (h : formD (d + 1) e = true) : PureF Tryz.prog 81 [.agg e.cs] [.agg (if !isTwo e.kind then noX else e.kids.getD 1 default).cs, .bool (if !isTwo e.kind then false else (e.kind == 3 && (e.kids.getD 0 default).isN 0 || e.kind == 5 && (e.kids.getD 0 default).isN 1))] := by
  refine pureF_of Tryz.func81 rfl Tryz.ntmps81 (by simp) T_ ?_
  intro f0 B Q hQ
  refine g_ [1,2] ?_
  refine n_ ?_
  refine wpM_regionK [1,2,7] rfl fun Q1 hQ1 => ?_
  refine S_ ?_
  refine cp_ (isTwo_ok e.kind) Tryz.call58 ?_
  refine hQ1 _ _ (S_ ?_);clear hQ1 Q1
  refine c_ (fun hc0 => ?_) fun hc0 => ?_
  ·
    refine g_ [2,3] ?_
    refine wpM_le [(2, .ptr (B + 1) 0), (3, .bool false)] [(B + 1, .cells 27 noX.cs)] T_ T_ T_ ?_
    refine e_ Tryz.results81 ?_
    first
    | exact True.intro
    | rw [if_pos hc0, if_pos hc0]
      repeat' apply And.intro
      all_goals first | rfl | trivial | (simp -implicitDefEqProofs (disch := omega) only [go_sem]; repeat' apply And.intro) <;> rfl
  have hk2 : e.kids.length = 2 := (two_len h).1 (by simpa using hc0)
  refine n_ ?_
  refine dr_ mixed [2,3] 0 2 [B,B + 1] [⟨[1],[],[],[],false⟩,⟨[9],[0],[],[],false⟩,⟨[10],[],[],[],false⟩,⟨[11],[],[],[],false⟩,⟨[1],[],[],[],false⟩,⟨[13],[0],[],[],false⟩,⟨[14],[],[],[],false⟩,⟨[15],[],[],[],false⟩,⟨[1,16],[],[],[],false⟩,⟨[16,17],[0],[],[],false⟩,⟨[16,18],[],[],[],false⟩,⟨[16,19],[],[],[],false⟩,⟨[16,20],[],[],[],true⟩,⟨[16,21],[],[],[],false⟩,⟨[22],[],[],[],false⟩,⟨[1,23],[],[],[],false⟩,⟨[23,24],[0],[],[],false⟩,⟨[23,25],[],[],[],false⟩,⟨[23,26],[],[],[],false⟩,⟨[1,27],[],[],[],false⟩,⟨[27,28],[0],[],[],false⟩,⟨[27,29],[],[],[],false⟩,⟨[27,30],[],[],[],false⟩,⟨[27,31],[],[],[],true⟩,⟨[23,27,32],[],[],[],false⟩,⟨[23,33],[],[],[],false⟩,⟨[2,12],[1],[1],[],false⟩,⟨[34],[],[],[],false⟩] [0,1,2,3,4,5,6,7,8,9,10,11,12,13,14,15,16,17,18,19,20,21,22,23,24,25,26,27] [[],[0],[0,1],[0,1,2],[],[4],[4,5],[4,5,6],[4,5,6,7],[4,5,6,7,8],[4,5,6,7,8,9],[4,5,6,7,8,9,10],[4,5,6,7,8,9,10,11],[4,5,6,7,8,9,10,11,12],[4,5,6,7,8,9,10,11,12,13],[4,5,6,7,8,9,10,11,12,13,14],[4,5,6,7,8,9,10,11,12,13,14,15],[4,5,6,7,8,9,10,11,12,13,14,15,16],[4,5,6,7,8,9,10,11,12,13,14,15,16,17],[4,5,6,7,8,9,10,11,12,13,14,15,16,17,18],[4,5,6,7,8,9,10,11,12,13,14,15,16,17,18,19],[4,5,6,7,8,9,10,11,12,13,14,15,16,17,18,19,20],[4,5,6,7,8,9,10,11,12,13,14,15,16,17,18,19,20,21],[4,5,6,7,8,9,10,11,12,13,14,15,16,17,18,19,20,21,22],[4,5,6,7,8,9,10,11,12,13,14,15,16,17,18,19,20,21,22,23],[4,5,6,7,8,9,10,11,12,13,14,15,16,17,18,19,20,21,22,23,24],[0,1,2,3,4,5,6,7,8,9,10,11,12,13,14,15,16,17,18,19,20,21,22,23],[0,1,2,3,4,5,6,7,8,9,10,11,12,13,14,15,16,17,18,19,20,21,22,23,24,25,26]] 2 ?_
  intro O A K hO hA hK;simp only [atL_cons,atL_nil,Nat.reduceAdd,Nat.zero_add] at hO hA
  refine SE_ ?_
  first | refine lg_ (fun hb => isN_ok (e.kids.getD 0 default) 0) Tryz.call102 ?_ | refine lpE_ (isN_ok (e.kids.getD 0 default) 0) Tryz.call102 ?_
  first | refine lg_ (fun hb => isN_ok (e.kids.getD 0 default) 1) Tryz.call102 ?_ | refine lpE_ (isN_ok (e.kids.getD 0 default) 1) Tryz.call102 ?_
  refine hK _ (S_ ?_);clear hK K hO hA O A
  refine e_ Tryz.results81 ?_
  first
  | exact True.intro
  | rw [hc0]
    repeat' apply And.intro
    all_goals first | rfl | trivial | (simp -implicitDefEqProofs (disch := omega) only [go_sem]; repeat' apply And.intro) <;> rfl
theorem zero_ok (e : Ex) (d : Nat) (h : formD (d + 1) e = true) : PureF Tryz.prog 82 [.agg e.cs] [.agg (numX 0).cs, .bool ((e.kind == 5 || e.kind == 8) && ((e.kids.getD 0 default).isN 0 || (e.kids.getD 1 default).isN 0))] := by
  have hk2 : ((e.kind == 5) || (e.kind == 8)) = true → e.kids.length = 2 := by
    intro hk
    refine (two_len h).1 ?_
    simp only [Bool.or_eq_true, beq_iff_eq] at hk
    simp only [isTwo, Bool.and_eq_true, decide_eq_true_eq]; omega
  refine pureF_of Tryz.func82 rfl Tryz.ntmps82 (by simp) T_ ?_
  intro f0 B Q hQ
  cases hz : (e.kind == 5 || e.kind == 8)
  · simp only [Bool.or_eq_false_iff] at hz
    refine g_ [1,2] ?_
    refine n_ ?_
    refine wpM_regionK [1,2,4] rfl fun Q1 hQ1 => ?_
    simp (contextual := true) (maxSteps := 1000000) (implicitDefEqProofs := false) (disch := first | omega | (simp only [decide_eq_true_eq, decide_eq_false_iff_not, Bool.and_eq_true, Bool.or_eq_false_iff, Bool.not_eq_true'] at *; omega)) only [go_sem, hz.1, hz.2, Bool.or_false]
    refine hQ1 _ _ (S_ ?_);clear hQ1 Q1
    refine n_ ?_
    refine wpM_regionK [2,3] rfl fun Q1 hQ1 => ?_
    refine SD_ ?_
    refine cpD_ (numOf_ok 0) Tryz.call101 ?_
    refine hQ1 _ _ (S_ ?_);clear hQ1 Q1
    refine e_ Tryz.results82 ?_
    first
    | exact True.intro
    | rw [hz.1, hz.2]; rfl
  · have hl := hk2 hz
    refine g_ [1,2] ?_
    refine gD_ [1,2,4] ?_
    rw [hz]
    refine n_ ?_
    refine wpM_regionK [2,3] rfl fun Q1 hQ1 => ?_
    refine SD_ ?_
    refine cpD_ (numOf_ok 0) Tryz.call101 ?_
    first | refine cg_ (fun hb => isN_ok (e.kids.getD 0 default) 0) Tryz.call102 ?_ | refine cpD_ (isN_ok (e.kids.getD 0 default) 0) Tryz.call102 ?_
    first | refine cg_ (fun hb => isN_ok (e.kids.getD 1 default) 0) Tryz.call102 ?_ | refine cpD_ (isN_ok (e.kids.getD 1 default) 0) Tryz.call102 ?_
    refine hQ1 _ _ (S_ ?_);clear hQ1 Q1
    refine e_ Tryz.results82 ?_
    first
    | exact True.intro
    | rw [hz]; rfl
theorem ialike_ok' (a b : Ex) (hs : a.sz ≤ 1099511627776) : PureF Tryz.prog 7 [.agg a.cs, .agg b.cs] [.bool (same a b)] := ialike_ok a.sz a b (Nat.le_refl _) hs
theorem alike_ok (e : Ex) (d : Nat) (h : formD (d + 1) e = true) (hs : e.sz ≤ 1099511627776) : PureF Tryz.prog 83 [.agg e.cs] [.agg (if !isTwo e.kind || !same (e.kids.getD 0 default) (e.kids.getD 1 default) then noX else if e.kind == 7 then numX 1 else if e.kind == 6 || e.kind == 4 then numX 0 else noX).cs, .bool (if !isTwo e.kind || !same (e.kids.getD 0 default) (e.kids.getD 1 default) then false else (e.kind == 7 || (e.kind == 6 || e.kind == 4)))] := by
  refine pureF_of Tryz.func83 rfl Tryz.ntmps83 (by simp) T_ ?_
  intro f0 B Q hQ
  cases hz : isTwo e.kind
  · skip
    refine g_ [1,2] ?_
    refine n_ ?_
    refine dr_ mixed [1,2,19] 0 2 [B,B + 1] [⟨[1],[],[],[],false⟩,⟨[4],[0],[],[],false⟩,⟨[5],[],[],[],true⟩,⟨[6],[],[],[],false⟩,⟨[7],[],[],[],false⟩,⟨[1,8],[],[],[],false⟩,⟨[8,9],[],[],[],false⟩,⟨[8,10],[],[],[],false⟩,⟨[8,11],[],[],[],false⟩,⟨[1,8],[],[],[],false⟩,⟨[8,13],[],[],[],false⟩,⟨[8,14],[],[],[],false⟩,⟨[8,15],[],[],[],false⟩,⟨[8,12,16],[],[],[],true⟩,⟨[8,17],[],[],[],false⟩,⟨[8,18],[],[],[],false⟩] [0,1,2,3,4,5,6,7,8,9,10,11,12,13,14,15] [[],[0],[0,1],[0,1,2],[0,1,2,3],[0,1,2,3,4],[0,1,2,3,4,5],[0,1,2,3,4,5,6],[0,1,2,3,4,5,6,7],[0,1,2,3,4],[0,1,2,3,4,9],[0,1,2,3,4,9,10],[0,1,2,3,4,9,10,11],[0,1,2,3,4,5,6,7,8,9,10,11,12],[0,1,2,3,4,5,6,7,8,9,10,11,12,13],[0,1,2,3,4,5,6,7,8,9,10,11,12,13,14]] 2 ?_
    intro O A K hO hA hK;simp only [atL_cons,atL_nil,Nat.reduceAdd,Nat.zero_add] at hO hA
    refine SE_ ?_
    refine lpE_ (hz ▸ isTwo_ok e.kind) Tryz.call58 ?_
    refine hK _ (S_ ?_);clear hK K hO hA O A
    refine c1_ ?_
    refine g_ [2,3] ?_
    refine wpM_le [(2, .ptr (B + 1) 0), (3, .bool false)] [(B + 1, .cells 27 noX.cs)] T_ T_ T_ ?_
    refine e_ Tryz.results83 ?_
    first
    | exact True.intro
    | simp only [hz, Bool.not_false, Bool.true_or, if_true]
      all_goals first | (simp [numX, noX, Ex.kind, Ex.n, Ex.a, Ex.kids, Ex.csL]; done) | rfl | trivial | (simp -implicitDefEqProofs (disch := omega) only [go_sem]; repeat' apply And.intro) <;> rfl
  · have hl := (two_len h).1 hz
    have h0 := Ex.kid_sz (e := e) (k := 0) (by omega)
    refine g_ [1,2] ?_
    refine n_ ?_
    refine dr_ mixed [1,2,19] 0 2 [B,B + 1] [⟨[1],[],[],[],false⟩,⟨[4],[0],[],[],false⟩,⟨[5],[],[],[],true⟩,⟨[6],[],[],[],false⟩,⟨[7],[],[],[],false⟩,⟨[1,8],[],[],[],false⟩,⟨[8,9],[0],[],[],false⟩,⟨[8,10],[],[],[],false⟩,⟨[8,11],[],[],[],false⟩,⟨[1,8],[],[],[],false⟩,⟨[8,13],[0],[],[],false⟩,⟨[8,14],[],[],[],false⟩,⟨[8,15],[],[],[],false⟩,⟨[8,12,16],[],[],[],true⟩,⟨[8,17],[],[],[],false⟩,⟨[8,18],[],[],[],false⟩] [0,1,2,3,4,5,6,7,8,9,10,11,12,13,14,15] [[],[0],[0,1],[0,1,2],[0,1,2,3],[0,1,2,3,4],[0,1,2,3,4,5],[0,1,2,3,4,5,6],[0,1,2,3,4,5,6,7],[0,1,2,3,4],[0,1,2,3,4,9],[0,1,2,3,4,9,10],[0,1,2,3,4,9,10,11],[0,1,2,3,4,5,6,7,8,9,10,11,12],[0,1,2,3,4,5,6,7,8,9,10,11,12,13],[0,1,2,3,4,5,6,7,8,9,10,11,12,13,14]] 2 ?_
    intro O A K hO hA hK;simp only [atL_cons,atL_nil,Nat.reduceAdd,Nat.zero_add] at hO hA
    refine SE_ ?_
    refine lpE_ (hz ▸ isTwo_ok e.kind) Tryz.call58 ?_
    first | refine lg_ (fun hb => ialike_ok' (e.kids.getD 0 default) (e.kids.getD 1 default) (by omega)) Tryz.call7 ?_ | refine lpE_ (ialike_ok' (e.kids.getD 0 default) (e.kids.getD 1 default) (by omega)) Tryz.call7 ?_
    refine hK _ (S_ ?_);clear hK K hO hA O A
    refine c_ (fun hc0 => ?_) fun hc0 => ?_
    ·
      refine g_ [2,3] ?_
      refine wpM_le [(2, .ptr (B + 1) 0), (3, .bool false)] [(B + 1, .cells 27 noX.cs)] T_ T_ T_ ?_
      refine e_ Tryz.results83 ?_
      first
      | exact True.intro
      | simp only [*, Bool.not_true, Bool.not_false, Bool.false_or, Bool.true_or, if_true, Bool.false_eq_true, if_false, Bool.or_true, Bool.or_false]
        all_goals first | (simp [numX, noX, Ex.kind, Ex.n, Ex.a, Ex.kids, Ex.csL]; done) | (exfalso; simp_all; done)
    refine g_ [2,22] ?_
    refine g_ [2,22,23] ?_
    refine c_ (fun hc1 => ?_) fun hc1 => ?_
    ·
      refine n_ ?_
      refine wpM_regionK [2,3] rfl fun Q1 hQ1 => ?_
      refine S_ ?_
      refine cp_ (numOf_ok 1) Tryz.call101 ?_
      refine hQ1 _ _ (S_ ?_);clear hQ1 Q1
      refine e_ Tryz.results83 ?_
      first
      | exact True.intro
      | simp only [*, Bool.not_true, Bool.not_false, Bool.false_or, Bool.true_or, if_true, Bool.false_eq_true, if_false, Bool.or_true, Bool.or_false]
        all_goals first | (simp [numX, noX, Ex.kind, Ex.n, Ex.a, Ex.kids, Ex.csL]; done) | (exfalso; simp_all; done)
    refine g_ [2,22,26] ?_
    refine c_ (fun hc2 => ?_) fun hc2 => ?_
    ·
      refine c_ (fun hc3 => ?_) fun hc3 => ?_
      ·
        refine n_ ?_
        refine wpM_regionK [2,3] rfl fun Q1 hQ1 => ?_
        refine S_ ?_
        refine cp_ (numOf_ok 0) Tryz.call101 ?_
        refine hQ1 _ _ (S_ ?_);clear hQ1 Q1
        refine e_ Tryz.results83 ?_
        first
        | exact True.intro
        | simp only [*, Bool.not_true, Bool.not_false, Bool.false_or, Bool.true_or, if_true, Bool.false_eq_true, if_false, Bool.or_true, Bool.or_false]
          all_goals first | (simp [numX, noX, Ex.kind, Ex.n, Ex.a, Ex.kids, Ex.csL]; done) | (exfalso; simp_all; done)
      refine g_ [2,3] ?_
      refine wpM_le [(2, .ptr (B + 1) 0), (3, .bool false)] [(B + 1, .cells 27 noX.cs)] T_ T_ T_ ?_
      refine e_ Tryz.results83 ?_
      first
      | exact True.intro
      | simp only [*, Bool.not_true, Bool.not_false, Bool.false_or, Bool.true_or, if_true, Bool.false_eq_true, if_false, Bool.or_true, Bool.or_false]
        all_goals first | (simp [numX, noX, Ex.kind, Ex.n, Ex.a, Ex.kids, Ex.csL]; done) | (exfalso; simp_all; done)
    refine g_ [2,26] ?_
    refine c_ (fun hc4 => ?_) fun hc4 => ?_
    ·
      refine n_ ?_
      refine wpM_regionK [2,3] rfl fun Q1 hQ1 => ?_
      refine S_ ?_
      refine cp_ (numOf_ok 0) Tryz.call101 ?_
      refine hQ1 _ _ (S_ ?_);clear hQ1 Q1
      refine e_ Tryz.results83 ?_
      first
      | exact True.intro
      | simp only [*, Bool.not_true, Bool.not_false, Bool.false_or, Bool.true_or, if_true, Bool.false_eq_true, if_false, Bool.or_true, Bool.or_false]
        all_goals first | (simp [numX, noX, Ex.kind, Ex.n, Ex.a, Ex.kids, Ex.csL]; done) | (exfalso; simp_all; done)
    refine g_ [2,3] ?_
    refine wpM_le [(2, .ptr (B + 1) 0), (3, .bool false)] [(B + 1, .cells 27 noX.cs)] T_ T_ T_ ?_
    refine e_ Tryz.results83 ?_
    first
    | exact True.intro
    | simp only [*, Bool.not_true, Bool.not_false, Bool.false_or, Bool.true_or, if_true, Bool.false_eq_true, if_false, Bool.or_true, Bool.or_false]
      all_goals first | (simp [numX, noX, Ex.kind, Ex.n, Ex.a, Ex.kids, Ex.csL]; done) | (exfalso; simp_all; done)
end Go.Proofs.YtmicbfojofcigaaGreat
namespace Go.Proofs.YtmicbfojofcigaaGreat
open Go Sg
set_option maxRecDepth 100000
set_option linter.unusedSimpArgs false
set_option linter.unusedVariables false
set_option linter.unusedSectionVars false
set_option maxHeartbeats 4000000
variable [Tab]
theorem icopyE_ok : ∀ (N : Nat) (e : Ex), e.sz ≤ N → e.sz ≤ 1099511627776 → PureF Tryz.prog 21 [.agg e.cs] [.agg e.cs] := by
  intro N
  induction N with
  | zero => intro e h; have := e.sz_pos; omega
  | succ N ih =>
    intro e hN hs
    have hlen := e.kids_len
    refine pureF_of Tryz.func21 rfl Tryz.ntmps21 (by simp) T_ ?_
    intro f0 B Q hQ
    refine g_ [1,2] ?_
    refine g_ [1,2,3] ?_
    refine g_ [1,2,3] ?_
    refine g_ [1,2,9,10,11] ?_
    refine n_ ?_
    refine wpM_loopS (fun s r s' => (r = e.kids.length ∧ s' = s) ∨ ∃ (i0 M0 y : Nat), 0 < i0 ∧ i0 + r = e.kids.length ∧ s.M ≤ y ∧ y < M0 ∧ s' = { s with env := setE 11 (.int .i64 (i0 : Nat)) s.env, l := (y, .cells 27 (exc (e.kids.take i0))) :: setl B (.cells 27 [.int .i64 e.kind, .int .i64 e.n, .int .i64 e.a.kind, .int .i64 e.a.at', .sl 27 y 0 i0]) s.l, M := M0 }) (e.kids.length) ?_ ?_
    ·
      refine .of' _ _ (.inl ⟨rfl, rfl⟩) ?_ ?_ ?_ <;> exact L_
    rintro r s' (⟨rfl, rfl⟩ | ⟨i0, M0, y, hi0, hir, hy, hyM, rfl⟩)
    ·
      try refine S_ ?_
      refine g_ [1,2,9,10,11,12] ?_
      refine c_ (fun hc0 => ?_) fun hc0 => ?_
      ·
        have hks := Ex.kid_sz (e := e) (k := 0) (by omega)
        refine g_ [1,2,5,9,10,11] ?_
        refine dr_ mixed [1,2,9,10,11] 2 2 [B,B + 2, B + 3, B + 4] [⟨[1],[],[],[],false⟩,⟨[15],[0],[],[],false⟩,⟨[5],[1],[],[],false⟩,⟨[17],[],[],[],true⟩,⟨[18],[],[],[2],false⟩,⟨[16,19],[2],[],[3],false⟩,⟨[1],[],[],[],false⟩,⟨[20,21],[0],[0],[],false⟩] [0,1,2,3,4,5,6,7] [[],[0],[],[2],[2,3],[0,1,2,3,4],[0,1,2,3,4,5],[0,1,2,3,4,5,6]] 4 ?_
        intro O A K hO hA hK;simp only [atL_cons,atL_nil,Nat.reduceAdd,Nat.zero_add] at hO hA
        simp -implicitDefEqProofs (disch := omega) only [go_sem, exc_len, hO, hA]
        refine loud_p (ih (e.kids.getD 0 default) (by omega) (by omega)) Tryz.call21 rfl rfl (by first | rfl | (simp -implicitDefEqProofs (disch := omega) only [go_sem] <;> rfl)) rfl ?_
        simp -implicitDefEqProofs (disch := omega) only [go_sem, exc_len, hO, hA]
        refine hK _ (S_ ?_);clear hK K hO hA O A
        refine g_ [1,2,9,10,11] ?_
        have e1 : [PV.int .i64 (e.kids.getD 0 default).kind, .int .i64 (e.kids.getD 0 default).n, .int .i64 (e.kids.getD 0 default).a.kind, .int .i64 (e.kids.getD 0 default).a.at', .rows 27 (Ex.csL (e.kids.getD 0 default).kids)] = exc (e.kids.take 1) := by
          have this0 : e.kids.getD 0 default = e.kids[0] := by simp [List.getD, show 0 < e.kids.length by omega]
          rw [List.take_succ_eq_append_getElem (by omega), List.take_zero, List.nil_append, ← exc_one, ← this0, Ex.cs_eq]
        rw [e1]
        refine .of' _ _ ⟨e.kids.length - 1, by omega, .inr ⟨1, _, B + 4, by omega, by omega, ?_, ?_, rfl⟩⟩ ?_ ?_ ?_
        · first | omega | (simp -implicitDefEqProofs (disch := omega) only [go_sem]; done) | (simp -implicitDefEqProofs (disch := omega) only [go_sem]; omega)
        · first | omega | (simp -implicitDefEqProofs (disch := omega) only [go_sem]; done) | (simp -implicitDefEqProofs (disch := omega) only [go_sem]; omega)
        all_goals exact L_
      refine n_ ?_
      have hk0 : e.kids = [] := List.eq_nil_of_length_eq_zero (by omega)
      refine wpM_le [(2, .ptr (B + 1) 0), (1, .ptr B 0)] [(B, .cells 27 e.cs), (B + 1, .cells 27 [.int .i64 0, .int .i64 0, .int .i64 0, .int .i64 0, .emp])] (by simp -implicitDefEqProofs (disch := omega) only [go_sem, hk0]) (by simp -implicitDefEqProofs (disch := omega) only [go_sem, hk0]) T_ ?_
      refine g_ [2] ?_
      refine e_ Tryz.results21 ?_
      first
      | exact True.intro
      | rfl
    dsimp only at hy
    try refine S_ ?_
    refine g_ [1,2,9,10,11,12] ?_
    refine c_ (fun hc0 => ?_) fun hc0 => ?_
    ·
      have hks := Ex.kid_sz (e := e) (k := i0) (by omega)
      have htl : (e.kids.take i0).length = i0 := by simp; omega
      refine g_ [1,2,5,9,10,11] ?_
      refine dr_ mixed [1,2,9,10,11] 2 3 [B, M0, y, M0 + 1, M0 + 2] [⟨[1],[],[],[],false⟩,⟨[15],[0],[],[],false⟩,⟨[5],[1],[],[],false⟩,⟨[17],[],[],[],true⟩,⟨[18],[],[],[3],false⟩,⟨[16,19],[2,3],[2],[4],false⟩,⟨[1],[],[],[],false⟩,⟨[20,21],[0],[0],[],false⟩] [0,1,2,3,4,5,6,7] [[],[0],[],[2],[2,3],[0,1,2,3,4],[0,1,2,3,4,5],[0,1,2,3,4,5,6]] 5 (htbl := by simp; omega) (hnm := by simp) ?_
      intro O A K hO hA hK;simp only [atL_cons,atL_nil,Nat.reduceAdd,Nat.zero_add] at hO hA
      simp -implicitDefEqProofs (disch := omega) only [go_sem, htl, hO, hA]
      refine loud_p (ih (e.kids.getD i0 default) (by omega) (by omega)) Tryz.call21 rfl rfl (by first | rfl | (simp -implicitDefEqProofs (disch := omega) only [go_sem] <;> rfl)) rfl ?_
      simp -implicitDefEqProofs (disch := omega) only [go_sem, htl, hO, hA]
      refine hK _ (S_ ?_);clear hK K hO hA O A
      refine g_ [1,2,9,10,11] ?_
      have e1 : exc (e.kids.take i0) ++ [.int .i64 (e.kids.getD i0 default).kind, .int .i64 (e.kids.getD i0 default).n, .int .i64 (e.kids.getD i0 default).a.kind, .int .i64 (e.kids.getD i0 default).a.at', .rows 27 (Ex.csL (e.kids.getD i0 default).kids)] = exc (e.kids.take (i0 + 1)) := by
        rw [List.take_succ_eq_append_getElem (by omega), ← exc_app, Ex.cs_eq]
        have : e.kids.getD i0 default = e.kids[i0] := by simp [List.getD, show i0 < e.kids.length by omega]
        rw [this]
      rw [e1]
      refine .of' _ _ ⟨r - 1, by omega, .inr ⟨i0 + 1, _, M0 + 2, by omega, by omega, ?_, ?_, rfl⟩⟩ ?_ ?_ ?_
      · first | omega | (simp -implicitDefEqProofs (disch := omega) only [go_sem]; done) | (simp -implicitDefEqProofs (disch := omega) only [go_sem]; omega)
      · first | omega | (simp -implicitDefEqProofs (disch := omega) only [go_sem]; done) | (simp -implicitDefEqProofs (disch := omega) only [go_sem]; omega)
      all_goals exact L_
    refine n_ ?_
    have hie : i0 = e.kids.length := by omega
    have htl : e.kids.take i0 = e.kids := by rw [hie, List.take_of_length_le (Nat.le_refl _)]
    rw [htl]
    refine wpM_frz [y] [(27, y, 0, i0, Ex.csL e.kids)] (by intro q hq; simp at hq; subst hq; simp -implicitDefEqProofs (disch := omega) only [go_sem]) (by intro q hq; simp only [List.mem_cons, List.not_mem_nil, or_false] at hq; subst hq; rw [hie]; exact ⟨by simp, rowsOf_exc (T := 27) T_⟩) ?_
    simp -implicitDefEqProofs (disch := omega) only [go_sem]
    refine g_ [2] ?_
    refine e_ Tryz.results21 ?_
    first
    | exact True.intro
    | rfl
end Go.Proofs.YtmicbfojofcigaaGreat
namespace Go.Proofs.YtmicbfojofcigaaGreat
open Go Sg
set_option maxRecDepth 100000
set_option linter.unusedSimpArgs false
set_option linter.unusedVariables false
set_option linter.unusedSectionVars false
set_option maxHeartbeats 4000000
variable [Tab]
def rulF (j : Nat) : Nat := [79, 80, 81, 82, 83].getD j 0
noncomputable def rulR : Nat → Ex → Ex × Bool
  | 0, e => (if (e.kids.length : Int) == 0 || e.kids.any (fun x => x.kind != 1) then noX else numX (e.of zM), !((e.kids.length : Int) == 0 || e.kids.any (fun x => x.kind != 1)))
  | 1, e => (if !isTwo e.kind then noX else e.kids.getD 0 default, if !isTwo e.kind then false else ((e.kind == 3 || e.kind == 4) && (e.kids.getD 1 default).isN 0 || e.kind == 5 && (e.kids.getD 1 default).isN 1))
  | 2, e => (if !isTwo e.kind then noX else e.kids.getD 1 default, if !isTwo e.kind then false else (e.kind == 3 && (e.kids.getD 0 default).isN 0 || e.kind == 5 && (e.kids.getD 0 default).isN 1))
  | 3, e => (numX 0, (e.kind == 5 || e.kind == 8) && ((e.kids.getD 0 default).isN 0 || (e.kids.getD 1 default).isN 0))
  | _, e => (if !isTwo e.kind || !same (e.kids.getD 0 default) (e.kids.getD 1 default) then noX else if e.kind == 7 then numX 1 else if e.kind == 6 || e.kind == 4 then numX 0 else noX, if !isTwo e.kind || !same (e.kids.getD 0 default) (e.kids.getD 1 default) then false else (e.kind == 7 || (e.kind == 6 || e.kind == 4)))
def rulL : List PV := [.fn (.func 79) [] [], .fn (.func 80) [] [], .fn (.func 81) [] [], .fn (.func 82) [] [], .fn (.func 83) [] []]
@[go_sem] theorem rules_build : buildA Tryz.prog 86 [(0, .fn (.func 79) [] []), (1, .fn (.func 80) [] []), (2, .fn (.func 81) [] []), (3, .fn (.func 82) [] []), (4, .fn (.func 83) [] [])] = some (.agg [.fn (.func 79) [] [], .fn (.func 80) [] [], .fn (.func 81) [] [], .fn (.func 82) [] [], .fn (.func 83) [] []]) := by
  unfold buildA placesA
  simp -implicitDefEqProofs (disch := omega) only [go_sem, PV.cellsOf, splice] <;> rfl
theorem rules_ok : PureF Tryz.prog 47 [] [.agg rulL] := by
  refine pureF_of Tryz.func47 rfl Tryz.ntmps47 (by simp) (by rfl) ?_
  intro f0 B Q hQ
  refine g_ [0] ?_
  refine g_ [0] ?_
  refine e_ Tryz.results47 ?_
  first
  | exact True.intro
  | rfl
@[go_sem] theorem rulL_at (j : Nat) (h : j < 5) : rulL[j]? = some (.fn (.func (rulF j)) [] []) := by
  match j, h with
  | 0, _ => rfl
  | 1, _ => rfl
  | 2, _ => rfl
  | 3, _ => rfl
  | 4, _ => rfl
theorem rul_ok (j : Nat) (hj : j < 5) (e : Ex) (d : Nat) (h : formD (d + 1) e = true) (hs : e.sz ≤ 1099511627776) : PureF Tryz.prog (rulF j) [.agg e.cs] [.agg (rulR j e).1.cs, .bool (rulR j e).2] := by
  match j, hj with
  | 0, _ => exact known_ok e d h
  | 1, _ => exact second_ok e d h
  | 2, _ => exact first_ok e d h
  | 3, _ => exact zero_ok e d h
  | 4, _ => exact alike_ok e d h hs
theorem enter_rul (j : Nat) (hj : j < 5) args w : (callFunc (rulF j) args).run Tryz.prog w = .ok (.enter (rulF j) args) w := by
  match j, hj with
  | 0, _ => exact Tryz.call79 args w
  | 1, _ => exact Tryz.call80 args w
  | 2, _ => exact Tryz.call81 args w
  | 3, _ => exact Tryz.call82 args w
  | 4, _ => exact Tryz.call83 args w
theorem slimN_rul {d : Nat} {e : Ex} (h : formD (d + 1) e = true) : slimN e = if (rulR 0 e).2 then (rulR 0 e).1 else if (rulR 1 e).2 then (rulR 1 e).1 else if (rulR 2 e).2 then (rulR 2 e).1 else if (rulR 3 e).2 then (rulR 3 e).1 else if (rulR 4 e).2 then (rulR 4 e).1 else e := by
  rcases form_len h with ⟨hl, hk⟩ | ⟨hl, hk⟩ | ⟨hl, hk⟩
  · have h2 : isTwo e.kind = false := by simp only [isTwo]; rcases hk with hk | hk <;> rw [hk] <;> rfl
    have h5 : (e.kind == 5 || e.kind == 8) = false := by rcases hk with hk | hk <;> rw [hk] <;> rfl
    have h10 : (e.kind == 10) = false := by rcases hk with hk | hk <;> rw [hk] <;> rfl
    simp [rulR, hl, h2, h5, slimN, h10]
  · have h2 : isTwo e.kind = false := by rw [hk]; rfl
    have h5 : (e.kind == 5 || e.kind == 8) = false := by rw [hk]; rfl
    obtain ⟨x, hx⟩ : ∃ x, e.kids = [x] := by
      match e.kids, hl with
      | [x], _ => exact ⟨x, rfl⟩
    have hof : e.of zM = numIs (!(x.of zM != 0)) := by
      rw [Ex.of_eq, hk, hx]; rfl
    cases h1 : x.kind == 1
    · have h1' : (x.kind != 1) = true := by simpa using h1
      simp [rulR, h2, h5, slimN, hk, hx, h1, h1']
    · have h1' : (x.kind != 1) = false := by simpa using h1
      have hxn : x.of zM = x.n := by rw [Ex.of_eq, if_pos h1]
      simp [rulR, h2, h5, slimN, hk, hx, h1, h1', hof, hxn]
  · have h2 : isTwo e.kind = true := by simp only [isTwo, Bool.and_eq_true, decide_eq_true_eq]; exact hk
    have h10 : (e.kind == 10) = false := by simp; omega
    obtain ⟨a, b, hx⟩ : ∃ a b, e.kids = [a, b] := by
      match e.kids, hl with
      | [a, b], _ => exact ⟨a, b, rfl⟩
    have hof : e.of zM = two e.kind (a.of zM) (b.of zM) := by
      rw [Ex.of_eq, if_neg (by simp; omega), if_neg (by simp; omega), if_neg (by simp; omega), hx]; rfl
    have c0 : (!((e.kids.length : Int) == 0 || e.kids.any (fun x => x.kind != 1))) = (a.kind == 1 && b.kind == 1) := by
      rw [hx]
      simp only [List.any_cons, List.any_nil, bne]
      cases a.kind == 1 <;> cases b.kind == 1 <;> rfl
    have c1 : ((e.kind == 3 || e.kind == 4) && b.isN 0 || e.kind == 5 && b.isN 1) = (e.kind == 3 && b.isN 0 || e.kind == 4 && b.isN 0 || e.kind == 5 && b.isN 1) := by
      cases e.kind == 3 <;> cases e.kind == 4 <;> cases b.isN 0 <;> rfl
    have c3 : ((e.kind == 5 || e.kind == 8) && (a.isN 0 || b.isN 0)) = (e.kind == 5 && (a.isN 0 || b.isN 0) || e.kind == 8 && (a.isN 0 || b.isN 0)) := by
      cases e.kind == 5 <;> cases e.kind == 8 <;> simp
    have ga : e.kids.getD 0 default = a := by rw [hx]; rfl
    have gb : e.kids.getD 1 default = b := by rw [hx]; rfl
    have hs : slimN e = slim2 e a b := by
      unfold slimN
      rw [h10, Bool.false_and, if_neg (by simp), if_pos (by rw [hl]; rfl), ga, gb]
    rw [hs]
    unfold slim2
    simp only [rulR, c0, ga, gb, h2, Bool.not_true, Bool.false_eq_true, if_false, c1, c3, Bool.false_or]
    split
    · rename_i hh
      simp only [Bool.and_eq_true] at hh
      have hn : ((e.kids.length : Int) == 0 || e.kids.any (fun x => x.kind != 1)) = false := by
        have := c0
        rw [hh.1, hh.2] at this
        simpa using this
      rw [hn, if_neg (by simp), hof, Ex.of_eq, if_pos hh.1, Ex.of_eq, if_pos hh.2]
    · split
      · rfl
      · split
        · rfl
        · split
          · rfl
          · cases same a b
            · simp
            · cases e.kind == 7
              · cases e.kind == 6 || e.kind == 4 <;> simp
              · simp
theorem rul_hit {d : Nat} {e : Ex} (h : formD (d + 1) e = true) {j : Nat} (hj : j < 5) (hn : (List.range j).all (fun k => !(rulR k e).2) = true) (ht : (rulR j e).2 = true) : slimN e = (rulR j e).1 := by
  rw [slimN_rul h]
  simp only [List.all_eq_true, List.mem_range] at hn
  have hf : ∀ k, k < j → (rulR k e).2 = false := fun k hk => by simpa using hn k hk
  match j, hj with
  | 0, _ => rw [if_pos ht]
  | 1, _ => rw [hf 0 (by omega), if_neg (by simp), if_pos ht]
  | 2, _ => rw [hf 0 (by omega), if_neg (by simp), hf 1 (by omega), if_neg (by simp), if_pos ht]
  | 3, _ => rw [hf 0 (by omega), if_neg (by simp), hf 1 (by omega), if_neg (by simp), hf 2 (by omega), if_neg (by simp), if_pos ht]
  | 4, _ => rw [hf 0 (by omega), if_neg (by simp), hf 1 (by omega), if_neg (by simp), hf 2 (by omega), if_neg (by simp), hf 3 (by omega), if_neg (by simp), if_pos ht]
theorem rul_miss {d : Nat} {e : Ex} (h : formD (d + 1) e = true) (hn : (List.range 5).all (fun k => !(rulR k e).2) = true) : slimN e = e := by
  rw [slimN_rul h]
  simp only [List.all_eq_true, List.mem_range] at hn
  have hf : ∀ k, k < 5 → (rulR k e).2 = false := fun k hk => by simpa using hn k hk
  rw [hf 0 (by omega), if_neg (by simp), hf 1 (by omega), if_neg (by simp), hf 2 (by omega), if_neg (by simp), hf 3 (by omega), if_neg (by simp), hf 4 (by omega), if_neg (by simp)]
end Go.Proofs.YtmicbfojofcigaaGreat
