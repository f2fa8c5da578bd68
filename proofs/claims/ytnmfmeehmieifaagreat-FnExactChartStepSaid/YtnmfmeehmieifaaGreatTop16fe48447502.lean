/- What is proved: FnExactChartStep: for every input the law returns true, and its arguments read as before. Conditions: none but the statement's own. -/
import Derived.Test.YtnmfmeehmieifaaGreatXf5d348dd13
import Derived.Test.YtnmfmeehmieifaaGreatRows
set_option linter.unusedSectionVars false
set_option linter.unusedSimpArgs false
set_option linter.unusedVariables false
namespace Go.Proofs.YtnmfmeehmieifaaGreat
open Go Sg
set_option maxRecDepth 100000
set_option linter.unusedSimpArgs false
set_option linter.unusedVariables false
set_option linter.unusedSectionVars false
set_option maxHeartbeats 4000000
variable [Glob]
theorem eqTrans_ok (a b : Trn) (ha : a.Sm) : PureF Tryz.prog 115 [.agg a.cs, .agg b.cs] [.bool (same a b)] := by
  refine pureF_of Tryz.func115 rfl Tryz.ntmps115 (by simp) T_ ?_
  intro f0 B Q hQ
  refine g_ [2,3] ?_
  refine n_ ?_
  refine wpM_regionK [2,3,10] rfl fun Q1 hQ1 => ?_
  refine S_ ?_
  refine cp_ (eqIntS_ok a.fr b.fr ha.fr) Tryz.call24 ?_
  refine hQ1 _ _ (S_ ?_);clear hQ1 Q1
  refine c_ (fun hc0 => ?_) fun hc0 => ?_
  ·
    refine g_ [4] ?_
    refine e_ Tryz.results115 ?_
    first
    | exact True.intro
    | rw [← same_tr]
      simp_all
  refine n_ ?_
  refine wpM_regionK [2,3,16] rfl fun Q1 hQ1 => ?_
  refine S_ ?_
  refine cp_ (eqIntS_ok a.to' b.to' ha.to') Tryz.call24 ?_
  refine hQ1 _ _ (S_ ?_);clear hQ1 Q1
  refine c_ (fun hc1 => ?_) fun hc1 => ?_
  ·
    refine g_ [4] ?_
    refine e_ Tryz.results115 ?_
    first
    | exact True.intro
    | rw [← same_tr]
      simp_all
  refine n_ ?_
  refine wpM_regionK [22] rfl fun Q1 hQ1 => ?_
  refine S_ ?_
  refine cp_ (eqExpr_ok a.w b.w ha.w) Tryz.call93 ?_
  refine hQ1 _ _ (S_ ?_);clear hQ1 Q1
  refine c_ (fun hc2 => ?_) fun hc2 => ?_
  ·
    refine g_ [4] ?_
    refine e_ Tryz.results115 ?_
    first
    | exact True.intro
    | rw [← same_tr]
      simp_all
  refine g_ [4] ?_
  refine e_ Tryz.results115 ?_
  first
  | exact True.intro
  | rw [← same_tr]
    simp_all
theorem eqTransS_ok (a b : List Trn) (hl : a.length ≤ 1099511627776) (ha : ∀ i, i < a.length → (a.getD i default).Sm) : PureF Tryz.prog 66 [.rows 154 (rowsT a), .rows 154 (rowsT b)] [.bool (same a b)] := by
  refine pureF_of Tryz.func66 rfl Tryz.ntmps66 (by simp) T_ ?_
  intro f0 B Q hQ
  refine g_ [0,1] ?_
  refine g_ [0,1,10] ?_
  refine c_ (fun hc0 => ?_) fun hc0 => ?_
  ·
    refine g_ [4] ?_
    refine e_ Tryz.results66 ?_
    first
    | exact True.intro
    | simp at hc0
      exact (same_no (fun h => by rw [h] at hc0; exact hc0 rfl)).symm
  have hab : a.length = b.length := by simp at hc0; omega
  refine g_ [0,1,5] ?_
  refine n_ ?_
  refine wpM_loopS (fun s n s' => ∃ (i0 M0 : Nat) , i0 + n = a.length ∧ s.M ≤ M0 ∧ ((List.range i0).all (fun i => same (a.getD i default) (b.getD i default)) = true) ∧ s' = { s with env := setE 5 (.int .i64 (i0 : Nat)) s.env, M := M0 }) (a.length) ?_ ?_
  ·
    refine .of' _ _ ⟨0, _, by omega, Nat.le_refl _, by simp, rfl⟩ ?_ ?_ ?_ <;> exact L_
  rintro n0 s' ⟨i0, M0, hi0, hM0, hv0, rfl⟩
  try dsimp only at hM0
  try refine S_ ?_
  refine g_ [0,1,5,14] ?_
  refine c_ (fun hc1 => ?_) fun hc1 => ?_
  ·
    have hl0 : i0 < a.length := by omega
    refine n_ ?_
    refine dr_ mixed [0,1,5,26] 0 0 [] [⟨[0],[],[],[],false⟩,⟨[5],[],[],[],false⟩,⟨[17,18],[],[],[],false⟩,⟨[19],[],[],[],false⟩,⟨[1],[],[],[],false⟩,⟨[5],[],[],[],false⟩,⟨[21,22],[],[],[],false⟩,⟨[23],[],[],[],false⟩,⟨[20,24],[],[],[],true⟩,⟨[25],[],[],[],false⟩] [0,1,2,3,4,5,6,7,8,9] [[],[],[0,1],[0,1,2],[],[],[4,5],[4,5,6],[0,1,2,3,4,5,6,7],[0,1,2,3,4,5,6,7,8]] 0 ?_
    intro O A K hO hA hK;simp only [atL_cons,atL_nil,Nat.reduceAdd,Nat.zero_add] at hO hA
    refine SO_ ?_
    refine lp_ (eqTrans_ok (a.getD i0 default) (b.getD i0 default) (ha i0 hl0)) Tryz.call115 ?_
    refine hK _ (S_ ?_);clear hK K hO hA O A
    refine c_ (fun hc2 => ?_) fun hc2 => ?_
    ·
      refine g_ [4] ?_
      refine e_ Tryz.results66 ?_
      first
      | exact True.intro
      | have h2 : (!same (a.getD i0 default) (b.getD i0 default)) = true := hc2
        rw [← range_ext hab same (fun i _ => rfl), range_no hl0 (by simpa using h2)]
    refine g_ [0,1,5] ?_
    refine .of' _ _ ⟨n0 - 1, by omega, i0 + 1, _, by omega, M_, ?_, rfl⟩ L_ L_ L_
    have h2 : (!same (a.getD i0 default) (b.getD i0 default)) = false := hc2
    rw [range_all, hv0]; simpa using h2
  refine g_ [4] ?_
  refine e_ Tryz.results66 ?_
  first
  | exact True.intro
  | have : i0 = a.length := by omega
    rw [← range_ext hab same (fun i _ => rfl), ← this, hv0]
theorem eqAct_ok (a b : GAct) : PureF Tryz.prog 116 [.agg a.cs, .agg b.cs] [.bool (same a b)] := by
  rw [← eqAcB_same]
  refine pureF_of Tryz.func116 rfl Tryz.ntmps116 (by simp) T_ ?_
  intro f0 B Q hQ
  refine g_ [2,3] ?_
  refine g_ [2,3,9] ?_
  refine c_ (fun hc0 => ?_) fun hc0 => ?_
  ·
    refine g_ [4] ?_
    refine e_ Tryz.results116 ?_
    first
    | exact True.intro
    | unfold eqAcB
      first | (simp_all; done) | (simp_all; intro h1 h2; rcases hc2 with h | h <;> contradiction)
  refine g_ [2,3,14] ?_
  refine c_ (fun hc1 => ?_) fun hc1 => ?_
  ·
    refine g_ [4] ?_
    refine e_ Tryz.results116 ?_
    first
    | exact True.intro
    | unfold eqAcB
      first | (simp_all; done) | (simp_all; intro h1 h2; rcases hc2 with h | h <;> contradiction)
  refine n_ ?_
  refine wpM_regionK [20] rfl fun Q1 hQ1 => ?_
  refine S_ ?_
  refine cp_ (eqAddr_ok a.to' b.to') Tryz.call92 ?_
  refine hQ1 _ _ (S_ ?_);clear hQ1 Q1
  refine c_ (fun hc2 => ?_) fun hc2 => ?_
  ·
    refine g_ [4] ?_
    refine e_ Tryz.results116 ?_
    first
    | exact True.intro
    | unfold eqAcB
      first | (simp_all; done) | (simp_all; intro h1 h2; rcases hc2 with h | h <;> contradiction)
  refine g_ [4] ?_
  refine e_ Tryz.results116 ?_
  first
  | exact True.intro
  | unfold eqAcB
    first | (simp_all; done) | (simp_all; intro h1 h2; rcases hc2 with h | h <;> contradiction)
theorem eqActS_ok (a b : List GAct) (hl : a.length ≤ 1099511627776) : PureF Tryz.prog 67 [.rows 158 (rowsA a), .rows 158 (rowsA b)] [.bool (same a b)] := by
  refine pureF_of Tryz.func67 rfl Tryz.ntmps67 (by simp) T_ ?_
  intro f0 B Q hQ
  refine g_ [0,1] ?_
  refine g_ [0,1,10] ?_
  refine c_ (fun hc0 => ?_) fun hc0 => ?_
  ·
    refine g_ [4] ?_
    refine e_ Tryz.results67 ?_
    first
    | exact True.intro
    | simp at hc0
      exact (same_no (fun h => by rw [h] at hc0; exact hc0 rfl)).symm
  have hab : a.length = b.length := by simp at hc0; omega
  refine g_ [0,1,5] ?_
  refine n_ ?_
  refine wpM_loopS (fun s n s' => ∃ (i0 M0 : Nat) , i0 + n = a.length ∧ s.M ≤ M0 ∧ ((List.range i0).all (fun i => same (a.getD i default) (b.getD i default)) = true) ∧ s' = { s with env := setE 5 (.int .i64 (i0 : Nat)) s.env, M := M0 }) (a.length) ?_ ?_
  ·
    refine .of' _ _ ⟨0, _, by omega, Nat.le_refl _, by simp, rfl⟩ ?_ ?_ ?_ <;> exact L_
  rintro n0 s' ⟨i0, M0, hi0, hM0, hv0, rfl⟩
  try dsimp only at hM0
  try refine S_ ?_
  refine g_ [0,1,5,14] ?_
  refine c_ (fun hc1 => ?_) fun hc1 => ?_
  ·
    have hl0 : i0 < a.length := by omega
    refine n_ ?_
    refine dr_ mixed [0,1,5,26] 0 0 [] [⟨[0],[],[],[],false⟩,⟨[5],[],[],[],false⟩,⟨[17,18],[],[],[],false⟩,⟨[19],[],[],[],false⟩,⟨[1],[],[],[],false⟩,⟨[5],[],[],[],false⟩,⟨[21,22],[],[],[],false⟩,⟨[23],[],[],[],false⟩,⟨[20,24],[],[],[],true⟩,⟨[25],[],[],[],false⟩] [0,1,2,3,4,5,6,7,8,9] [[],[],[0,1],[0,1,2],[],[],[4,5],[4,5,6],[0,1,2,3,4,5,6,7],[0,1,2,3,4,5,6,7,8]] 0 ?_
    intro O A K hO hA hK;simp only [atL_cons,atL_nil,Nat.reduceAdd,Nat.zero_add] at hO hA
    refine SO_ ?_
    refine lp_ (eqAct_ok (a.getD i0 default) (b.getD i0 default)) Tryz.call116 ?_
    refine hK _ (S_ ?_);clear hK K hO hA O A
    refine c_ (fun hc2 => ?_) fun hc2 => ?_
    ·
      refine g_ [4] ?_
      refine e_ Tryz.results67 ?_
      first
      | exact True.intro
      | have h2 : (!same (a.getD i0 default) (b.getD i0 default)) = true := hc2
        rw [← range_ext hab same (fun i _ => rfl), range_no hl0 (by simpa using h2)]
    refine g_ [0,1,5] ?_
    refine .of' _ _ ⟨n0 - 1, by omega, i0 + 1, _, by omega, M_, ?_, rfl⟩ L_ L_ L_
    have h2 : (!same (a.getD i0 default) (b.getD i0 default)) = false := hc2
    rw [range_all, hv0]; simpa using h2
  refine g_ [4] ?_
  refine e_ Tryz.results67 ?_
  first
  | exact True.intro
  | have : i0 = a.length := by omega
    rw [← range_ext hab same (fun i _ => rfl), ← this, hv0]
theorem eqChart_ok (a b : Cht) (ha : a.Sm) : PureF Tryz.prog 25 [.agg a.cs, .agg b.cs] [.bool (same a b)] := by
  refine pureF_of Tryz.func25 rfl Tryz.ntmps25 (by simp) T_ ?_
  intro f0 B Q hQ
  refine g_ [2,3] ?_
  refine g_ [2,3,9] ?_
  refine c_ (fun hc0 => ?_) fun hc0 => ?_
  ·
    refine g_ [4] ?_
    refine e_ Tryz.results25 ?_
    first
    | exact True.intro
    | rw [← same_ch]
      simp_all
  refine n_ ?_
  refine wpM_regionK [2,3,15] rfl fun Q1 hQ1 => ?_
  refine S_ ?_
  refine cp_ (eqTransS_ok a.ts b.ts ha.ts ha.t) Tryz.call66 ?_
  refine hQ1 _ _ (S_ ?_);clear hQ1 Q1
  refine c_ (fun hc1 => ?_) fun hc1 => ?_
  ·
    refine g_ [4] ?_
    refine e_ Tryz.results25 ?_
    first
    | exact True.intro
    | rw [← same_ch]
      simp_all
  refine n_ ?_
  refine wpM_regionK [21] rfl fun Q1 hQ1 => ?_
  refine S_ ?_
  refine cp_ (eqActS_ok a.as' b.as' ha.as') Tryz.call67 ?_
  refine hQ1 _ _ (S_ ?_);clear hQ1 Q1
  refine c_ (fun hc2 => ?_) fun hc2 => ?_
  ·
    refine g_ [4] ?_
    refine e_ Tryz.results25 ?_
    first
    | exact True.intro
    | rw [← same_ch]
      simp_all
  refine g_ [4] ?_
  refine e_ Tryz.results25 ?_
  first
  | exact True.intro
  | rw [← same_ch]
    simp_all
end Go.Proofs.YtnmfmeehmieifaaGreat
namespace Go.Proofs.YtnmfmeehmieifaaGreat
open Go Sg
set_option maxRecDepth 100000
set_option linter.unusedSimpArgs false
set_option linter.unusedVariables false
set_option linter.unusedSectionVars false
set_option maxHeartbeats 4000000
variable [Glob]
theorem step_pz (c : Cht) (k : Mrk) (m : MM) : pz (ichtStep c k m).1 ≤ 12 ∧ mz (ichtStep c k m).2 ≤ 18 := by
  unfold ichtStep
  split
  · rename_i h
    obtain ⟨h1, h2, h3, h4⟩ := turnOk_inv h
    have h5 := Cht.ok_st h2
    have h6 := istep_six (c := c) (k := k) (MM.ok_six h1)
    have e1 : (istep c k m).1.on.length = c.steps.toNat := hasL_len _ _
    have e2 : (istep c k m).1.kept.length = 6 := by
      show (kAll _ _ _ _).length = 6
      rw [kAll_len, h4]
    unfold pz mz
    rw [h6.i, h6.o, h6.v, e1, e2]
    omega
  · unfold pz mz; simp
theorem own_stepI {k : Mrk} {m : MM} {cs : List PV} {T : List (Nat × AObj)} (h : Owns Tryz.prog cs (k.cs ++ m.cs) T) : ∃ x y a b d, cs = k.oc x y ++ m.oc a b d ∧ T = k.ol x y ++ m.ol a b d := by
  obtain ⟨c1, c2, T1, T2, rfl, rfl, h1, h2⟩ := h.split
  obtain ⟨x, y, rfl, rfl⟩ := own_mrkI h1
  obtain ⟨a, b, d, rfl, rfl⟩ := own_memI h2
  exact ⟨x, y, a, b, d, rfl, rfl⟩
theorem own_mrkX {k k' : Mrk} {x y : Nat} {T : List (Nat × AObj)} (h : Owns Tryz.prog (k.oc x y) k'.cs T) : T = k'.ol x y := by
  obtain ⟨a, b, h1, rfl⟩ := own_mrkI h
  simp only [Mrk.oc, List.cons.injEq, PV.sl.injEq, and_true, true_and] at h1
  rw [h1.1.1, h1.2.1]
theorem own_memX {k k' : MM} {x y z : Nat} {T : List (Nat × AObj)} (h : Owns Tryz.prog (k.oc x y z) k'.cs T) : T = k'.ol x y z := by
  obtain ⟨a, b, d, h1, rfl⟩ := own_memI h
  simp only [MM.oc, List.cons.injEq, PV.sl.injEq, and_true, true_and] at h1
  rw [h1.1.1, h1.2.1.1, h1.2.2.1]
theorem istepO_ok (c : Cht) (k : Mrk) (m : MM) (hc : c.Sm) (hms : m.Sm) {ca cb cd : List PV} {Ta Tb Td : List (Nat × AObj)} (ha : Owns Tryz.prog ca c.cs Ta) (hb : Owns Tryz.prog cb k.cs Tb) (hd : Owns Tryz.prog cd m.cs Td) (hnd : (ksL (Ta ++ (Tb ++ Td))).Nodup) :
    CallF Tryz.prog 34 [.agg ca, .agg cb, .agg cd] (Ta ++ (Tb ++ Td)) 5 (OwnR Tryz.prog (wAA 2) ((ichtStep c k m).1.cs ++ (ichtStep c k m).2.cs)) :=
  CallF.own (ha.app (hb.app hd)) hnd (fun θ h => aggs3 h ha.len hb.len) (fun ns o _ h => ownR_flatW (wAA_ok 2) h) (ichtStepT_ok c k m hc hms)
theorem lawStepX_ok (c : Cht) (k : Mrk) (m : MM) (hc : c.Len) (hk : k.Len) (hm : m.Len) : PureF Tryz.prog 6 [.agg c.lcs, .agg k.cs, .agg m.cs] [.bool true] := by
  refine pureF_of Tryz.func6 rfl Tryz.ntmps6 (by simp) T_ ?_
  intro f0 B Q hQ
  refine g_ [3,4,5] ?_
  refine g_ [3,4,5,7] ?_
  refine n_ ?_
  refine wpM_regionK [3,4,5,7] rfl fun Q1 hQ1 => ?_
  refine S_ ?_
  refine cp_ (szChart_ok c hc 1048576 (by omega) (by omega)) Tryz.call16 ?_
  refine hQ1 _ _ (S_ ?_);clear hQ1 Q1
  refine g_ [3,4,5,7,24] ?_
  refine c_ (fun hc0 => ?_) fun hc0 => ?_
  ·
    refine g_ [6] ?_
    exact e_ Tryz.results6 True.intro
  have p1 := szR_pos hc0
  refine n_ ?_
  refine wpM_regionK [3,4,5,7] rfl fun Q1 hQ1 => ?_
  refine S_ ?_
  refine cp_ (szMarks_ok k hk (szR 1048576 (cz c)) (by omega) (by omega)) Tryz.call17 ?_
  refine hQ1 _ _ (S_ ?_);clear hQ1 Q1
  refine g_ [3,4,5,7,29] ?_
  refine c_ (fun hc1 => ?_) fun hc1 => ?_
  ·
    refine g_ [6] ?_
    exact e_ Tryz.results6 True.intro
  have p2 := szR_pos hc1
  refine n_ ?_
  refine wpM_regionK [3,4,5,7] rfl fun Q1 hQ1 => ?_
  refine S_ ?_
  refine cp_ (szMem_ok m hm (szR (szR 1048576 (cz c)) (pz k)) (by omega) (by omega)) Tryz.call18 ?_
  refine hQ1 _ _ (S_ ?_);clear hQ1 Q1
  refine g_ [3,4,5,34] ?_
  refine c_ (fun hc2 => ?_) fun hc2 => ?_
  ·
    refine g_ [6] ?_
    exact e_ Tryz.results6 True.intro
  have p3 := szR_pos hc2
  have hzc : cz c ≤ 1048576 := by omega
  have hzk : pz k ≤ 1048576 := by omega
  have hzm : mz m ≤ 1048576 := by omega
  have hSc := cz_Sm hzc
  have hSm := mz_Sm hzm
  have hsz := step_pz c k m
  have hss : PureF Tryz.prog 33 [.agg c.cs, .agg k.cs, .agg m.cs] [.agg (ichtStep c k m).1.cs, .agg (ichtStep c k m).2.cs] := by
    rw [ichtStep_eq]; exact chtStep_ok c k m hSc hSm
  refine n_ ?_
  refine dr_ mixed [3,4,5,8,9] 2 3 [B, B + 1, B + 2, B + 3, B + 4] [⟨[3],[0],[],[],false⟩,⟨[36],[],[],[],true⟩,⟨[4],[1],[],[],false⟩,⟨[38],[],[],[],true⟩,⟨[5],[2],[],[],false⟩,⟨[40],[],[],[],true⟩,⟨[37,39,41],[],[],[],true⟩,⟨[42],[],[],[],false⟩,⟨[35],[],[],[],false⟩,⟨[35],[],[],[],false⟩,⟨[],[],[],[3],false⟩,⟨[],[],[],[4],false⟩,⟨[8,43],[3],[3],[],false⟩,⟨[9,44],[4],[4],[],false⟩] [0,2,4,10,11,1,3,5,6,7,8,9,12,13] [[],[0],[],[0,1,2],[],[0,1,2,3,4],[0,1,2,3,4,5],[0,1,2,3,4,5,6],[0,1,2,3,4,5,6,7],[0,1,2,3,4,5,6,7],[],[],[0,1,2,3,4,5,6,7,8,10,11],[0,1,2,3,4,5,6,7,8,9,10,11,12]] 5 ?_
  intro O A K hO hA hK;simp only [atL_cons,atL_nil,Nat.reduceAdd,Nat.zero_add] at hO hA
  refine SO_ ?_
  refine lp_ (toChart_ok c hzc) Tryz.call20 ?_
  refine lp_ (toMarks_ok k hzk) Tryz.call21 ?_
  refine lp_ (toMem_ok m hzm) Tryz.call22 ?_
  refine lp_ (hss) Tryz.call33 ?_
  refine hK _ (S_ ?_);clear hK K hO hA O A
  refine n_ ?_
  rw [show B + 1 + 1 + 1 + 2 = B + 5 from rfl]
  generalize hS : ichtStep c k m = S at *
  refine wpM_regionK [3,4,5,8,9,10] rfl fun Q1 hQ1 => ?_
  refine S_ ?_
  refine call_own (ps := [.agg c.lcs]) (toChartT_ok c hzc) Tryz.call20 rfl rfl rfl F_ (by simp [inR_cons, inR_nil] <;> omega) (by show B ≤ B + 5; omega) ?_
  intro ca Ta hOa hIa hka
  dsimp only at hIa hka
  have hA0 : InR B (B + 5 + c.nC) ((B + 4, AObj.dfr 0) :: (B + 3, .dfr 0) :: (B + 2, .dfr 0) :: (B + 1, .dfr 0) :: (B, .dfr 0) :: Ta) := InR.app (l := [_, _, _, _, _]) (M := B + 5) (by simp [inR_cons, inR_nil]) hIa (by omega) (by omega)
  obtain ⟨xa, ya, _, hca, _, _⟩ := own_cht hOa
  subst hca
  have hN3 : B + 5 ≤ B + 5 + c.nC := by omega
  dsimp only
  generalize hN : B + 5 + c.nC = N at *
  refine S_ ?_
  refine hQ1 _ _ (S_ ?_);clear hQ1 Q1
  refine n_ ?_
  refine wpM_regionK [3,4,5,8,9,10,11] rfl fun Q1 hQ1 => ?_
  refine S_ ?_
  refine call_own (ps := [.agg k.cs]) (toMarksT_ok k hzk) Tryz.call21 rfl rfl rfl F_ ((hA0.top (o := .dfr 0) (by omega)).ks rfl) (by show B ≤ N + 1; omega) ?_
  intro cb Tb hOb hIb hkb
  dsimp only at hIb hkb
  have hA1 := (hA0.top (o := .dfr 0) (by omega)).app hIb (by omega) (by omega)
  obtain ⟨xb, yb, hcb, hTb⟩ := own_mrkI hOb
  subst hcb
  unfold Mrk.oc
  refine S_ ?_
  refine hQ1 _ _ (S_ ?_);clear hQ1 Q1
  refine n_ ?_
  refine wpM_regionK [3,4,5,8,9,10,11,12] rfl fun Q1 hQ1 => ?_
  refine S_ ?_
  refine call_own (ps := [.agg m.cs]) (toMemT_ok m hzm) Tryz.call22 rfl rfl rfl F_ ((hA1.top (o := .dfr 0) (by omega)).ks rfl) (by show B ≤ N + 1 + 2 + 1; omega) ?_
  intro cd Td hOd hId hkd
  dsimp only at hId hkd
  have hA2 := (hA1.top (o := .dfr 0) (by omega)).app hId (by omega) (by omega)
  obtain ⟨xd, yd, zd, hcd, hTd⟩ := own_memI hOd
  subst hcd
  unfold MM.oc
  refine S_ ?_
  refine hQ1 _ _ (S_ ?_);clear hQ1 Q1
  refine n_ ?_
  refine wpM_regionK [3,4,5,8,9,10,11,12,13,14] rfl fun Q1 hQ1 => ?_
  refine S_ ?_
  refine call_ownT (ps := [.agg _, .agg _, .agg _]) (S := Ta ++ (Tb ++ Td)) (istepO_ok c k m hSc hSm hOa hOb hOd (by rw [← List.append_assoc]; exact (InR.pop (l := [_, _, _, _, _, _, _]) (hA2.ks rfl)).nd)) Tryz.call34 rfl rfl rfl F_ ((hA2.top (o := .dfr 0) (by omega)).ks rfl) (by show B ≤ N + 8; omega) (fun p hp => by simp only [List.mem_cons, List.mem_append] at hp ⊢; rcases hp with h | h | h <;> simp [h]) ?_
  rw [hS]
  intro cg Tg hOg hIg hkg
  dsimp only at hIg hkg
  have hA3 := (hA2.top (o := .dfr 0) (by omega)).app hIg (by omega) (by omega)
  obtain ⟨xg, yg, ag, bg, dg, hcg, hTg⟩ := own_stepI hOg
  subst hcg
  simp only [wAA, Mrk.oc, MM.oc, List.take, List.drop, List.cons_append, List.nil_append]
  have hO1 := own_mrk S.1 xg yg
  have hO2 := own_mem S.2 ag bg dg
  have hSS := mz_Sm (m := S.2) (by omega)
  have hzS : pz S.1 ≤ 1048576 := by omega
  have hndg : (ksL (S.1.ol xg yg ++ S.2.ol ag bg dg)).Nodup := by rw [← hTg]; exact hIg.nd
  have hnd1 : (ksL (S.1.ol xg yg)).Nodup := by rw [ksL_app] at hndg; exact (List.nodup_append.1 hndg).1
  have hnd2 : (ksL (S.2.ol ag bg dg)).Nodup := by rw [ksL_app] at hndg; exact (List.nodup_append.1 hndg).2.1
  have hxy : xg ≠ yg := by have h1 := hnd1; simpa [ksL, Mrk.ol] using h1
  have habd : ag ≠ bg ∧ ag ≠ dg ∧ bg ≠ dg := by have h1 := hnd2; simp [ksL, MM.ol] at h1; exact ⟨h1.1.1, h1.1.2, h1.2⟩
  have hA3t := (hA3.top (o := .dfr 0) (by omega)).top (o := .dfr 0) (by omega)
  have hA3' : InR B (N + 15) ([(N + 14, AObj.dfr 0), (N + 13, .dfr 0), (N + 7, .dfr 0), (N + 3, .dfr 0), (N, .dfr 0), (B + 4, .dfr 0), (B + 3, .dfr 0), (B + 2, .dfr 0), (B + 1, .dfr 0), (B, .dfr 0)] ++ (Ta ++ (Tb ++ (Td ++ Tg)))) := hA3t.ks (by simp [ksL])
  have hA4 := hA3'.cut
  have hA5 := hA4.cut
  have hA6 := hA5.cut
  have hin1 : ∀ p ∈ S.1.ol xg yg, p ∈ Tg := by rw [hTg]; intro p hp; exact List.mem_append_left _ hp
  have hin2 : ∀ p ∈ S.2.ol ag bg dg, p ∈ Tg := by rw [hTg]; intro p hp; exact List.mem_append_right _ hp
  refine S_ ?_
  refine hQ1 _ _ (S_ ?_);clear hQ1 Q1
  refine n_ ?_
  refine wpM_regionK [3,4,5,8,9,10,11,12,13,14,67] rfl fun Q1 hQ1 => ?_
  refine SD_ ?_
  refine call_r (own1 hO1 hnd1 (fun θ => rfl) rfl (eqMarks_ok S.1 S.1 hzS)) (own_f (hA3'.ks (by simp [ksL])) (fun p hp => by simp [hin1 p hp])) Tryz.call26 rfl rfl rfl F_ ?_
  rw [same_self]
  refine SD_ ?_
  refine call_r (own1 hO2 hnd2 (fun θ => rfl) rfl (eqMem_ok S.2 S.2 hSS)) (own_f (hA3'.ks (by simp [ksL])) (fun p hp => by simp [hin2 p hp])) Tryz.call27 rfl rfl rfl F_ ?_
  rw [same_self]
  refine SD_ ?_
  refine hQ1 _ _ (S_ ?_);clear hQ1 Q1
  refine c1_ ?_
  refine n_ ?_
  refine drG_ mixed [3,4,5,8,9,10,11,12,13,14,72] 0 2 3 (ksL Ta) [] [] [B, N] [⟨[10],[1],[],[],false⟩,⟨[3],[0],[],[],false⟩,⟨[69],[],[],[],true⟩,⟨[68,70],[],[],[],true⟩,⟨[71],[],[],[],false⟩] [0,1,2] [4] [[],[],[1],[0,1,2],[0,1,2,3]] 2 ?_ ?_ ?_ ?_ ?_ ?_
  · simp; omega
  · simp
  · exact List.nodup_nil
  · intro n hn; simp at hn
  · intro j hj hjt
    have hj : j ∈ ksL Ta := by rcases hj with h | h | h <;> first | exact h | simp at h
    obtain ⟨p, hp, rfl⟩ := List.mem_map.1 hj
    have h3 := hIa.at' p hp
    simp only [List.mem_cons, List.not_mem_nil, or_false] at hjt
    rcases hjt with h | h <;> omega
  intro O A K hO hA hK;simp only [atL_cons,atL_nil,Nat.reduceAdd,Nat.zero_add] at hO hA
  refine SO_ ?_
  refine lp_ (toChart_ok c hzc) Tryz.call20 ?_
  refine kG2_read (first := []) (cap := []) (ps := [.agg _, .agg c.cs]) (T := Ta) (own1 hOa hIa.nd (fun θ => rfl) rfl (eqChart_ok c c hSc)) Tryz.call25 rfl rfl ⟨rfl, rfl, rfl⟩ T_ rfl F_ (fun p hp => InR.f (hA3'.ks (by simp [ksL])) (by simp [hp])) ?_
  unfold contG
  rw [same_self]
  simp -implicitDefEqProofs (disch := omega) only [go_sem, hO, hA]
  refine hK _ (S_ ?_);clear hK K hO hA O A
  refine c1_ ?_
  refine n_ ?_
  refine drG_ mixed [3,4,5,8,9,10,11,12,13,14,77] 0 2 3 (ksL Tb) [] [] [B + 1, N + 1 + 2] [⟨[11],[1],[],[],false⟩,⟨[4],[0],[],[],false⟩,⟨[74],[],[],[],true⟩,⟨[73,75],[],[],[],true⟩,⟨[76],[],[],[],false⟩] [0,1,2] [4] [[],[],[1],[0,1,2],[0,1,2,3]] 2 ?_ ?_ ?_ ?_ ?_ ?_
  · simp; omega
  · simp
  · exact List.nodup_nil
  · intro n hn; simp at hn
  · intro j hj hjt
    have hj : j ∈ ksL Tb := by rcases hj with h | h | h <;> first | exact h | simp at h
    obtain ⟨p, hp, rfl⟩ := List.mem_map.1 hj
    have h3 := hIb.at' p hp
    simp only [List.mem_cons, List.not_mem_nil, or_false] at hjt
    rcases hjt with h | h <;> omega
  intro O A K hO hA hK;simp only [atL_cons,atL_nil,Nat.reduceAdd,Nat.zero_add] at hO hA
  refine SO_ ?_
  refine lp_ (toMarks_ok k hzk) Tryz.call21 ?_
  refine kG2_read (first := []) (cap := []) (ps := [.agg _, .agg k.cs]) (T := Tb) (own1 hOb hIb.nd (fun θ => rfl) rfl (eqMarks_ok k k hzk)) Tryz.call26 rfl rfl ⟨rfl, rfl, rfl⟩ T_ rfl F_ (fun p hp => InR.f (hA3'.ks (by simp [ksL])) (by simp [hp])) ?_
  unfold contG
  rw [same_self]
  simp -implicitDefEqProofs (disch := omega) only [go_sem, hO, hA]
  refine hK _ (S_ ?_);clear hK K hO hA O A
  refine c1_ ?_
  refine n_ ?_
  refine drG_ mixed [3,4,5,8,9,10,11,12,13,14,82] 0 2 3 (ksL Td) [] [] [B + 2, N + 4 + 3] [⟨[12],[1],[],[],false⟩,⟨[5],[0],[],[],false⟩,⟨[79],[],[],[],true⟩,⟨[78,80],[],[],[],true⟩,⟨[81],[],[],[],false⟩] [0,1,2] [4] [[],[],[1],[0,1,2],[0,1,2,3]] 2 ?_ ?_ ?_ ?_ ?_ ?_
  · simp; omega
  · simp
  · exact List.nodup_nil
  · intro n hn; simp at hn
  · intro j hj hjt
    have hj : j ∈ ksL Td := by rcases hj with h | h | h <;> first | exact h | simp at h
    obtain ⟨p, hp, rfl⟩ := List.mem_map.1 hj
    have h3 := hId.at' p hp
    simp only [List.mem_cons, List.not_mem_nil, or_false] at hjt
    rcases hjt with h | h <;> omega
  intro O A K hO hA hK;simp only [atL_cons,atL_nil,Nat.reduceAdd,Nat.zero_add] at hO hA
  refine SO_ ?_
  refine lp_ (toMem_ok m hzm) Tryz.call22 ?_
  refine kG2_read (first := []) (cap := []) (ps := [.agg _, .agg m.cs]) (T := Td) (own1 hOd hId.nd (fun θ => rfl) rfl (eqMem_ok m m hSm)) Tryz.call27 rfl rfl ⟨rfl, rfl, rfl⟩ T_ rfl F_ (fun p hp => InR.f (hA3'.ks (by simp [ksL])) (by simp [hp])) ?_
  unfold contG
  rw [same_self]
  simp -implicitDefEqProofs (disch := omega) only [go_sem, hO, hA]
  refine hK _ (S_ ?_);clear hK K hO hA O A
  refine c1_ ?_
  refine g_ [3,4,5,8,9,10,11,12,13,14,15] ?_
  refine n_ ?_
  rw [List.append_assoc (Ta ++ Tb) Td Tg, List.append_assoc Ta Tb (Td ++ Tg)]
  have hck : ck c ≤ 4 * cz c := by
    have h1 := tk_le c.ts
    unfold ck cz; omega
  refine wpM_regionK [3,4,5,8,9,11,12,13,14,15] rfl fun Q1 hQ1 => ?_
  refine S_ ?_
  refine call_setD (ps := [.agg _, .int .i64 1]) [_, _, _, _, _, _, _, _, _, _] (Tb ++ (Td ++ Tg)) (markChart_ok c hzc _ Ta hOa hIa.nd 1 (by omega) (by omega)) Tryz.call28 rfl rfl rfl F_ rfl (hA3'.ks rfl).nd (fun p hp => by have := hIa.at' p hp; show B ≤ p.1; omega) ?_
  refine S_ ?_
  refine hQ1 _ _ (S_ ?_);clear hQ1 Q1
  refine n_ ?_
  refine wpM_regionK [3,4,5,8,9,12,13,14,15] rfl fun Q1 hQ1 => ?_
  refine S_ ?_
  refine call_setD (T := Tb) (ps := [.agg _, .int .i64 (1 + (ck c : Nat))]) [_, _, _, _, _, _, _, _, _, _] (Td ++ Tg) (by rw [hTb]; exact markMarks_ok k hzk xb yb (by have h1 := hIb.nd; rw [hTb] at h1; simpa [ksL, Mrk.ol] using h1) (1 + (ck c : Nat)) (by omega) (by omega)) Tryz.call29 rfl rfl rfl F_ rfl (hA4.ks rfl).nd (fun p hp => by have := hIb.at' p hp; show B ≤ p.1; omega) ?_
  refine S_ ?_
  refine hQ1 _ _ (S_ ?_);clear hQ1 Q1
  refine n_ ?_
  refine wpM_regionK [3,4,5,8,9,13,14,15] rfl fun Q1 hQ1 => ?_
  refine S_ ?_
  refine call_setD (T := Td) (ps := [.agg _, .int .i64 (1 + (ck c : Nat) + (pz k : Nat))]) [_, _, _, _, _, _, _, _, _, _] Tg (by rw [hTd]; have h1 := hId.nd; rw [hTd] at h1; simp [ksL, MM.ol] at h1; exact markMem_ok m hzm xd yd zd h1.1.1 h1.1.2 h1.2 (1 + (ck c : Nat) + (pz k : Nat)) (by omega) (by omega)) Tryz.call30 rfl rfl rfl F_ rfl (hA5.ks rfl).nd (fun p hp => by have := hId.at' p hp; show B ≤ p.1; omega) ?_
  refine S_ ?_
  refine hQ1 _ _ (S_ ?_);clear hQ1 Q1
  refine n_ ?_
  have hneg : ¬ ((1 + (ck c : Nat) + (pz k : Nat) + (mz m : Nat) : Int) < 0) := by omega
  refine wpM_regionK [3,4,5,8,9,13,14,105] rfl fun Q1 hQ1 => ?_
  simp (contextual := true) (maxSteps := 1000000) (implicitDefEqProofs := false) (disch := first | omega | (simp only [decide_eq_true_eq, decide_eq_false_iff_not, Bool.and_eq_true, Bool.or_eq_false_iff, Bool.not_eq_true'] at *; omega)) only [go_sem, hneg, decide_false]
  refine call_r (own1 hO1 hnd1 (fun θ => rfl) rfl (eqMarks_ok S.1 S.1 hzS)) (own_f (hA6.ks rfl) (fun p hp => by simp [hin1 p hp])) Tryz.call26 rfl rfl rfl F_ ?_
  rw [same_self]
  simp (contextual := true) (maxSteps := 1000000) (implicitDefEqProofs := false) (disch := first | omega | (simp only [decide_eq_true_eq, decide_eq_false_iff_not, Bool.and_eq_true, Bool.or_eq_false_iff, Bool.not_eq_true'] at *; omega)) only [go_sem, hneg, decide_false]
  refine call_r (own1 hO2 hnd2 (fun θ => rfl) rfl (eqMem_ok S.2 S.2 hSS)) (own_f (hA6.ks rfl) (fun p hp => by simp [hin2 p hp])) Tryz.call27 rfl rfl rfl F_ ?_
  rw [same_self]
  simp (contextual := true) (maxSteps := 1000000) (implicitDefEqProofs := false) (disch := first | omega | (simp only [decide_eq_true_eq, decide_eq_false_iff_not, Bool.and_eq_true, Bool.or_eq_false_iff, Bool.not_eq_true'] at *; omega)) only [go_sem, hneg, decide_false]
  refine hQ1 _ _ (S_ ?_);clear hQ1 Q1
  refine c1_ ?_
  refine n_ ?_
  subst hTg
  refine g_ [3,4,5,8,9,13,14,16] ?_
  refine n_ ?_
  refine wpM_regionK [3,4,5,8,9,13,14,16] rfl fun Q1 hQ1 => ?_
  refine S_ ?_
  refine call_set (T := S.1.ol xg yg) (ps := [.agg _, .int .i64 1]) [_, _, _, _, _, _, _, _, _, _] (S.2.ol ag bg dg) (markMarks_ok S.1 hzS xg yg hxy 1 (by omega) (by omega)) Tryz.call29 rfl rfl rfl F_ rfl (hA6.ks rfl).nd ?_
  intro Tm1 hOm1 hksm1
  obtain rfl := own_mrkX hOm1
  refine S_ ?_
  refine hQ1 _ _ (S_ ?_);clear hQ1 Q1
  refine n_ ?_
  refine wpM_regionK [3,4,5,8,9,13,14,16] rfl fun Q1 hQ1 => ?_
  refine S_ ?_
  refine call_set (T := S.2.ol ag bg dg) (ps := [.agg _, .int .i64 (1 + (pz S.1 : Nat))]) [_, _, _, _, _, _, _, _, _, _, _, _] [] (markMem_ok S.2 (by omega) ag bg dg habd.1 habd.2.1 habd.2.2 (1 + (pz S.1 : Nat)) (by omega) (by omega)) Tryz.call30 rfl rfl rfl F_ rfl (hA6.ks rfl).nd ?_
  intro Tm2 hOm2 hksm2
  obtain rfl := own_memX hOm2
  have hA7 := hA6.ks (l' := [(N + 14, AObj.dfr 0), (N + 13, .dfr 0), (N + 7, .dfr 0), (N + 3, .dfr 0), (N, .dfr 0), (B + 4, .dfr 0), (B + 3, .dfr 0), (B + 2, .dfr 0), (B + 1, .dfr 0), (B, .dfr 0)] ++ ((mkP 1 S.1).ol xg yg ++ (mkM (1 + (pz S.1 : Nat)) S.2).ol ag bg dg)) rfl
  refine S_ ?_
  refine hQ1 _ _ (S_ ?_);clear hQ1 Q1
  refine g_ [3,4,5,8,9,13,14,16,17] ?_
  refine n_ ?_
  refine wpM_regionK [3,4,5,8,9,13,14,16,17] rfl fun Q1 hQ1 => ?_
  refine S_ ?_
  refine call_r (own1 hOm1 hnd1 (fun θ => rfl) rfl (heldMarks_ok 1 S.1 hzS (by omega) (by omega))) (own_f (hA7.ks rfl) (fun p hp => by simp only [Mrk.ol, List.mem_cons, List.not_mem_nil, or_false] at hp; rcases hp with rfl | rfl <;> simp)) Tryz.call35 rfl rfl rfl F_ ?_
  have hneg2 : ¬ ((1 + (pz S.1 : Nat) : Int) < 0) := by omega
  have hneg3 : ¬ ((1 + (pz S.1 : Nat) + (mz S.2 : Nat) : Int) < 0) := by omega
  refine S_ ?_
  refine hQ1 _ _ (S_ ?_);clear hQ1 Q1
  refine n_ ?_
  refine wpM_regionK [3,4,5,8,9,13,14,16,17,116] rfl fun Q1 hQ1 => ?_
  simp -implicitDefEqProofs (disch := omega) only [go_sem, hneg2, decide_false]
  refine hQ1 _ _ (S_ ?_);clear hQ1 Q1
  refine c1_ ?_
  refine n_ ?_
  refine wpM_regionK [3,4,5,8,9,13,14,16,17] rfl fun Q1 hQ1 => ?_
  refine S_ ?_
  refine call_r (own1 hOm2 hnd2 (fun θ => rfl) rfl (heldMem_ok (1 + (pz S.1 : Nat)) S.2 (by omega) (by omega) (by omega))) (own_f (hA7.ks rfl) (fun p hp => by simp only [MM.ol, List.mem_cons, List.not_mem_nil, or_false] at hp; rcases hp with rfl | rfl | rfl <;> simp)) Tryz.call36 rfl rfl rfl F_ ?_
  refine S_ ?_
  refine hQ1 _ _ (S_ ?_);clear hQ1 Q1
  refine n_ ?_
  refine wpM_regionK [3,4,5,8,9,13,14,16,17,121] rfl fun Q1 hQ1 => ?_
  simp -implicitDefEqProofs (disch := omega) only [go_sem, hneg3, decide_false]
  refine hQ1 _ _ (S_ ?_);clear hQ1 Q1
  refine c1_ ?_
  refine g_ [3,4,5,8,9,13,14,16,124] ?_
  refine c_ (fun hc10 => ?_) fun hc10 => ?_
  · exfalso; simp at hc10
  refine n_ ?_
  have hii : PureF Tryz.prog 34 [.agg c.cs, .agg k.cs, .agg m.cs] [.agg S.1.cs, .agg S.2.cs] := by rw [← hS]; exact ichtStep_ok c k m hSc hSm
  have hgB : B ≤ xg ∧ B ≤ yg ∧ B ≤ ag ∧ B ≤ bg ∧ B ≤ dg := by
    have h1 := hA7.pop
    exact ⟨(h1.at' (xg, .cells 4 (bls (mkP 1 S.1).on)) (by simp [Mrk.ol])).1, (h1.at' (yg, .cells 4 (bls (mkP 1 S.1).kept)) (by simp [Mrk.ol])).1, (h1.at' (ag, .cells 3 (ints (mkM (1 + (pz S.1 : Nat)) S.2).i)) (by simp [MM.ol])).1, (h1.at' (bg, .cells 3 (ints (mkM (1 + (pz S.1 : Nat)) S.2).o)) (by simp [MM.ol])).1, (h1.at' (dg, .cells 3 (ints (mkM (1 + (pz S.1 : Nat)) S.2).v)) (by simp [MM.ol])).1⟩
  refine dr_ mixed [8,9,13,14,16,18,19] 2 3 [B, B + 1, B + 2, N + 15, N + 16] [⟨[3],[0],[],[],false⟩,⟨[126],[],[],[],true⟩,⟨[4],[1],[],[],false⟩,⟨[128],[],[],[],true⟩,⟨[5],[2],[],[],false⟩,⟨[130],[],[],[],true⟩,⟨[127,129,131],[],[],[],true⟩,⟨[132],[],[],[],false⟩,⟨[125],[],[],[],false⟩,⟨[125],[],[],[],false⟩,⟨[],[],[],[3],false⟩,⟨[],[],[],[4],false⟩,⟨[18,133],[3],[3],[],false⟩,⟨[19,134],[4],[4],[],false⟩] [0,2,4,10,11,1,3,5,6,7,8,9,12,13] [[],[0],[],[0,1,2],[],[0,1,2,3,4],[0,1,2,3,4,5],[0,1,2,3,4,5,6],[0,1,2,3,4,5,6,7],[0,1,2,3,4,5,6,7],[],[],[0,1,2,3,4,5,6,7,8,10,11],[0,1,2,3,4,5,6,7,8,9,10,11,12]] 5 (htbl := by simp; omega) (hnm := by simp) ?_
  intro O A K hO hA hK;simp only [atL_cons,atL_nil,Nat.reduceAdd,Nat.zero_add] at hO hA
  refine SO_ ?_
  refine lp_ (toChart_ok c hzc) Tryz.call20 ?_
  refine lp_ (toMarks_ok k hzk) Tryz.call21 ?_
  refine lp_ (toMem_ok m hzm) Tryz.call22 ?_
  refine lp_ (hii) Tryz.call34 ?_
  refine hK _ (S_ ?_);clear hK K hO hA O A
  refine n_ ?_
  refine wpM_regionK [13,14,16,144] rfl fun Q1 hQ1 => ?_
  refine SD_ ?_
  refine call_p (eqMarks_ok S.1 S.1 hzS) Tryz.call26 rfl rfl rfl F_ ?_
  rw [same_self]
  refine SD_ ?_
  refine call_p (eqMem_ok S.2 S.2 hSS) Tryz.call27 rfl rfl rfl F_ ?_
  rw [same_self]
  refine SD_ ?_
  refine hQ1 _ _ (S_ ?_);clear hQ1 Q1
  refine c1_ ?_
  refine g_ [13,14,16,17] ?_
  refine n_ ?_
  have hA8 := ((hA7.ks rfl).top (o := .dfr 0) (by omega)).top (o := .dfr 0) (by omega)
  refine wpM_regionK [14,16,17] rfl fun Q1 hQ1 => ?_
  refine S_ ?_
  refine call_r (own1 hOm1 hnd1 (fun θ => rfl) rfl (heldMarks_ok 1 S.1 hzS (by omega) (by omega))) (own_f (hA8.ks rfl) (fun p hp => by simp only [Mrk.ol, List.mem_cons, List.not_mem_nil, or_false] at hp; rcases hp with rfl | rfl <;> simp)) Tryz.call35 rfl rfl rfl F_ ?_
  refine S_ ?_
  refine hQ1 _ _ (S_ ?_);clear hQ1 Q1
  refine n_ ?_
  refine wpM_regionK [14,16,17,149] rfl fun Q1 hQ1 => ?_
  simp -implicitDefEqProofs (disch := omega) only [go_sem, hneg2, decide_false]
  refine hQ1 _ _ (S_ ?_);clear hQ1 Q1
  refine c1_ ?_
  refine n_ ?_
  refine wpM_regionK [16,17] rfl fun Q1 hQ1 => ?_
  refine S_ ?_
  refine call_r (own1 hOm2 hnd2 (fun θ => rfl) rfl (heldMem_ok (1 + (pz S.1 : Nat)) S.2 (by omega) (by omega) (by omega))) (own_f (hA8.ks rfl) (fun p hp => by simp only [MM.ol, List.mem_cons, List.not_mem_nil, or_false] at hp; rcases hp with rfl | rfl | rfl <;> simp)) Tryz.call36 rfl rfl rfl F_ ?_
  refine S_ ?_
  refine hQ1 _ _ (S_ ?_);clear hQ1 Q1
  refine n_ ?_
  refine wpM_regionK [16,17,154] rfl fun Q1 hQ1 => ?_
  simp -implicitDefEqProofs (disch := omega) only [go_sem, hneg3, decide_false]
  refine hQ1 _ _ (S_ ?_);clear hQ1 Q1
  refine c1_ ?_
  refine g_ [157] ?_
  refine c_ (fun hc14 => ?_) fun hc14 => ?_
  · exfalso; simp at hc14
  refine g_ [6] ?_
  exact e_ Tryz.results6 True.intro
end Go.Proofs.YtnmfmeehmieifaaGreat
namespace Go.Proofs.YtnmfmeehmieifaaGreat
open Go Sg Go.ChangeShapes Go.WideShapes Go.ChangeAt Go.RowKit
set_option linter.unusedVariables false
set_option linter.unusedSectionVars false
theorem Tryz.own : ownKnob Tryz.prog.godebug = none := by kernel_rfl
theorem Tryz.laidOut : laidOutB Tryz.prog = true := by kernel_rfl
set_option maxRecDepth 100000 in
theorem fnExactChartStep_lifted (os : Os) (started : os.Started) (H : Type) (enc : TypeId × Value → H) :
    ReturnsInHanded {} Tryz.checked os 6 .any (Rows.fnExactChartStepSpec.pre6 enc Tryz.prog Tryz.f6 Rows.fnExactChartStepRow.domain false) (Rows.fnExactChartStepSpec.post enc Tryz.prog Tryz.f6 false true false false) := by
  refine returnsInHanded_of_change (C := Tryz.checked) Tryz.own started (by kernel_rfl) Tryz.func6
    (ChangeSpec.witness6 (enc := enc) (C := Tryz.checked) false ⟨#[], #[.agg #[.int .i64 0, .slice none 0 0, .slice none 0 0], .agg #[.slice none 0 0, .slice none 0 0], .agg #[.slice none 0 0, .slice none 0 0, .slice none 0 0]], []⟩ 8 (by kernel_rfl) (by kernel_rfl) (by kernel_rfl) (by kernel_rfl)) ?_
  intro W base args ds gs before hval0 hW hcnd _
  have hval : ∀ (j : Nat) t v, Tryz.f6.params[j]? = some t → args[j]? = some v → Value.okWide Tryz.prog W .any base t v := hval0
  have hW' := hW
  obtain ⟨p, q, hA0, hV0, rfl, hfz, hnd⟩ := hW
  have hA : DataW.TrodAll enc Tryz.prog W 0 (fun _ => true) true Tryz.f6.params.toList args.toList ds p := hA0
  rw [Tryz.params6] at hA hval
  obtain ⟨v0, vs0, d0, ds0, p0, q0, hargs, rfl, rfl, h0, r0⟩ := trodAll_cons hA
  obtain ⟨v1, vs1, d1, ds1, p1, q1, rfl, rfl, rfl, h1, r1⟩ := trodAll_cons r0
  obtain ⟨v2, vs2, d2, ds2, p2, q2, rfl, rfl, rfl, h2, r2⟩ := trodAll_cons r1
  obtain ⟨rfl, rfl, rfl⟩ := trodAll_nil r2
  obtain rfl : args = #[v0, v1, v2] := by cases args; simp_all
  obtain ⟨rfl, rfl⟩ := trodVars_none hV0
  clear hA0 hV0 hval0
  have hlt : ∀ x ∈ (p0 ++ (p1 ++ (p2 ++ []))), x.block < W.heap.size := fun x hx => by simpa using hW'.lt x (by simpa using hx)
  letI : Glob := noGlob
  obtain ⟨c, hc, hr0⟩ := open_chtA (hval 0 34 v0 rfl rfl) h0
  obtain ⟨k, hk, hr1⟩ := open_mrkA (hval 1 37 v1 rfl rfl) h1
  obtain ⟨m, hm, hr2⟩ := open_memA (hval 2 40 v2 rfl rfl) h2
  refine (top_calls (W := W) (args := [.agg c.lcs, .agg k.cs, .agg m.cs]) (noGlob_ok _ _) ⟨rfl, fun j hj => ?_⟩ (lawStepX_ok c k m hc hk hm)).mono fun e W' ⟨he, hb⟩ => ?_
  · match j, hj with
    | 0, _ => exact hr0
    | 1, _ => exact hr1
    | 2, _ => exact hr2
  subst he
  exact ⟨_, rfl, _, _, _, [], (p0 ++ (p1 ++ (p2 ++ []))), [], hW', trodAll_cons_mk (shut_bool Tryz.underlying4 _) trodAll_mk0, (trodAll_cons_mk (WideElems.Trod_stays Tryz.laidOut (by kernel_rfl) (of_decide_eq_true (by kernel_rfl)) h0 (fun x hx => hb.same (hlt x (by simp [hx]))) (fun x hx => by simpa using hlt x (by simp [hx]))) (trodAll_cons_mk (WideElems.Trod_stays Tryz.laidOut (by kernel_rfl) (of_decide_eq_true (by kernel_rfl)) h1 (fun x hx => hb.same (hlt x (by simp [hx]))) (fun x hx => by simpa using hlt x (by simp [hx]))) (trodAll_cons_mk (WideElems.Trod_stays Tryz.laidOut (by kernel_rfl) (of_decide_eq_true (by kernel_rfl)) h2 (fun x hx => hb.same (hlt x (by simp [hx]))) (fun x hx => by simpa using hlt x (by simp [hx]))) trodAll_mk0))), rfl, hb.frame _, fun h => by cases h⟩
theorem fnExactChartStep_holds : Rows.FnExactChartStepSaid :=
  OpenClaim.holds_of_wide 6 Tryz.f6 rfl rfl rfl rfl rfl rfl rfl ⟨rfl, rfl, rfl, rfl, rfl⟩ rfl rfl rfl rfl rfl (by kernel_rfl) Tryz.func6 (by kernel_rfl)
    (of_decide_eq_true (by kernel_rfl)) (by unfold Func.isWrapper; first | (rw [if_pos (by decide +kernel)]; kernel_rfl) | (rw [if_neg (by decide +kernel)]; exact ⟨rfl, rfl⟩))
    (fun os started H enc _ => fnExactChartStep_lifted os started H enc)
end Go.Proofs.YtnmfmeehmieifaaGreat
