/- A part of a proof: lemmas and contracts of functions; the last text of the claim says what is proved. -/
import Derived.Test.YtmicbfojofcigaaGreatXf3c690bce3
import Derived.Lib.ItoaWalk
import Derived.Lib.ItoaNum
set_option linter.unusedSectionVars false
set_option linter.unusedSimpArgs false
set_option linter.unusedVariables false
namespace Go.Proofs.YtmicbfojofcigaaGreat
open Go Sg
set_option maxRecDepth 100000
set_option linter.unusedSimpArgs false
set_option linter.unusedVariables false
set_option linter.unusedSectionVars false
set_option maxHeartbeats 4000000
variable [Tab]
@[go_sem high] theorem Ex.node_cs (e : Ex) : e.node.cs = [.int .i64 e.kind, .int .i64 e.n, .int .i64 e.a.kind, .int .i64 e.a.at', .rows 27 (Ex.csL (Ex.slimL e.kids))] := by simp only [Ex.node, Ex.cs]
theorem Ex.slimL_len (l : List Ex) : (Ex.slimL l).length = l.length := by rw [Ex.slimL_map, List.length_map]
theorem Ex.slimL_take (l : List Ex) (i : Nat) (h : i < l.length) : Ex.slimL (l.take (i + 1)) = Ex.slimL (l.take i) ++ [(l.getD i default).slim] := by
  rw [Ex.slimL_map, Ex.slimL_map, List.take_succ_eq_append_getElem h, List.map_append]
  simp [List.getD, h]
theorem islimE_ok : ∀ (N : Nat) (e : Ex), e.sz ≤ N → e.sz ≤ 1099511627776 → (∃ d, formD d e = true) → PureF Tryz.prog 22 [.agg e.cs] [.agg e.slim.cs] := by
  intro N
  induction N with
  | zero => intro e h; have := e.sz_pos; omega
  | succ N ih =>
    intro e hN hs hf
    obtain ⟨d, hf⟩ := hf
    obtain ⟨d, rfl⟩ : ∃ d', d = d' + 1 := by
      cases d with
      | zero => cases hf
      | succ d => exact ⟨d, rfl⟩
    have hkf := (form_inv hf).2.2
    have hnf := node_form hf
    have hnz : e.node.sz ≤ 1099511627776 := by
      have h1 := Ex.slimL_sz e.kids
      have h2 := e.sz_eq
      have h3 : e.node.sz = 1 + Ex.szL (Ex.slimL e.kids) := by rw [Ex.node, Ex.sz]
      omega
    have hlen := e.kids_len
    refine pureF_of Tryz.func22 rfl Tryz.ntmps22 (by simp) T_ ?_
    intro f0 B Q hQ
    refine g_ [1,2] ?_
    refine g_ [1,2,3] ?_
    refine g_ [1,2,3] ?_
    refine g_ [2,3,13,14,15] ?_
    refine n_ ?_
    refine wpM_loopS (fun s r s' => (r = e.kids.length ∧ s' = s) ∨ ∃ (i0 M0 y : Nat), 0 < i0 ∧ i0 + r = e.kids.length ∧ s.M ≤ y ∧ y < M0 ∧ s' = { s with env := setE 15 (.int .i64 (i0 : Nat)) s.env, l := (y, .cells 27 (exc (Ex.slimL (e.kids.take i0)))) :: setl (B + 2) (.cells 27 [.int .i64 e.kind, .int .i64 e.n, .int .i64 e.a.kind, .int .i64 e.a.at', .sl 27 y 0 i0]) s.l, M := M0 }) (e.kids.length) ?_ ?_
    ·
      refine .of' _ _ (.inl ⟨rfl, rfl⟩) ?_ ?_ ?_ <;> exact L_
    rintro r s' (⟨rfl, rfl⟩ | ⟨i0, M0, y, hi0, hir, hy, hyM, rfl⟩)
    ·
      try refine S_ ?_
      refine g_ [2,3,13,14,15,16] ?_
      refine c_ (fun hc0 => ?_) fun hc0 => ?_
      ·
        have hks := Ex.kid_sz (e := e) (k := 0) (by omega)
        refine g_ [2,3,5,13,14,15] ?_
        refine dr_ mixed [2,3,13,14,15] 2 2 [B + 2,B + 3, B + 4, B + 5] [⟨[3],[],[],[],false⟩,⟨[19],[0],[],[],false⟩,⟨[5],[1],[],[],false⟩,⟨[21],[],[],[],true⟩,⟨[22],[],[],[2],false⟩,⟨[20,23],[2],[],[3],false⟩,⟨[3],[],[],[],false⟩,⟨[24,25],[0],[0],[],false⟩] [0,1,2,3,4,5,6,7] [[],[0],[],[2],[2,3],[0,1,2,3,4],[0,1,2,3,4,5],[0,1,2,3,4,5,6]] 4 ?_
        intro O A K hO hA hK;simp only [atL_cons,atL_nil,Nat.reduceAdd,Nat.zero_add] at hO hA
        simp -implicitDefEqProofs (disch := omega) only [go_sem, exc_len, hO, hA]
        refine loud_p (ih (e.kids.getD 0 default) (by omega) (by omega) ⟨d, hkf 0 (by omega)⟩) Tryz.call22 rfl rfl (by first | rfl | (simp -implicitDefEqProofs (disch := omega) only [go_sem] <;> rfl)) rfl ?_
        simp -implicitDefEqProofs (disch := omega) only [go_sem, exc_len, hO, hA]
        refine hK _ (S_ ?_);clear hK K hO hA O A
        refine g_ [2,3,13,14,15] ?_
        have e1 : [PV.int .i64 (e.kids.getD 0 default).slim.kind, .int .i64 (e.kids.getD 0 default).slim.n, .int .i64 (e.kids.getD 0 default).slim.a.kind, .int .i64 (e.kids.getD 0 default).slim.a.at', .rows 27 (Ex.csL (e.kids.getD 0 default).slim.kids)] = exc (Ex.slimL (e.kids.take 1)) := by
          rw [Ex.slimL_take _ _ (by omega), List.take_zero, Ex.slimL, List.nil_append, ← exc_one, Ex.cs_eq]
        rw [e1]
        refine .of' _ _ ⟨e.kids.length - 1, by omega, .inr ⟨1, _, B + 5, by omega, by omega, ?_, ?_, rfl⟩⟩ ?_ ?_ ?_
        · first | omega | (simp -implicitDefEqProofs (disch := omega) only [go_sem]; done) | (simp -implicitDefEqProofs (disch := omega) only [go_sem]; omega)
        · first | omega | (simp -implicitDefEqProofs (disch := omega) only [go_sem]; done) | (simp -implicitDefEqProofs (disch := omega) only [go_sem]; omega)
        all_goals exact L_
      refine n_ ?_
      have hk0 : e.kids = [] := List.eq_nil_of_length_eq_zero (by omega)
      refine wpM_le [(2, .ptr (B + 1) 0), (3, .ptr (B + 2) 0)] [(B + 2, .cells 27 e.node.cs), (B + 1, .cells 27 [.int .i64 0, .int .i64 0, .int .i64 0, .int .i64 0, .emp])] (by simp -implicitDefEqProofs (disch := omega) only [go_sem, hk0]) (by simp -implicitDefEqProofs (disch := omega) only [go_sem, hk0, Ex.slimL, Ex.csL]) T_ ?_
      refine S_ ?_
      refine wpM_regionK [2,3,27,28] rfl fun Q1 hQ1 => ?_
      refine S_ ?_
      refine cp_ (rules_ok) Tryz.call47 ?_
      refine hQ1 _ _ (S_ ?_);clear hQ1 Q1
      refine n_ ?_
      refine wpM_loopS (fun s n s' => ∃ (i1 M1 : Nat) , i1 + n = 5 ∧ s.M ≤ M1 ∧ ((List.range i1).all (fun k => !(rulR k e.node).2) = true) ∧ s' = { s with env := setE 28 (.int .i64 (i1 : Nat)) s.env, M := M1 }) (5) ?_ ?_
      ·
        refine .of' _ _ ⟨0, _, by omega, Nat.le_refl _, by simp, rfl⟩ ?_ ?_ ?_ <;> exact L_
      rintro n1 s' ⟨i1, M1, hi1, hM1, hv1, rfl⟩
      try dsimp only at hM1
      try refine S_ ?_
      refine g_ [2,3,27,28,29] ?_
      refine c_ (fun hc1 => ?_) fun hc1 => ?_
      ·
        have hl1 : i1 < 5 := by omega
        refine g_ [2,3,7,27,28] ?_
        refine n_ ?_
        refine wpM_regionK [2,3,8,9,27,28] rfl fun Q1 hQ1 => ?_
        refine S_ ?_
        refine call_cap (l := []) (cap := []) (args := [.agg e.node.cs]) (rul_ok i1 (by omega) e.node d hnf hnz) (fun i o h => by simp [lk] at h) (enter_rul i1 (by omega)) rfl rfl T_ T_ ?_
        refine S_ ?_
        refine hQ1 _ _ (S_ ?_);clear hQ1 Q1
        refine g_ [2,3,8,27,28,37] ?_
        refine c_ (fun hc2 => ?_) fun hc2 => ?_
        ·
          refine g_ [2] ?_
          refine e_ Tryz.results22 ?_
          first
          | exact True.intro
          | first
            | (have h : e.slim = (rulR i1 e.node).1 := by rw [Ex.slim_node]; exact rul_hit hnf (by omega) hv1 ‹(rulR i1 e.node).2 = true›
               rw [h]; exact ⟨rfl, rfl, rfl, rfl, rfl⟩)
            | (have hi : i1 = 5 := by omega
               have h : e.slim = e.node := by rw [Ex.slim_node]; exact rul_miss hnf (by rw [← hi]; exact hv1)
               rw [h]; exact ⟨rfl, rfl, rfl, rfl, rfl⟩)
        refine g_ [2,3,27,28] ?_
        refine .of' _ _ ⟨n1 - 1, by omega, i1 + 1, _, by omega, M_, ?_, rfl⟩ L_ L_ L_
        rw [range_all, hv1]
        simp [*]
      refine g_ [2] ?_
      refine e_ Tryz.results22 ?_
      first
      | exact True.intro
      | first
        | (have h : e.slim = (rulR i1 e.node).1 := by rw [Ex.slim_node]; exact rul_hit hnf (by omega) hv1 ‹(rulR i1 e.node).2 = true›
           rw [h]; exact ⟨rfl, rfl, rfl, rfl, rfl⟩)
        | (have hi : i1 = 5 := by omega
           have h : e.slim = e.node := by rw [Ex.slim_node]; exact rul_miss hnf (by rw [← hi]; exact hv1)
           rw [h]; exact ⟨rfl, rfl, rfl, rfl, rfl⟩)
    dsimp only at hy
    try refine S_ ?_
    refine g_ [2,3,13,14,15,16] ?_
    refine c_ (fun hc0 => ?_) fun hc0 => ?_
    ·
      have hks := Ex.kid_sz (e := e) (k := i0) (by omega)
      have htl : (Ex.slimL (e.kids.take i0)).length = i0 := by rw [Ex.slimL_len]; simp; omega
      refine g_ [2,3,5,13,14,15] ?_
      refine dr_ mixed [2,3,13,14,15] 2 3 [B + 2, M0, y, M0 + 1, M0 + 2] [⟨[3],[],[],[],false⟩,⟨[19],[0],[],[],false⟩,⟨[5],[1],[],[],false⟩,⟨[21],[],[],[],true⟩,⟨[22],[],[],[3],false⟩,⟨[20,23],[2,3],[2],[4],false⟩,⟨[3],[],[],[],false⟩,⟨[24,25],[0],[0],[],false⟩] [0,1,2,3,4,5,6,7] [[],[0],[],[2],[2,3],[0,1,2,3,4],[0,1,2,3,4,5],[0,1,2,3,4,5,6]] 5 (htbl := by simp; omega) (hnm := by simp) ?_
      intro O A K hO hA hK;simp only [atL_cons,atL_nil,Nat.reduceAdd,Nat.zero_add] at hO hA
      simp -implicitDefEqProofs (disch := omega) only [go_sem, htl, hO, hA]
      refine loud_p (ih (e.kids.getD i0 default) (by omega) (by omega) ⟨d, hkf i0 (by omega)⟩) Tryz.call22 rfl rfl (by first | rfl | (simp -implicitDefEqProofs (disch := omega) only [go_sem] <;> rfl)) rfl ?_
      simp -implicitDefEqProofs (disch := omega) only [go_sem, htl, hO, hA]
      refine hK _ (S_ ?_);clear hK K hO hA O A
      refine g_ [2,3,13,14,15] ?_
      have e1 : exc (Ex.slimL (e.kids.take i0)) ++ [.int .i64 (e.kids.getD i0 default).slim.kind, .int .i64 (e.kids.getD i0 default).slim.n, .int .i64 (e.kids.getD i0 default).slim.a.kind, .int .i64 (e.kids.getD i0 default).slim.a.at', .rows 27 (Ex.csL (e.kids.getD i0 default).slim.kids)] = exc (Ex.slimL (e.kids.take (i0 + 1))) := by
        rw [Ex.slimL_take _ _ (by omega), ← exc_app, Ex.cs_eq]
      rw [e1]
      refine .of' _ _ ⟨r - 1, by omega, .inr ⟨i0 + 1, _, M0 + 2, by omega, by omega, ?_, ?_, rfl⟩⟩ ?_ ?_ ?_
      · first | omega | (simp -implicitDefEqProofs (disch := omega) only [go_sem]; done) | (simp -implicitDefEqProofs (disch := omega) only [go_sem]; omega)
      · first | omega | (simp -implicitDefEqProofs (disch := omega) only [go_sem]; done) | (simp -implicitDefEqProofs (disch := omega) only [go_sem]; omega)
      all_goals exact L_
    refine n_ ?_
    have hie : i0 = e.kids.length := by omega
    have htl : e.kids.take i0 = e.kids := by rw [hie, List.take_of_length_le (Nat.le_refl _)]
    rw [htl]
    refine wpM_frz [y] [(27, y, 0, i0, Ex.csL (Ex.slimL e.kids))] (by intro q hq; simp at hq; subst hq; simp -implicitDefEqProofs (disch := omega) only [go_sem]) (by intro q hq; simp only [List.mem_cons, List.not_mem_nil, or_false] at hq; subst hq; rw [hie, ← Ex.slimL_len]; exact ⟨by simp, rowsOf_exc (T := 27) T_⟩) ?_
    simp -implicitDefEqProofs (disch := omega) only [go_sem]
    refine wpM_regionK [2,3,27,28] rfl fun Q1 hQ1 => ?_
    refine S_ ?_
    refine cp_ (rules_ok) Tryz.call47 ?_
    refine hQ1 _ _ (S_ ?_);clear hQ1 Q1
    refine n_ ?_
    refine wpM_loopS (fun s n s' => ∃ (i1 M1 : Nat) , i1 + n = 5 ∧ s.M ≤ M1 ∧ ((List.range i1).all (fun k => !(rulR k e.node).2) = true) ∧ s' = { s with env := setE 28 (.int .i64 (i1 : Nat)) s.env, M := M1 }) (5) ?_ ?_
    ·
      refine .of' _ _ ⟨0, _, by omega, Nat.le_refl _, by simp, rfl⟩ ?_ ?_ ?_ <;> exact L_
    rintro n1 s' ⟨i1, M1, hi1, hM1, hv1, rfl⟩
    try dsimp only at hM1
    try refine S_ ?_
    refine g_ [2,3,27,28,29] ?_
    refine c_ (fun hc1 => ?_) fun hc1 => ?_
    ·
      have hl1 : i1 < 5 := by omega
      refine g_ [2,3,7,27,28] ?_
      refine n_ ?_
      refine wpM_regionK [2,3,8,9,27,28] rfl fun Q1 hQ1 => ?_
      refine S_ ?_
      refine call_cap (l := []) (cap := []) (args := [.agg e.node.cs]) (rul_ok i1 (by omega) e.node d hnf hnz) (fun i o h => by simp [lk] at h) (enter_rul i1 (by omega)) rfl rfl T_ T_ ?_
      refine S_ ?_
      refine hQ1 _ _ (S_ ?_);clear hQ1 Q1
      refine g_ [2,3,8,27,28,37] ?_
      refine c_ (fun hc2 => ?_) fun hc2 => ?_
      ·
        refine g_ [2] ?_
        refine e_ Tryz.results22 ?_
        first
        | exact True.intro
        | first
          | (have h : e.slim = (rulR i1 e.node).1 := by rw [Ex.slim_node]; exact rul_hit hnf (by omega) hv1 ‹(rulR i1 e.node).2 = true›
             rw [h]; exact ⟨rfl, rfl, rfl, rfl, rfl⟩)
          | (have hi : i1 = 5 := by omega
             have h : e.slim = e.node := by rw [Ex.slim_node]; exact rul_miss hnf (by rw [← hi]; exact hv1)
             rw [h]; exact ⟨rfl, rfl, rfl, rfl, rfl⟩)
      refine g_ [2,3,27,28] ?_
      refine .of' _ _ ⟨n1 - 1, by omega, i1 + 1, _, by omega, M_, ?_, rfl⟩ L_ L_ L_
      rw [range_all, hv1]
      simp [*]
    refine g_ [2] ?_
    refine e_ Tryz.results22 ?_
    first
    | exact True.intro
    | first
      | (have h : e.slim = (rulR i1 e.node).1 := by rw [Ex.slim_node]; exact rul_hit hnf (by omega) hv1 ‹(rulR i1 e.node).2 = true›
         rw [h]; exact ⟨rfl, rfl, rfl, rfl, rfl⟩)
      | (have hi : i1 = 5 := by omega
         have h : e.slim = e.node := by rw [Ex.slim_node]; exact rul_miss hnf (by rw [← hi]; exact hv1)
         rw [h]; exact ⟨rfl, rfl, rfl, rfl, rfl⟩)
end Go.Proofs.YtmicbfojofcigaaGreat
namespace Go.Proofs.YtmicbfojofcigaaGreat
open Go Sg
set_option maxRecDepth 100000
set_option linter.unusedSimpArgs false
set_option linter.unusedVariables false
set_option linter.unusedSectionVars false
set_option maxHeartbeats 4000000
variable [Tab]
theorem smc_take (l : List Sm) (i : Nat) (h : i < l.length) : smc (l.take i) ++ (l.getD i default).cs = smc (l.take (i + 1)) := by
  rw [List.take_succ_eq_append_getElem h, smc_app]
  simp [List.getD, h]
end Go.Proofs.YtmicbfojofcigaaGreat
namespace Go.Proofs.YtmicbfojofcigaaGreat
open Go Sg
set_option maxRecDepth 100000
set_option linter.unusedSimpArgs false
set_option linter.unusedVariables false
set_option linter.unusedSectionVars false
set_option maxHeartbeats 4000000
variable [Tab]
theorem rb1 {s : Sm} (h : s.kind = 1) : rb s = if s.e.kind == 2 && (s.e.a.kind == s.to'.kind && s.e.a.at' == s.to'.at') then [] else [s] := by
  simp [rb, Sm.no, h]
theorem rb3 {s : Sm} (h : s.kind = 3) : rb s = if s.e.isN 0 then [] else [s] := by
  simp [rb, Sm.no, h]
theorem rb2 {s : Sm} (h : s.kind = 2) : rb s = if (s.th.length : Int) == 0 && (s.el.length : Int) == 0 then [] else if s.e.kind != 1 then [s] else if s.e.n != 0 then s.th else s.el := by
  have hn : s.no = ((s.th.length : Int) == 0 && (s.el.length : Int) == 0) := by simp [Sm.no, h]
  rw [rb, hn]
  cases (s.th.length : Int) == 0 && (s.el.length : Int) == 0
  · cases h2 : s.e.kind == 1
    · have : (s.e.kind != 1) = true := by simpa using h2
      simp [h, this]
    · have : (s.e.kind != 1) = false := by simpa using h2
      cases h3 : s.e.n != 0 <;> simp [h, this]
  · simp
theorem asserts {u t : TypeId} {i : TypeInfo} {want : Array (String × TypeId)} {v : PV} (hu : Tryz.prog.underlying u = some (.interface want)) (hi : Tryz.prog.info? t = some i) (hm : Instr.missingMethod want i.methods = none) : assertA Tryz.prog u true (.iface t v) = some (.tuple [.iface t v, .bool true]) := by
  unfold assertA
  simp only [hu, hi, hm, if_true]
end Go.Proofs.YtmicbfojofcigaaGreat
namespace Go.Proofs.YtmicbfojofcigaaGreat
open Go Sg
set_option maxRecDepth 100000
set_option linter.unusedSimpArgs false
set_option linter.unusedVariables false
set_option linter.unusedSectionVars false
set_option maxHeartbeats 4000000
variable [Tab]
@[go_sem high] theorem Sm.inn_cs (s : Sm) : s.inn.cs = [.int .i64 s.kind, .int .i64 s.to'.kind, .int .i64 s.to'.at', .int .i64 s.e.slim.kind, .int .i64 s.e.slim.n, .int .i64 s.e.slim.a.kind, .int .i64 s.e.slim.a.at', .rows 27 (Ex.csL s.e.slim.kids), .rows 45 (Sm.csL (Sm.slL s.th)), .rows 45 (Sm.csL (Sm.slL s.el))] := by rw [Sm.cs_eq]; rfl
@[go_sem] theorem Sm.slL_nil : Sm.slL [] = [] := rfl
theorem Sm.szL_take' (l : List Sm) (i : Nat) : Sm.szL (l.take i) ≤ Sm.szL l := by
  induction l generalizing i with
  | nil => simp
  | cons s l ih =>
    cases i with
    | zero => simp [Sm.szL]
    | succ i => simp only [List.take_succ_cons, Sm.szL]; have := ih i; omega
theorem inn_nil {s : Sm} (h : s.plain = true) : doNil s.inn = false := by
  have : s.inn.kind = s.kind := rfl
  rw [doNil, this]
  unfold Sm.plain at h
  cases h1 : s.kind == 1 <;> cases h2 : s.kind == 2 <;> cases h3 : s.kind == 3 <;> simp_all
theorem smc_join (l r : List Sm) : smc l ++ (Sm.csL r).flatten = smc (l ++ r) := by
  simp [smc, Sm.csL_map]
end Go.Proofs.YtmicbfojofcigaaGreat
namespace Go.Proofs.YtmicbfojofcigaaGreat
open Go Sg
set_option maxRecDepth 100000
set_option linter.unusedSimpArgs false
set_option linter.unusedVariables false
set_option linter.unusedSectionVars false
set_option maxHeartbeats 4000000
variable [Tab]
theorem listOk_get {l : List Int} (h : listOk l = true) (i : Nat) : cut (l.getD i 0) = l.getD i 0 := by
  simp only [listOk, Bool.and_eq_true, List.all_eq_true] at h
  by_cases hi : i < l.length
  · have := h.1 (l[i]) (List.getElem_mem hi)
    rw [List.getD_eq_getElem?_getD, List.getElem?_eq_getElem hi]
    simpa using this
  · rw [List.getD_eq_getElem?_getD, List.getElem?_eq_none (by omega)]; rfl
theorem get_cut {m : MM} (h : m.ok = true) (a : AD) : cut (m.get a) = m.get a := by
  simp only [MM.ok, Bool.and_eq_true] at h
  unfold MM.get
  repeat' split
  all_goals first | exact listOk_get h.1.1 _ | exact listOk_get h.1.2 _ | exact listOk_get h.2 _
theorem form_cut {d : Nat} {e : Ex} (h : formD d e = true) (h1 : e.kind = 1) : cut e.n = e.n := by
  cases d with
  | zero => cases h
  | succ d =>
    rw [formD] at h
    split at h
    · cases h
    · split at h
      · cases h
      · rename_i h2
        simp [h1] at h2
        exact h2
theorem of_cut {d : Nat} {m : MM} (hm : m.ok = true) {e : Ex} (h : formD d e = true) : cut (e.of m) = e.of m := by
  rw [Ex.of_eq]
  split
  · rename_i h1; exact form_cut h (by simpa using h1)
  · split
    · exact get_cut hm _
    · split
      · exact cut_numIs _
      · exact cut_two _ _ _
theorem of_num (n : Int) (m : MM) : (numX n).of m = n := by rw [Ex.of_eq]; rfl
theorem of_isN {e : Ex} {n : Int} (h : e.isN n = true) (m : MM) : e.of m = n := by
  simp only [Ex.isN, Bool.and_eq_true, beq_iff_eq] at h
  rw [Ex.of_eq, h.1]; exact h.2
theorem of_kind1 {e : Ex} (h : (e.kind == 1) = true) (m : MM) : e.of m = e.n := by rw [Ex.of_eq, if_pos h]
theorem slim2_of {d : Nat} {m : MM} (hm : m.ok = true) {e a b : Ex} (ha : formD d a = true) (hb : formD d b = true) (he : e.of m = two e.kind (a.of m) (b.of m)) : (slim2 e a b).of m = e.of m := by
  have ca := of_cut hm ha
  have cb := of_cut hm hb
  unfold slim2
  split
  · rename_i h
    simp only [Bool.and_eq_true] at h
    rw [of_num, he, of_kind1 h.1, of_kind1 h.2]
  · split
    · rename_i h
      simp only [Bool.or_eq_true, Bool.and_eq_true, beq_iff_eq] at h
      rw [he]
      rcases h with (⟨h1, h2⟩ | ⟨h1, h2⟩) | ⟨h1, h2⟩
      · rw [h1, of_isN h2]; show a.of m = cut (cut (a.of m) + cut 0)
        rw [ca, show cut 0 = 0 from rfl, Int.add_zero, ca]
      · rw [h1, of_isN h2]; show a.of m = cut (cut (a.of m) - cut 0)
        rw [ca, show cut 0 = 0 from rfl, Int.sub_zero, ca]
      · rw [h1, of_isN h2]; show a.of m = cut (cut (a.of m) * cut 1)
        rw [ca, show cut 1 = 1 from rfl, Int.mul_one, ca]
    · split
      · rename_i h
        simp only [Bool.or_eq_true, Bool.and_eq_true, beq_iff_eq] at h
        rw [he]
        rcases h with ⟨h1, h2⟩ | ⟨h1, h2⟩
        · rw [h1, of_isN h2]; show b.of m = cut (cut 0 + cut (b.of m))
          rw [cb, show cut 0 = 0 from rfl, Int.zero_add, cb]
        · rw [h1, of_isN h2]; show b.of m = cut (cut 1 * cut (b.of m))
          rw [cb, show cut 1 = 1 from rfl, Int.one_mul, cb]
      · split
        · rename_i h
          simp only [Bool.or_eq_true, Bool.and_eq_true, beq_iff_eq] at h
          rw [he, of_num]
          rcases h with ⟨h1, h2 | h2⟩ | ⟨h1, h2 | h2⟩
          · rw [h1, of_isN h2]; show 0 = cut (cut 0 * cut (b.of m))
            rw [show cut 0 = 0 from rfl, Int.zero_mul]; rfl
          · rw [h1, of_isN h2]; show 0 = cut (cut (a.of m) * cut 0)
            rw [show cut 0 = 0 from rfl, Int.mul_zero]; rfl
          · rw [h1, of_isN h2]; rfl
          · rw [h1, of_isN h2]; show 0 = numIs (a.of m != 0 && (0 : Int) != 0)
            simp [numIs]
        · split
          · rename_i h
            simp only [Bool.and_eq_true, beq_iff_eq, same_iff] at h
            rw [he, of_num, h.1, h.2]; show 1 = numIs (b.of m == b.of m)
            simp [numIs]
          · split
            · rename_i h
              simp only [Bool.or_eq_true, Bool.and_eq_true, beq_iff_eq, same_iff] at h
              rw [he, of_num, h.2]
              rcases h.1 with h1 | h1
              · rw [h1]; show 0 = numIs (decide (b.of m < b.of m))
                simp [numIs]
              · rw [h1]; show 0 = cut (cut (b.of m) - cut (b.of m))
                rw [Int.sub_self]; rfl
            · rfl
theorem slimN_of {d : Nat} {m : MM} (hm : m.ok = true) {e : Ex} (h : formD (d + 1) e = true) : (slimN e).of m = e.of m := by
  have hl := form_len h
  unfold slimN
  split
  · rename_i h1
    simp only [Bool.and_eq_true] at h1
    have hk : e.kind = 10 := by simpa using h1.1
    rw [of_num, Ex.of_eq m e, hk, if_neg (by decide), if_neg (by decide), if_pos (by decide), Ex.ofL_get m e.kids 0 (by omega), of_kind1 h1.2]
  · split
    · rename_i h2
      have h2' : e.kids.length = 2 := by simp at h2; omega
      refine slim2_of hm ((form_inv h).2.2 0 (by omega)) ((form_inv h).2.2 1 (by omega)) ?_
      rw [Ex.of_eq, if_neg (by simp; omega), if_neg (by simp; omega), if_neg (by simp; omega), Ex.ofL_get m e.kids 0 (by omega), Ex.ofL_get m e.kids 1 (by omega)]
    · rfl
theorem slim_of {m : MM} (hm : m.ok = true) (d : Nat) : ∀ e : Ex, formD d e = true → e.slim.of m = e.of m := by
  induction d with
  | zero => intro e h; cases h
  | succ d ih =>
    intro e h
    rw [Ex.slim_node, slimN_of hm (node_form h)]
    have hL : Ex.ofL m (Ex.slimL e.kids) = Ex.ofL m e.kids := by
      rw [Ex.ofL_map, Ex.ofL_map, Ex.slimL_map, List.map_map]
      refine List.map_congr_left fun x hx => ?_
      obtain ⟨i, hi, rfl⟩ := List.getElem_of_mem hx
      have := (form_inv h).2.2 i hi
      rw [List.getD_eq_getElem?_getD, List.getElem?_eq_getElem hi] at this
      exact ih _ this
    rw [Ex.of_eq, Ex.of_eq m e]
    simp only [Ex.node, Ex.kind, Ex.n, Ex.a, Ex.kids]
    have : ∀ e : Ex, e.kids = match e with | .mk _ _ _ l => l := fun e => by cases e; rfl
    cases e
    simp only [Ex.kids] at hL
    simp only [hL] <;> rfl
theorem listOk_set' {l : List Int} (h : listOk l = true) (i : Nat) (n : Int) : listOk (l.set i (cut n)) = true := by
  simp only [listOk, Bool.and_eq_true, List.all_eq_true] at h ⊢
  refine ⟨fun x hx => ?_, by rw [List.length_set]; exact h.2⟩
  rcases List.mem_or_eq_of_mem_set hx with h1 | h1
  · exact h.1 x h1
  · rw [h1, cut_cut']; simp
theorem put_okm {m : MM} (h : m.ok = true) (a : AD) (n : Int) : (m.put a n).ok = true := by
  simp only [MM.ok, Bool.and_eq_true] at h
  unfold MM.put
  split
  · simp only [MM.ok, Bool.and_eq_true]; exact ⟨⟨h.1.1, listOk_set' h.1.2 _ _⟩, h.2⟩
  · split
    · simp only [MM.ok, Bool.and_eq_true]; exact ⟨h.1, listOk_set' h.2 _ _⟩
    · simp only [MM.ok, Bool.and_eq_true]; exact h
theorem wh_okm {c : MM → Bool} {b : MM → Nat → MM × Nat × Bool} (h : ∀ m F, m.ok = true → (b m F).1.ok = true) : ∀ g m F, m.ok = true → (wh c b g m F).1.ok = true
  | 0, m, F => fun hm => hm
  | g + 1, m, F => fun hm => by
    simp only [wh]
    split
    · split
      · exact h m F hm
      · split
        · exact h m F hm
        · exact wh_okm h g _ _ (h m F hm)
    · exact hm
mutual
theorem Sm.ex_okm : (s : Sm) → (m : MM) → (F : Nat) → m.ok = true → (s.ex m F).1.ok = true
  | .mk k a e th el, m, F => fun hm => by
    simp only [Sm.ex]
    split
    · exact put_okm hm _ _
    · split
      · exact wh_okm (fun m F hm => Sm.exL_okm th m F hm) _ _ _ hm
      · split
        · exact Sm.exL_okm th m F hm
        · exact Sm.exL_okm el m F hm
theorem Sm.exL_okm : (l : List Sm) → (m : MM) → (F : Nat) → m.ok = true → (Sm.exL l m F).1.ok = true
  | [], m, F => fun hm => hm
  | s :: l, m, F => fun hm => by
    simp only [Sm.exL]
    split
    · exact Sm.ex_okm s m F hm
    · exact Sm.exL_okm l _ _ (Sm.ex_okm s m F hm)
end
theorem wh_congr {c c' : MM → Bool} {b b' : MM → Nat → MM × Nat × Bool} (hb : ∀ m F, m.ok = true → b' m F = b m F) (hk : ∀ m F, m.ok = true → (b m F).1.ok = true) (hc : ∀ m, m.ok = true → c' m = c m) : ∀ g m F, m.ok = true → wh c' b' g m F = wh c b g m F
  | 0, m, F => fun _ => rfl
  | g + 1, m, F => fun hm => by
    simp only [wh]
    rw [hc m hm, hb m F hm, wh_congr hb hk hc g _ _ (hk m F hm)]
theorem put_get {m : MM} (h : m.ok = true) {a : AD} (ha : a.ok = true) (h1 : a.kind ≠ 1) : m.put a (m.get a) = m := by
  have hk : 1 ≤ a.kind ∧ a.kind ≤ 3 ∧ 0 ≤ a.at' ∧ a.at' < 6 := by simp only [AD.ok, Bool.and_eq_true, decide_eq_true_eq] at ha; omega
  have h6 := MM.ok_six h
  have e2 := h6.o
  have e3 := h6.v
  have hc := get_cut h a
  have hset : ∀ (l : List Int) (i : Nat), l.set i (l.getD i 0) = l := by
    intro l i
    by_cases hi : i < l.length
    · rw [List.getD_eq_getElem?_getD, List.getElem?_eq_getElem hi]; simp
    · rw [List.set_eq_of_length_le (by omega)]
  unfold MM.put
  rw [hc]
  rcases (by omega : a.kind = 2 ∨ a.kind = 3) with h2 | h2
  · rw [if_pos (by simp [h2])]
    have : m.get a = m.o.getD a.at'.toNat 0 := by unfold MM.get; rw [if_neg (by simp [h2]), if_pos (by simp [h2])]
    rw [this, hset]
  · rw [if_neg (by simp [h2]), if_pos (by simp [h2])]
    have : m.get a = m.v.getD a.at'.toNat 0 := by unfold MM.get; rw [if_neg (by simp [h2]), if_neg (by simp [h2])]
    rw [this, hset]
theorem plain_kind {s : Sm} (h : s.plain = true) : s.kind = 1 ∨ s.kind = 2 ∨ s.kind = 3 := by
  unfold Sm.plain at h
  split at h
  · rename_i h1; left; simpa using h1
  · split at h
    · rename_i h1; right; left; simpa using h1
    · split at h
      · rename_i h1; right; right; simpa using h1
      · cases h
theorem rb_ex {t : Sm} (hp : t.plain = true) {m : MM} (hm : m.ok = true) (F : Nat) : Sm.exL (rb t) m F = t.ex m F := by
  unfold rb
  split
  · rename_i h
    simp only [Sm.no, Bool.or_eq_true, Bool.and_eq_true, beq_iff_eq] at h
    rw [Sm.exL, Sm.ex_eq]
    rcases h with (⟨⟨h1, h2⟩, h3, h4⟩ | ⟨h1, h2⟩) | ⟨⟨h1, h2⟩, h3⟩
    · rw [if_pos (by simp [h1])]
      have hpp := hp
      unfold Sm.plain at hpp
      rw [if_pos (by simp [h1])] at hpp
      simp only [Bool.and_eq_true, bne_iff_ne, ne_eq] at hpp
      have he : t.e.of m = m.get t.to' := by
        have : t.e.a = t.to' := by
          cases hx : t.e.a; cases hy : t.to'
          simp only [hx, hy] at h3 h4
          subst h3; subst h4; rfl
        rw [Ex.of_eq, if_neg (by simp [h2]), if_pos (by simp [h2]), this]
      rw [he, put_get hm hpp.1.1.1 hpp.1.1.2]
    · rw [if_neg (by simp [h1]), if_pos (by simp [h1])]
      have he := of_isN h2 m
      simp only [wh]
      rw [if_neg (by simp [he])]
    · rw [if_neg (by simp [h1]), if_neg (by simp [h1])]
      have e1 : t.th = [] := List.eq_nil_of_length_eq_zero (by omega)
      have e2 : t.el = [] := List.eq_nil_of_length_eq_zero (by omega)
      rw [e1, e2]
      split <;> rfl
  · split
    · rename_i h
      simp only [Bool.and_eq_true] at h
      have h1 : t.kind = 2 := by simpa using h.1.1
      rw [Sm.ex_eq, if_neg (by simp [h1]), if_neg (by simp [h1]), of_kind1 h.1.2, if_pos h.2]
    · split
      · rename_i h0 h
        simp only [Bool.and_eq_true] at h
        have h1 : t.kind = 2 := by simpa using h.1
        rw [Sm.ex_eq, if_neg (by simp [h1]), if_neg (by simp [h1]), of_kind1 h.2, if_neg]
        intro hn
        exact h0 (by simp only [Bool.and_eq_true]; exact ⟨h, hn⟩)
      · simp only [Sm.exL]
        split
        · rfl
        · rename_i h1; rw [Bool.not_eq_true] at h1; exact pair3 h1
theorem slL_ex (d : Nat) : ∀ l : List Sm, formS d l = true → ∀ (m : MM) (F : Nat), m.ok = true → Sm.exL (Sm.slL l) m F = Sm.exL l m F := by
  induction d with
  | zero =>
    intro l h m F hm
    simp only [formS, beq_iff_eq] at h
    have : l = [] := List.eq_nil_of_length_eq_zero (by omega)
    subst this; rfl
  | succ d ih =>
    intro l
    induction l with
    | nil => intro _ m F _; rfl
    | cons s l ihl =>
      intro h m F hm
      rw [formS, List.all_cons, Bool.and_eq_true] at h
      obtain ⟨hs, hl⟩ := h
      simp only [Bool.and_eq_true] at hs
      obtain ⟨⟨⟨h1, h2⟩, h3⟩, h4⟩ := hs
      have hin : ∀ m : MM, m.ok = true → ∀ F, s.inn.ex m F = s.ex m F := by
        intro m hm F
        have he : ∀ m : MM, m.ok = true → s.e.slim.of m = s.e.of m := fun m hm => slim_of hm 6 _ (ok_form h2)
        rw [Sm.ex_eq, Sm.ex_eq s]
        simp only [Sm.inn, Sm.kind, Sm.to', Sm.e, Sm.th, Sm.el]
        show (if s.kind == 1 then (m.put s.to' (s.e.slim.of m), F, false) else if s.kind == 3 then wh (fun m => s.e.slim.of m != 0) (fun m F => Sm.exL (Sm.slL s.th) m F) (F + 1) m F else if s.e.slim.of m != 0 then Sm.exL (Sm.slL s.th) m F else Sm.exL (Sm.slL s.el) m F) = if s.kind == 1 then (m.put s.to' (s.e.of m), F, false) else if s.kind == 3 then wh (fun m => s.e.of m != 0) (fun m F => Sm.exL s.th m F) (F + 1) m F else if s.e.of m != 0 then Sm.exL s.th m F else Sm.exL s.el m F
        rw [he m hm, ih _ h3 m F hm, ih _ h4 m F hm, wh_congr (c := fun m => s.e.of m != 0) (b := fun m F => Sm.exL s.th m F) (fun m F hm => ih _ h3 m F hm) (fun m F hm => Sm.exL_okm _ m F hm) (fun m hm => by rw [he m hm]) _ _ _ hm]
      have hone : Sm.exL s.sl m F = s.ex m F := by rw [Sm.sl_eq, rb_ex (inn_plain h1) hm, hin m hm]
      simp only [Sm.slL, Sm.exL]
      rw [Sm.exL_app, hone]
      split
      · rfl
      · exact ihl (by rw [formS]; exact hl) _ _ (Sm.ex_okm s m F hm)
theorem runS_slL (m : MM) {l : List Sm} (h : okS l = true) (F : Int) : runS m (Sm.slL l) F = runS m l F := by
  have h4 : formS 4 l = true := by simp only [okS, Bool.and_eq_true] at h; exact h.2
  unfold runS
  have hr : runOk m (Sm.slL l) F = runOk m l F := by simp only [runOk, h, slL_ok h]
  rw [hr]
  split
  · rename_i hr
    simp only [runOk, Bool.and_eq_true] at hr
    rw [slL_ex 4 l h4 m _ hr.1.1.1]
  · rfl
theorem manyOk_slL {l : List Sm} (h : okS l = true) : manyOk (Sm.slL l) ≤ manyOk l := by
  have h4 : formS 4 l = true := by simp only [okS, Bool.and_eq_true] at h; exact h.2
  rw [manyOk, manyOk, if_pos h, if_pos (slL_ok h), many_cnt 4 _ h4, many_cnt 4 _ (slL_form 4 _ h4)]
  exact Sm.slL_cnt l
mutual
def Sm.wr (a : AD) : Sm → Bool
  | .mk k t _ th el => (k == 1 && (t.kind == a.kind && t.at' == a.at')) || Sm.wrL a th || Sm.wrL a el
def Sm.wrL (a : AD) : List Sm → Bool
  | [] => false
  | s :: l => s.wr a || Sm.wrL a l
end
theorem Sm.wr_eq (a : AD) (s : Sm) : s.wr a = ((s.kind == 1 && (s.to'.kind == a.kind && s.to'.at' == a.at')) || Sm.wrL a s.th || Sm.wrL a s.el) := by cases s; simp only [Sm.wr, Sm.kind, Sm.to', Sm.th, Sm.el]
theorem Sm.wrL_any (a : AD) (l : List Sm) : Sm.wrL a l = l.any (Sm.wr a) := by
  induction l with
  | nil => rfl
  | cons s l ih => simp only [Sm.wrL, List.any_cons, ih]
theorem rb_wr (a : AD) (s : Sm) : Sm.wrL a (rb s) = true → s.wr a = true := by
  rw [Sm.wr_eq]
  unfold rb
  repeat' split
  · intro h; cases h
  · intro h; simp [h]
  · intro h; simp [h]
  · intro h; simpa [Sm.wrL, Sm.wr_eq] using h
mutual
theorem Sm.sl_wr (a : AD) : (s : Sm) → Sm.wrL a s.sl = true → s.wr a = true
  | .mk k t e th el => by
    rw [Sm.sl]
    intro h
    have := rb_wr a _ h
    simp only [Sm.wr, Bool.or_eq_true] at this ⊢
    rcases this with (h1 | h1) | h1
    · exact .inl (.inl h1)
    · exact .inl (.inr (Sm.slL_wr a th h1))
    · exact .inr (Sm.slL_wr a el h1)
theorem Sm.slL_wr (a : AD) : (l : List Sm) → Sm.wrL a (Sm.slL l) = true → Sm.wrL a l = true
  | [] => id
  | s :: l => by
    rw [Sm.slL, Sm.wrL_any, List.any_append, ← Sm.wrL_any, ← Sm.wrL_any]
    simp only [Sm.wrL, Bool.or_eq_true]
    rintro (h | h)
    · exact .inl (Sm.sl_wr a s h)
    · exact .inr (Sm.slL_wr a l h)
end
def noWr (l : List Sm) : Prop := ∀ a : AD, (a.kind = 2 ∨ a.kind = 3) → 0 ≤ a.at' → a.at' < 6 → Sm.wrL a l = false
theorem wh_stay {c : MM → Bool} {b : MM → Nat → MM × Nat × Bool} (h : ∀ m F, (b m F).1 = m) : ∀ g m F, (wh c b g m F).1 = m
  | 0, m, F => rfl
  | g + 1, m, F => by
    simp only [wh]
    split
    · split
      · exact h m F
      · split
        · exact h m F
        · rw [wh_stay h g _ _, h m F]
    · rfl
theorem noWr_ex (d : Nat) : ∀ l : List Sm, formS d l = true → noWr l → ∀ (m : MM) (F : Nat), (Sm.exL l m F).1 = m := by
  induction d with
  | zero =>
    intro l h _ m F
    simp only [formS, beq_iff_eq] at h
    have : l = [] := List.eq_nil_of_length_eq_zero (by omega)
    subst this; rfl
  | succ d ih =>
    intro l
    induction l with
    | nil => intro _ _ m F; rfl
    | cons s l ihl =>
      intro h hw m F
      rw [formS, List.all_cons, Bool.and_eq_true] at h
      obtain ⟨hs, hl⟩ := h
      simp only [Bool.and_eq_true] at hs
      obtain ⟨⟨⟨h1, h2⟩, h3⟩, h4⟩ := hs
      have hws : ∀ a : AD, (a.kind = 2 ∨ a.kind = 3) → 0 ≤ a.at' → a.at' < 6 → s.wr a = false ∧ Sm.wrL a l = false := by
        intro a x y z
        have := hw a x y z
        simpa [Sm.wrL] using this
      have hthel : noWr s.th ∧ noWr s.el := by
        refine ⟨fun a x y z => ?_, fun a x y z => ?_⟩
        · have := (hws a x y z).1
          rw [Sm.wr_eq] at this
          simp only [Bool.or_eq_false_iff] at this
          exact this.1.2
        · have := (hws a x y z).1
          rw [Sm.wr_eq] at this
          simp only [Bool.or_eq_false_iff] at this
          exact this.2
      have hk1 : s.kind ≠ 1 := by
        intro hk
        have hpp := h1
        unfold Sm.plain at hpp
        rw [if_pos (by simp [hk])] at hpp
        simp only [Bool.and_eq_true, bne_iff_ne, ne_eq] at hpp
        have ha := hpp.1.1.1
        simp only [AD.ok, Bool.and_eq_true, decide_eq_true_eq] at ha
        have := (hws s.to' (by have := hpp.1.1.2; omega) (by omega) (by omega)).1
        rw [Sm.wr_eq, hk] at this
        simp at this
      have hse : ∀ (m : MM) (F : Nat), (s.ex m F).1 = m := by
        intro m F
        rw [Sm.ex_eq, if_neg (by simp [hk1])]
        split
        · exact wh_stay (fun m F => ih _ h3 hthel.1 m F) _ _ _
        · split
          · exact ih _ h3 hthel.1 m F
          · exact ih _ h4 hthel.2 m F
      simp only [Sm.exL]
      split
      · exact hse m F
      · rw [ihl (by rw [formS]; exact hl) (fun a x y z => (hws a x y z).2), hse]
end Go.Proofs.YtmicbfojofcigaaGreat
namespace Go.Proofs.YtmicbfojofcigaaGreat
open Go Sg
set_option maxRecDepth 100000
set_option linter.unusedSimpArgs false
set_option linter.unusedVariables false
set_option linter.unusedSectionVars false
set_option maxHeartbeats 4000000
variable [Tab]
noncomputable def slimT (l : List Sm) : List Sm := if okS l then Sm.slL l else []
theorem Sm.ext' {a b : Sm} (h1 : a.kind = b.kind) (h2 : a.to' = b.to') (h3 : a.e = b.e) (h4 : a.th = b.th) (h5 : a.el = b.el) : a = b := by
  cases a; cases b
  simp only [Sm.kind, Sm.to', Sm.e, Sm.th, Sm.el] at h1 h2 h3 h4 h5
  subst h1; subst h2; subst h3; subst h4; subst h5; rfl
theorem same_sm (a b : Sm) : (a.kind == b.kind && (a.to'.kind == b.to'.kind && a.to'.at' == b.to'.at') && same a.e b.e && same a.th b.th && same a.el b.el) = same a b := by
  rw [Bool.eq_iff_iff]
  simp only [Bool.and_eq_true, beq_iff_eq, same_iff]
  constructor
  · rintro ⟨⟨⟨⟨h1, h2, h2'⟩, h3⟩, h4⟩, h5⟩
    refine Sm.ext' h1 ?_ h3 h4 h5
    cases hx : a.to'; cases hy : b.to'
    rw [hx, hy] at h2 h2'
    simp only at h2 h2'
    rw [h2, h2']
  · rintro rfl
    simp
end Go.Proofs.YtmicbfojofcigaaGreat
namespace Go.Proofs.YtmicbfojofcigaaGreat
open Go Sg
set_option maxRecDepth 100000
set_option linter.unusedSimpArgs false
set_option linter.unusedVariables false
set_option linter.unusedSectionVars false
set_option maxHeartbeats 4000000
variable [Tab]
theorem salike_ok : ∀ (N : Nat) (a b : Ex), a.sz ≤ N → a.sz ≤ 1099511627776 → PureF Tryz.prog 86 [.agg a.cs, .agg b.cs] [.bool (same a b)] := by
  intro N
  induction N with
  | zero => intro e b h; have := e.sz_pos; omega
  | succ N ih =>
    intro a b hN hs
    have hlen := a.kids_len
    refine pureF_of Tryz.func86 rfl Tryz.ntmps86 (by simp) T_ ?_
    intro f0 B Q hQ
    refine g_ [2,3] ?_
    refine gD_ [2,3,33] ?_
    refine c_ (fun hc0 => ?_) fun hc0 => ?_
    ·
      refine g_ [4] ?_
      refine e_ Tryz.results86 ?_
      first
      | exact True.intro
      | rw [← same_ex]
        have h := hc0
        cases h1 : a.kind == b.kind
        · simp
        · cases h2 : a.n == b.n
          · simp
          · cases h3 : (a.a.kind == b.a.kind && a.a.at' == b.a.at')
            · simp
            · have : (a.kids.length == b.kids.length) = false := by
                simp [bne, h1, h2, h3] at h
                have h4 : ¬ a.kids.length = b.kids.length := by omega
                simpa using h4
              rw [this]; simp
    simp only [Bool.or_eq_false_iff, bne_eq_false_iff_eq, Bool.not_eq_false', Bool.and_eq_true, beq_iff_eq] at hc0
    have hkl : a.kids.length = b.kids.length := by omega
    refine g_ [2,3,5] ?_
    refine n_ ?_
    refine wpM_loopS (fun s n s' => ∃ (i0 M0 : Nat) , i0 + n = a.kids.length ∧ s.M ≤ M0 ∧ ((List.range i0).all (fun i => same (a.kids.getD i default) (b.kids.getD i default)) = true) ∧ s' = { s with env := setE 5 (.int .i64 (i0 : Nat)) s.env, M := M0 }) (a.kids.length) ?_ ?_
    ·
      refine .of' _ _ ⟨0, _, by omega, Nat.le_refl _, by simp, rfl⟩ ?_ ?_ ?_ <;> exact L_
    rintro n0 s' ⟨i0, M0, hi0, hM0, hv0, rfl⟩
    try dsimp only at hM0
    try refine S_ ?_
    refine g_ [2,3,5,38] ?_
    refine c_ (fun hc1 => ?_) fun hc1 => ?_
    ·
      have hks := Ex.kid_sz (e := a) (k := i0) (by omega)
      refine n_ ?_
      refine dr_ mixed [2,3,5,52] 0 2 [B,B + 1] [⟨[2],[],[],[],false⟩,⟨[41],[0],[],[],false⟩,⟨[5],[],[],[],false⟩,⟨[42,43],[],[],[],false⟩,⟨[44],[],[],[],false⟩,⟨[3],[],[],[],false⟩,⟨[46],[1],[],[],false⟩,⟨[5],[],[],[],false⟩,⟨[47,48],[],[],[],false⟩,⟨[49],[],[],[],false⟩,⟨[45,50],[],[],[],true⟩,⟨[51],[],[],[],false⟩] [0,1,2,3,4,5,6,7,8,9,10,11] [[],[0],[],[0,1,2],[0,1,2,3],[],[5],[],[5,6,7],[5,6,7,8],[0,1,2,3,4,5,6,7,8,9],[0,1,2,3,4,5,6,7,8,9,10]] 2 ?_
      intro O A K hO hA hK;simp only [atL_cons,atL_nil,Nat.reduceAdd,Nat.zero_add] at hO hA
      refine SO_ ?_
      refine lp_ (ih (a.kids.getD i0 default) (b.kids.getD i0 default) (by omega) (by omega)) Tryz.call86 ?_
      refine hK _ (S_ ?_);clear hK K hO hA O A
      refine c_ (fun hc2 => ?_) fun hc2 => ?_
      ·
        refine g_ [4] ?_
        refine e_ Tryz.results86 ?_
        first
        | exact True.intro
        | rw [← same_ex]
          have h2 : (!same (a.kids.getD i0 default) (b.kids.getD i0 default)) = true := hc2
          rw [range_no (i := i0) (p := fun i => same (a.kids.getD i default) (b.kids.getD i default)) (by omega) (by simpa using h2)]
          simp
      refine g_ [2,3,5] ?_
      refine .of' _ _ ⟨n0 - 1, by omega, i0 + 1, _, by omega, M_, ?_, rfl⟩ L_ L_ L_
      have h2 : (!same (a.kids.getD i0 default) (b.kids.getD i0 default)) = false := hc2
      rw [range_all, hv0]; simpa using h2
    refine g_ [4] ?_
    refine e_ Tryz.results86 ?_
    first
    | exact True.intro
    | rw [← same_ex]
      have h1 : i0 = a.kids.length := by omega
      rw [← h1, hv0]
      simp [hc0, h1, hkl]
theorem sisN_ok (e : Ex) (n : Int) : PureF Tryz.prog 85 [.agg e.cs, .int .i64 n] [.bool (e.isN n)] := by
  refine pureF_of Tryz.func85 rfl Tryz.ntmps85 (by simp) T_ ?_
  intro f0 B Q hQ
  refine g_ [1,2] ?_
  refine gD_ [4] ?_
  refine e_ Tryz.results85 ?_
  first
  | exact True.intro
  | rfl
theorem snum_ok (n : Int) : PureF Tryz.prog 45 [.int .i64 n] [.agg (numX n).cs] := by
  refine pureF_of Tryz.func45 rfl Tryz.ntmps45 (by simp) T_ ?_
  intro f0 B Q hQ
  refine g_ [0,2] ?_
  refine g_ [2] ?_
  refine wpM_le [(2, .ptr B 0)] [(B, .cells 27 (numX n).cs)] T_ T_ T_ ?_
  exact e_ Tryz.results45 True.intro
theorem agg_num (n : Int) : 1 = (numX n).kind ∧ n = (numX n).n ∧ 0 = (numX n).a.kind ∧ 0 = (numX n).a.at' ∧ PV.rows 27 [] = PV.rows 27 (Ex.csL (numX n).kids) := ⟨rfl, rfl, rfl, rfl, rfl⟩
theorem agg_ex (e : Ex) : e.kind = e.kind ∧ e.n = e.n ∧ e.a.kind = e.a.kind ∧ e.a.at' = e.a.at' ∧ PV.rows 27 (Ex.csL e.kids) = PV.rows 27 (Ex.csL e.kids) := ⟨rfl, rfl, rfl, rfl, rfl⟩
theorem two10_ok (e : Ex) (h : e.kids.length = 2) (hs : e.sz ≤ 1099511627776) : PureF Tryz.prog 50 [.agg e.cs] [.agg (slim2 e (e.kids.getD 0 default) (e.kids.getD 1 default)).cs] := by
  have h0 := Ex.kid_sz (e := e) (k := 0) (by omega)
  refine pureF_of Tryz.func50 rfl Tryz.ntmps50 (by simp) T_ ?_
  intro f0 B Q hQ
  refine g_ [1,2] ?_
  refine g_ [1,2,3] ?_
  refine g_ [1,2,3,4] ?_
  refine gD_ [1,2,3,4,13] ?_
  refine c_ (fun hc0 => ?_) fun hc0 => ?_
  ·
    refine n_ ?_
    refine wpM_regionK [2] rfl fun Q1 hQ1 => ?_
    refine S_ ?_
    refine cp_ (two_ok e.kind (e.kids.getD 0 default).n (e.kids.getD 1 default).n) Tryz.call84 ?_
    refine cp_ (snum_ok (two e.kind (e.kids.getD 0 default).n (e.kids.getD 1 default).n)) Tryz.call45 ?_
    refine hQ1 _ _ (S_ ?_);clear hQ1 Q1
    refine e_ Tryz.results50 ?_
    first
    | exact True.intro
    | rw [slim2, if_pos hc0]; exact agg_num _
  refine n_ ?_
  refine wpM_regionK [1,2,3,4,30] rfl fun Q1 hQ1 => ?_
  refine SD_ ?_
  first | refine cg_ (fun hb => sisN_ok (e.kids.getD 1 default) 0) Tryz.call85 ?_ | refine cpD_ (sisN_ok (e.kids.getD 1 default) 0) Tryz.call85 ?_
  first | refine cg_ (fun hb => sisN_ok (e.kids.getD 1 default) 0) Tryz.call85 ?_ | refine cpD_ (sisN_ok (e.kids.getD 1 default) 0) Tryz.call85 ?_
  first | refine cg_ (fun hb => sisN_ok (e.kids.getD 1 default) 1) Tryz.call85 ?_ | refine cpD_ (sisN_ok (e.kids.getD 1 default) 1) Tryz.call85 ?_
  refine hQ1 _ _ (S_ ?_);clear hQ1 Q1
  refine c_ (fun hc1 => ?_) fun hc1 => ?_
  ·
    refine g_ [2] ?_
    refine e_ Tryz.results50 ?_
    first
    | exact True.intro
    | rw [slim2, if_neg (by rw [hc0]; simp), if_pos hc1]; exact agg_ex _
  refine n_ ?_
  refine wpM_regionK [1,2,3,4,57] rfl fun Q1 hQ1 => ?_
  refine SD_ ?_
  first | refine cg_ (fun hb => sisN_ok (e.kids.getD 0 default) 0) Tryz.call85 ?_ | refine cpD_ (sisN_ok (e.kids.getD 0 default) 0) Tryz.call85 ?_
  first | refine cg_ (fun hb => sisN_ok (e.kids.getD 0 default) 1) Tryz.call85 ?_ | refine cpD_ (sisN_ok (e.kids.getD 0 default) 1) Tryz.call85 ?_
  refine hQ1 _ _ (S_ ?_);clear hQ1 Q1
  refine c_ (fun hc2 => ?_) fun hc2 => ?_
  ·
    refine g_ [2] ?_
    refine e_ Tryz.results50 ?_
    first
    | exact True.intro
    | rw [slim2, if_neg (by rw [hc0]; simp), if_neg (by rw [hc1]; simp), if_pos hc2]; exact agg_ex _
  refine n_ ?_
  refine wpM_regionK [1,2,3,4,75] rfl fun Q1 hQ1 => ?_
  refine SD_ ?_
  first | refine cg_ (fun hb => sisN_ok (e.kids.getD 0 default) 0) Tryz.call85 ?_ | refine cpD_ (sisN_ok (e.kids.getD 0 default) 0) Tryz.call85 ?_
  first | refine cg_ (fun hb => sisN_ok (e.kids.getD 1 default) 0) Tryz.call85 ?_ | refine cpD_ (sisN_ok (e.kids.getD 1 default) 0) Tryz.call85 ?_
  first | refine cg_ (fun hb => sisN_ok (e.kids.getD 0 default) 0) Tryz.call85 ?_ | refine cpD_ (sisN_ok (e.kids.getD 0 default) 0) Tryz.call85 ?_
  first | refine cg_ (fun hb => sisN_ok (e.kids.getD 1 default) 0) Tryz.call85 ?_ | refine cpD_ (sisN_ok (e.kids.getD 1 default) 0) Tryz.call85 ?_
  refine hQ1 _ _ (S_ ?_);clear hQ1 Q1
  refine c_ (fun hc3 => ?_) fun hc3 => ?_
  ·
    refine n_ ?_
    refine wpM_regionK [2] rfl fun Q1 hQ1 => ?_
    refine S_ ?_
    refine cp_ (snum_ok 0) Tryz.call45 ?_
    refine hQ1 _ _ (S_ ?_);clear hQ1 Q1
    refine e_ Tryz.results50 ?_
    first
    | exact True.intro
    | rw [slim2, if_neg (by rw [hc0]; simp), if_neg (by rw [hc1]; simp), if_neg (by rw [hc2]; simp), if_pos hc3]; exact agg_num _
  refine n_ ?_
  refine wpM_regionK [1,2,3,4,101] rfl fun Q1 hQ1 => ?_
  refine SD_ ?_
  first | refine cg_ (fun hb => salike_ok _ (e.kids.getD 0 default) (e.kids.getD 1 default) (Nat.le_refl _) (by omega)) Tryz.call86 ?_ | refine cpD_ (salike_ok _ (e.kids.getD 0 default) (e.kids.getD 1 default) (Nat.le_refl _) (by omega)) Tryz.call86 ?_
  refine hQ1 _ _ (S_ ?_);clear hQ1 Q1
  refine c_ (fun hc4 => ?_) fun hc4 => ?_
  ·
    refine n_ ?_
    refine wpM_regionK [2] rfl fun Q1 hQ1 => ?_
    refine S_ ?_
    refine cp_ (snum_ok 1) Tryz.call45 ?_
    refine hQ1 _ _ (S_ ?_);clear hQ1 Q1
    refine e_ Tryz.results50 ?_
    first
    | exact True.intro
    | rw [slim2, if_neg (by rw [hc0]; simp), if_neg (by rw [hc1]; simp), if_neg (by rw [hc2]; simp), if_neg (by rw [hc3]; simp), if_pos hc4]; exact agg_num _
  refine n_ ?_
  refine wpM_regionK [1,2,111] rfl fun Q1 hQ1 => ?_
  refine SD_ ?_
  first | refine cg_ (fun hb => salike_ok _ (e.kids.getD 0 default) (e.kids.getD 1 default) (Nat.le_refl _) (by omega)) Tryz.call86 ?_ | refine cpD_ (salike_ok _ (e.kids.getD 0 default) (e.kids.getD 1 default) (Nat.le_refl _) (by omega)) Tryz.call86 ?_
  refine hQ1 _ _ (S_ ?_);clear hQ1 Q1
  refine c_ (fun hc5 => ?_) fun hc5 => ?_
  ·
    refine n_ ?_
    refine wpM_regionK [2] rfl fun Q1 hQ1 => ?_
    refine S_ ?_
    refine cp_ (snum_ok 0) Tryz.call45 ?_
    refine hQ1 _ _ (S_ ?_);clear hQ1 Q1
    refine e_ Tryz.results50 ?_
    first
    | exact True.intro
    | rw [slim2, if_neg (by rw [hc0]; simp), if_neg (by rw [hc1]; simp), if_neg (by rw [hc2]; simp), if_neg (by rw [hc3]; simp), if_neg (by rw [hc4]; simp), if_pos hc5]; exact agg_num _
  refine g_ [2] ?_
  refine e_ Tryz.results50 ?_
  first
  | exact True.intro
  | rw [slim2, if_neg (by rw [hc0]; simp), if_neg (by rw [hc1]; simp), if_neg (by rw [hc2]; simp), if_neg (by rw [hc3]; simp), if_neg (by rw [hc4]; simp), if_neg (by rw [hc5]; simp)]; exact agg_ex _
end Go.Proofs.YtmicbfojofcigaaGreat
namespace Go.Proofs.YtmicbfojofcigaaGreat
open Go Sg
set_option maxRecDepth 100000
set_option linter.unusedSimpArgs false
set_option linter.unusedVariables false
set_option linter.unusedSectionVars false
set_option maxHeartbeats 4000000
variable [Tab]
inductive TX where
  | mk (kind n : Int) (a : AD) (id : Nat) (kids : List TX)
  deriving Inhabited
def TX.kind : TX → Int | .mk k _ _ _ _ => k
def TX.n : TX → Int | .mk _ n _ _ _ => n
def TX.a : TX → AD | .mk _ _ a _ _ => a
def TX.id : TX → Nat | .mk _ _ _ i _ => i
def TX.kids : TX → List TX | .mk _ _ _ _ l => l
mutual
def TX.ex : TX → Ex
  | .mk k n a _ l => .mk k n a (TX.exL l)
def TX.exL : List TX → List Ex
  | [] => []
  | t :: l => t.ex :: TX.exL l
end
theorem TX.exL_map (l : List TX) : TX.exL l = l.map TX.ex := by
  induction l with
  | nil => rfl
  | cons e l ih => simp [TX.exL, ih]
def kidV (id n : Nat) : PV := if n = 0 then .emp else .sl 27 id 0 n
def TX.v (t : TX) : List PV := [.int .i64 t.kind, .int .i64 t.n, .int .i64 t.a.kind, .int .i64 t.a.at', kidV t.id t.kids.length]
@[go_sem] theorem TX.v_eq (t : TX) : t.v = [.int .i64 t.kind, .int .i64 t.n, .int .i64 t.a.kind, .int .i64 t.a.at', kidV t.id t.kids.length] := rfl
theorem kidV_pos {id n : Nat} (h : 0 < n) : kidV id n = .sl 27 id 0 n := if_neg (by omega)
@[go_sem ↓] theorem kidV_cell (id n : Nat) : (kidV id n).cell = true := by unfold kidV; split <;> rfl
def TX.vL (l : List TX) : List PV := (l.map TX.v).flatten
theorem TX.vL_len (l : List TX) : (TX.vL l).length = l.length * 5 := by
  induction l with
  | nil => rfl
  | cons t l ih => simp only [TX.vL, List.map_cons, List.flatten_cons, List.length_append, TX.v_eq, List.length_cons, List.length_nil] at ih ⊢; omega
mutual
def TX.ob : TX → List (Nat × AObj)
  | .mk _ _ _ id l => (if l.length = 0 then [] else [(id, .cells 27 (TX.vL l))]) ++ TX.obL l
def TX.obL : List TX → List (Nat × AObj)
  | [] => []
  | t :: l => t.ob ++ TX.obL l
end
theorem TX.obL_app (l r : List TX) : TX.obL (l ++ r) = TX.obL l ++ TX.obL r := by
  induction l with
  | nil => rfl
  | cons t l ih => simp only [List.cons_append, TX.obL, ih, List.append_assoc]
theorem TX.ob_nil {k n : Int} {a : AD} {id : Nat} : (TX.mk k n a id []).ob = [] := rfl
theorem TX.ob_cons {k n : Int} {a : AD} {id : Nat} {l : List TX} (h : 0 < l.length) : (TX.mk k n a id l).ob = (id, .cells 27 (TX.vL l)) :: TX.obL l := by
  rw [TX.ob, if_neg (by omega)]; rfl
theorem TX.obL_drop (l : List TX) (i : Nat) (h : i < l.length) : TX.obL (l.drop i) = (l.getD i default).ob ++ TX.obL (l.drop (i + 1)) := by
  rw [List.drop_eq_getElem_cons h, TX.obL]
  simp [List.getD, h]
noncomputable def cellsT (l : List TX) (i : Nat) : List PV := exc (Ex.slimL (TX.exL (l.take i))) ++ TX.vL (l.drop i)
@[go_sem] theorem cellsT_len (l : List TX) (i : Nat) : (cellsT l i).length = l.length * 5 := by
  rw [cellsT, List.length_append, exc_len, TX.vL_len, Ex.slimL_len, TX.exL_map, List.length_map, List.length_take, List.length_drop]
  omega
theorem cellsT_zero (l : List TX) : cellsT l 0 = TX.vL l := by
  rw [cellsT, List.take_zero, List.drop_zero]; rfl
theorem cellsT_all (l : List TX) : cellsT l l.length = exc (Ex.slimL (TX.exL l)) := by
  rw [cellsT, List.take_length, List.drop_length, TX.vL]; simp
theorem exc_len5 (l : List TX) (i : Nat) (h : i ≤ l.length) : (exc (Ex.slimL (TX.exL (l.take i)))).length = i * 5 := by
  rw [exc_len, Ex.slimL_len, TX.exL_map, List.length_map, List.length_take]; omega
theorem vL_drop (l : List TX) (i : Nat) (h : i < l.length) : TX.vL (l.drop i) = (l.getD i default).v ++ TX.vL (l.drop (i + 1)) := by
  rw [List.drop_eq_getElem_cons h, TX.vL, List.map_cons, List.flatten_cons]
  simp [List.getD, h, TX.vL]
theorem cellsT_get (l : List TX) (i : Nat) (h : i < l.length) : ((cellsT l i).drop (i * 5)).take 5 = (l.getD i default).v := by
  rw [cellsT, List.drop_append_of_le_length (by rw [exc_len5 l i (by omega)]; exact Nat.le_refl _), List.drop_of_length_le (by rw [exc_len5 l i (by omega)]; exact Nat.le_refl _), List.nil_append, vL_drop l i h, List.take_append_of_le_length (by simp [TX.v_eq]), List.take_of_length_le (by simp [TX.v_eq])]
theorem exL_take (l : List TX) (i : Nat) (h : i < l.length) : TX.exL (l.take (i + 1)) = TX.exL (l.take i) ++ [(l.getD i default).ex] := by
  rw [TX.exL_map, TX.exL_map, List.take_succ_eq_append_getElem h, List.map_append]
  simp [List.getD, h]
theorem exc_cs (e : Ex) : exc [e] = e.cs := by simp [exc, Ex.csL]
theorem cellsT_set (l : List TX) (i : Nat) (h : i < l.length) : splice (cellsT l i) (i * 5) (l.getD i default).ex.slim.cs = cellsT l (i + 1) := by
  have h5 := exc_len5 l i (by omega)
  have hcs : (l.getD i default).ex.slim.cs.length = 5 := by rw [Ex.cs_eq]; rfl
  have hv : (l.getD i default).v.length = 5 := rfl
  rw [splice, hcs, cellsT, cellsT, vL_drop l i h, exL_take l i h, Ex.slimL_map, Ex.slimL_map, List.map_append]
  have e1 : exc (List.map Ex.slim (TX.exL (l.take i)) ++ List.map Ex.slim [(l.getD i default).ex]) = exc (List.map Ex.slim (TX.exL (l.take i))) ++ (l.getD i default).ex.slim.cs := by
    rw [List.map_cons, List.map_nil, ← exc_app]
  rw [e1]
  rw [Ex.slimL_map] at h5
  rw [List.take_append_of_le_length (by omega), List.take_of_length_le (by omega), ← List.append_assoc, List.drop_append_of_le_length (by rw [List.length_append, hv]; omega), List.drop_of_length_le (by rw [List.length_append, hv]; omega)]
  simp
end Go.Proofs.YtmicbfojofcigaaGreat
namespace Go.Proofs.YtmicbfojofcigaaGreat
open Go Sg
set_option maxRecDepth 100000
set_option linter.unusedSimpArgs false
set_option linter.unusedVariables false
set_option linter.unusedSectionVars false
set_option maxHeartbeats 4000000
variable [Tab]
theorem slimN_mk (k n : Int) (a : AD) (L : List Ex) : slimN (Ex.mk k n a L) = if (k == 10 && (L.getD 0 default).kind == 1) = true then numX (numIs (!((L.getD 0 default).n != 0))) else if ((L.length : Int) == 2) = true then slim2 (Ex.mk k n a L) (L.getD 0 default) (L.getD 1 default) else Ex.mk k n a L := rfl
theorem slim_leaf {k n : Int} {a : AD} (h : k = 1 ∨ k = 2) : (Ex.mk k n a []).slim = Ex.mk k n a [] := by
  rw [Ex.slim_eq, slimN, if_neg, if_neg]
  · rfl
  · simp [Ex.kids, Ex.slimL]
  · simp [Ex.kind]; omega
theorem l10E_leaf (k n : Int) (a : AD) (h : k = 1 ∨ k = 2) : PureF Tryz.prog 25 [.agg [.int .i64 k, .int .i64 n, .int .i64 a.kind, .int .i64 a.at', .emp]] [.agg (Ex.mk k n a []).cs] := by
  refine pureF_of Tryz.func25 rfl Tryz.ntmps25 (by simp) T_ ?_
  intro f0 B Q hQ
  have h10 : (k == 10) = false := by simp; omega
  refine g_ [1,2] ?_
  refine g_ [1,2,3] ?_
  refine n_ ?_
  refine wpM_loopS (fun s n s' => s' = s) (0) ?_ ?_
  ·
    exact .here rfl
  rintro r s' rfl
  try refine S_ ?_
  refine g_ [1,2,3,8] ?_
  refine c1_ ?_
  refine n_ ?_
  refine wpM_regionK [1,2,21] rfl fun Q1 hQ1 => ?_
  simp (contextual := true) (maxSteps := 1000000) (implicitDefEqProofs := false) (disch := first | omega | (simp only [decide_eq_true_eq, decide_eq_false_iff_not, Bool.and_eq_true, Bool.or_eq_false_iff, Bool.not_eq_true'] at *; omega)) only [go_sem, h10]
  refine hQ1 _ _ (S_ ?_);clear hQ1 Q1
  refine c1_ ?_
  refine g_ [1,2,42] ?_
  refine c1_ ?_
  refine g_ [2] ?_
  refine wpM_le [(2, .ptr (B + 1) 0)] [(B + 1, .cells 27 [.int .i64 k, .int .i64 n, .int .i64 a.kind, .int .i64 a.at', .rows 27 []])] T_ T_ T_ ?_
  refine e_ Tryz.results25 ?_
  first
  | exact True.intro
  | first | rfl | (repeat' apply And.intro) <;> rfl
def L10 (t : TX) : Prop := CallF Tryz.prog 25 [.agg t.v] t.ob 0 (fun _ o => o = { rs := [.agg t.ex.slim.cs], u := dropU t.ob })
theorem nodup_pre {B : Nat} {x y : AObj} {T : List (Nat × AObj)} (h : ∀ p ∈ T, p.1 < B) (hnd : (ksL T).Nodup) : (ksL ((B + 1, x) :: (B, y) :: T)).Nodup := by
  have hk : ∀ i, i ∈ ksL T → i < B := by
    intro i hi
    obtain ⟨p, hp, rfl⟩ := List.mem_map.1 hi
    exact h p hp
  show ((B + 1) :: B :: ksL T).Nodup
  rw [List.nodup_cons, List.nodup_cons]
  refine ⟨?_, fun hi => ?_, hnd⟩
  · simp only [List.mem_cons, not_or]
    exact ⟨by omega, fun hi => by have := hk _ hi; omega⟩
  · have := hk _ hi; omega
theorem l10E_node (d : Nat) (k n : Int) (a : AD) (id : Nat) (kids : List TX) (hf : formD (d + 1) (TX.mk k n a id kids).ex = true) (hl : 0 < kids.length) (hs : (TX.mk k n a id kids).ex.sz ≤ 1099511627776) (hnd : (ksL (TX.mk k n a id kids).ob).Nodup) (ih : ∀ i, i < kids.length → L10 (kids.getD i default)) : L10 (TX.mk k n a id kids) := by
  have hob := TX.ob_cons (k := k) (n := n) (a := a) (id := id) hl
  have hv : (TX.mk k n a id kids).v = [.int .i64 k, .int .i64 n, .int .i64 a.kind, .int .i64 a.at', .sl 27 id 0 kids.length] := by
    rw [TX.v_eq]; simp only [TX.kind, TX.n, TX.a, TX.id, TX.kids, kidV_pos hl]
  have hlen2 : kids.length ≤ 2 := by
    have := form_len hf
    have e : (TX.mk k n a id kids).ex.kids.length = kids.length := by simp only [TX.ex, Ex.kids, TX.exL_map, List.length_map]
    omega
  unfold L10
  rw [hv]
  refine callF_ofC' Tryz.func25 rfl Tryz.ntmps25 (by simp) ?_
  intro f0 B ns Q hB hns hQ
  obtain rfl : ns = [] := List.eq_nil_of_length_eq_zero hns
  have hF0 : ∀ p ∈ (TX.mk k n a id kids).ob, cutL (TX.mk k n a id kids).ob f0 p.1 = none := fun p hp => if_pos (lk_some_of (ksL_mem hp))
  have hkB : ∀ p ∈ (TX.mk k n a id kids).ob, p.1 < B := fun p hp => hB _ (lk_some_of (ksL_mem hp))
  generalize cutL (TX.mk k n a id kids).ob f0 = F0 at *
  rw [hob] at hF0 hkB hnd
  have hidB : id < B := hkB (id, .cells 27 (TX.vL kids)) (by simp)
  have hnd0 := fun x y => nodup_pre (x := x) (y := y) hkB hnd
  have hFi : ∀ i, ∀ p ∈ TX.obL (kids.drop i), p ∈ TX.obL kids := by
    intro i p hp
    have e : TX.obL kids = TX.obL (kids.take i) ++ TX.obL (kids.drop i) := by rw [← TX.obL_app, List.take_append_drop]
    rw [e]; exact List.mem_append_right _ hp
  have hmv : ∀ (x y z : AObj) i, (ksL ((id, z) :: (B + 1, x) :: (B, y) :: TX.obL (kids.drop i))).Nodup := by
    intro x y z i
    have h1 := hnd
    simp only [ksL, List.map_cons, List.nodup_cons] at h1
    have hsub : (ksL (TX.obL (kids.drop i))).Sublist (ksL (TX.obL kids)) := by
      have e : TX.obL kids = TX.obL (kids.take i) ++ TX.obL (kids.drop i) := by rw [← TX.obL_app, List.take_append_drop]
      rw [e, ksL_app]; exact List.sublist_append_right _ _
    have hkk : ∀ j, j ∈ ksL (TX.obL (kids.drop i)) → j < B := by
      intro j hj
      obtain ⟨p, hp, rfl⟩ := List.mem_map.1 (hsub.subset hj)
      exact hkB p (List.mem_cons_of_mem _ hp)
    show (id :: (B + 1) :: B :: ksL (TX.obL (kids.drop i))).Nodup
    rw [List.nodup_cons, List.nodup_cons, List.nodup_cons]
    refine ⟨?_, ?_, ?_, h1.2.sublist hsub⟩
    · simp only [List.mem_cons, not_or]
      exact ⟨by omega, by omega, fun hx => h1.1 (hsub.subset hx)⟩
    · simp only [List.mem_cons, not_or]
      exact ⟨by omega, fun hx => by have := hkk _ hx; omega⟩
    · exact fun hx => by have := hkk _ hx; omega
  rw [hob]
  refine g_ [1,2] ?_
  refine g_ [1,2,3] ?_
  refine n_ ?_
  refine wpM_loopS (fun q r s' => ∃ i : Nat, i + r = kids.length ∧ s' = { q with env := setE 3 (.int .i64 (i : Nat)) q.env, l := (id, .cells 27 (cellsT kids i)) :: (B + 1, .cells 27 [.int .i64 0, .int .i64 0, .int .i64 0, .int .i64 0, .emp]) :: (B, .cells 27 [.int .i64 k, .int .i64 n, .int .i64 a.kind, .int .i64 a.at', .sl 27 id 0 kids.length]) :: TX.obL (kids.drop i) }) (kids.length) ?_ ?_
  ·
    refine .of' _ _ ⟨0, by omega, rfl⟩ ?_ ?_ ?_
    · exact L_
    · refine subL_of (hnd0 _ _) ?_
      intro p hp
      rw [cellsT_zero, List.drop_zero] at hp
      simp only [List.mem_cons] at hp ⊢
      rcases hp with h | h | h | h <;> simp [h]
    · refine keepB_of ?_
      intro p hp
      simp only [List.mem_cons] at hp
      rcases hp with rfl | rfl | h
      · left; exact Nat.le_succ _
      · left; exact Nat.le_refl _
      · right; left; exact hF0 p (by simpa using h)
  rintro r s' ⟨i, hir, rfl⟩
  try refine S_ ?_
  refine g_ [1,2,3,8] ?_
  refine c_ (fun hc0 => ?_) fun hc0 => ?_
  ·
    have hil : i < kids.length := by omega
    have hdr := TX.obL_drop kids i hil
    have hTin : ∀ p ∈ (kids.getD i default).ob, p ∈ TX.obL (kids.drop i) := fun p hp => by rw [hdr]; exact List.mem_append_left _ hp
    have hLin : ∀ p ∈ TX.obL (kids.drop (i + 1)), p ∈ TX.obL (kids.drop i) := fun p hp => by rw [hdr]; exact List.mem_append_right _ hp
    have hget := cellsT_get kids i hil
    have hkt : ∀ j, j ∈ ksL (kids.getD i default).ob → ¬ (j = id ∨ j = B + 1 ∨ j = B) := by
      intro j hj hx
      obtain ⟨p, hp, rfl⟩ := List.mem_map.1 hj
      have h1 := hnd
      simp only [ksL, List.map_cons, List.nodup_cons] at h1
      have h2 := hFi i p (hTin p hp)
      have h3 := hkB p (List.mem_cons_of_mem _ h2)
      rcases hx with h | h | h
      · exact h1.1 (h ▸ List.mem_map_of_mem h2)
      · omega
      · omega
    have hdis : ∀ p ∈ TX.obL (kids.drop (i + 1)), p.1 ∉ ksL (kids.getD i default).ob := by
      intro p hp hx
      have h1 := hmv (.dfr 0) (.dfr 0) (.dfr 0) i
      rw [hdr] at h1
      simp only [ksL, List.map_cons, List.map_append, List.nodup_cons, List.nodup_append] at h1
      exact h1.2.2.2.2.2 p.1 hx p.1 (List.mem_map_of_mem hp) rfl
    refine n_ ?_
    refine drG_ mixed [1,2,3] 0 2 8 (ksL (kids.getD i default).ob) (ksL (kids.getD i default).ob) [] [B, id] [⟨[1],[],[],[],false⟩,⟨[11],[0],[],[],false⟩,⟨[3],[],[],[],false⟩,⟨[1],[],[],[],false⟩,⟨[14],[0],[],[],false⟩,⟨[3],[],[],[],false⟩,⟨[15,16],[],[],[],false⟩,⟨[17],[1],[],[],false⟩,⟨[18],[],[],[],true⟩,⟨[12,13],[],[],[],false⟩,⟨[19,20],[1],[1],[],false⟩] [0,1,2,3,4,5,6,7] [9,10] [[],[0],[],[],[3],[],[3,4,5],[3,4,5,6],[3,4,5,6,7],[0,1,2,3,4,5,6,7,8],[0,1,2,3,4,5,6,7,8,9]] 2 ?_ ?_ ?_ ?_ ?_ ?_
    · simp; omega
    · simp
    · exact List.nodup_nil
    · intro n hn; simp at hn
    · intro j hj hjt
      have hj : j ∈ ksL (kids.getD i default).ob := by rcases hj with h | h | h <;> first | exact h | simp at h
      obtain ⟨p, hp, rfl⟩ := List.mem_map.1 hj
      have h1 := hnd
      simp only [ksL, List.map_cons, List.nodup_cons] at h1
      have h2 := hFi i p (hTin p hp)
      have h3 := hkB p (List.mem_cons_of_mem _ h2)
      simp only [List.mem_cons, List.not_mem_nil, or_false] at hjt
      rcases hjt with h | h
      · omega
      · exact h1.1 (h ▸ List.mem_map_of_mem h2)
    intro O A K hO hA hK;simp only [atL_cons,atL_nil,Nat.reduceAdd,Nat.zero_add] at hO hA
    simp -implicitDefEqProofs (disch := omega) only [go_sem, hget, hO, hA]
    refine ⟨by rw [List.length_drop, cellsT_len]; omega, ?_⟩
    refine kG2_drop (first := []) (cap := []) (ps := [.agg (kids.getD i default).v]) (T := (kids.getD i default).ob) (rs := [.agg (kids.getD i default).ex.slim.cs]) ((id, .cells 27 (cellsT kids i)) :: (B + 1, .cells 27 [.int .i64 0, .int .i64 0, .int .i64 0, .int .i64 0, .emp]) :: (B, .cells 27 [.int .i64 k, .int .i64 n, .int .i64 a.kind, .int .i64 a.at', .sl 27 id 0 kids.length]) :: TX.obL (kids.drop (i + 1))) (ih i hil) Tryz.call25 rfl rfl ⟨rfl, rfl, rfl⟩ T_ rfl F_ (hmv _ _ _ i) (fun p hp => by simp [hTin p hp]) (fun p hp => .inr (hF0 p (List.mem_cons_of_mem _ (hFi i p (hTin p hp))))) ?_ ?_ ?_
    · intro p hp
      simp only [List.mem_cons] at hp ⊢
      rcases hp with rfl | rfl | rfl | h
      · exact ⟨.inl rfl, fun hx => hkt _ hx (.inl rfl)⟩
      · exact ⟨.inr (.inl rfl), fun hx => hkt _ hx (.inr (.inl rfl))⟩
      · exact ⟨.inr (.inr (.inl rfl)), fun hx => hkt _ hx (.inr (.inr rfl))⟩
      · exact ⟨.inr (.inr (.inr (hLin p h))), hdis p h⟩
    · intro p hp
      simp only [List.mem_cons] at hp
      rcases hp with rfl | rfl | rfl | h
      · left; simp [ksL]
      · left; simp [ksL]
      · left; simp [ksL]
      · rw [hdr] at h
        rcases List.mem_append.1 h with h | h
        · right; left; exact ksL_mem h
        · left; exact ksL_mem (by simp [h])
    unfold contG
    simp -implicitDefEqProofs (disch := omega) only [go_sem, hO, hA]
    refine hK _ (S_ ?_);clear hK K hO hA O A
    refine g_ [1,2,3] ?_
    have e1 : splice (cellsT kids i) (i * 5) [.int .i64 (kids.getD i default).ex.slim.kind, .int .i64 (kids.getD i default).ex.slim.n, .int .i64 (kids.getD i default).ex.slim.a.kind, .int .i64 (kids.getD i default).ex.slim.a.at', .rows 27 (Ex.csL (kids.getD i default).ex.slim.kids)] = cellsT kids (i + 1) := by
      rw [← cellsT_set kids i hil, Ex.cs_eq]
    rw [e1]
    refine .of' _ _ ⟨r - 1, by omega, i + 1, by omega, rfl⟩ ?_ ?_ ?_
    · exact L_
    · exact subL_of (hmv _ _ _ (i + 1)) (fun p hp => hp)
    · exact keepB_of (fun p hp => .inr (.inr (ksL_mem hp)))
  have hi : i = kids.length := by omega
  rw [hi, cellsT_all, List.drop_length, show TX.obL [] = [] from rfl]
  refine wpM_ren id (.cells 27 (exc (Ex.slimL (TX.exL kids)))) (by simp [lk]) ⟨.inr (hF0 (id, .cells 27 (TX.vL kids)) (by simp)), trivial⟩ (by show B ≤ B + 1 + 1; omega) rfl ?_
  refine S_ ?_
  have hLl : (Ex.slimL (TX.exL kids)).length = kids.length := by rw [Ex.slimL_len, TX.exL_map, List.length_map]
  refine wpM_frz [B + 1 + 1] [(27, B + 1 + 1, 0, kids.length, Ex.csL (Ex.slimL (TX.exL kids)))] (by intro q hq; simp at hq; subst hq; simp -implicitDefEqProofs (disch := omega) only [go_sem]) (by intro q hq; simp only [List.mem_cons, List.not_mem_nil, or_false] at hq; subst hq; rw [← hLl]; exact ⟨by simp, rowsOf_exc (T := 27) T_⟩) ?_
  refine S_ ?_
  have hsl : (TX.mk k n a id kids).ex.slim = slimN (Ex.mk k n a (Ex.slimL (TX.exL kids))) := by rw [TX.ex, Ex.slim]
  have hsz : (Ex.mk k n a (Ex.slimL (TX.exL kids))).sz ≤ 1099511627776 := by
    have h1 := Ex.slimL_sz (TX.exL kids)
    have h2 : (TX.mk k n a id kids).ex.sz = 1 + Ex.szL (TX.exL kids) := by rw [TX.ex, Ex.sz]
    rw [Ex.sz]; omega
  generalize hL : Ex.slimL (TX.exL kids) = L at *
  refine gD_ [1,2,21] ?_
  refine c_ (fun hc1 => ?_) fun hc1 => ?_
  ·
    refine n_ ?_
    refine wpM_regionK [2] rfl fun Q1 hQ1 => ?_
    refine S_ ?_
    refine cp_ (on_ok (L.getD 0 default).n) Tryz.call49 ?_
    refine cp_ (is_ok (!((L.getD 0 default).n != 0))) Tryz.call48 ?_
    refine cp_ (snum_ok (numIs (!((L.getD 0 default).n != 0)))) Tryz.call45 ?_
    refine hQ1 _ _ (S_ ?_);clear hQ1 Q1
    refine wpM_ret ?_
    try refine S_ ?_
    refine hQ _ _ (ret0 (dropU _) rfl rfl rfl (by rw [Tryz.results25] <;> simp (maxSteps := 1000000) -implicitDefEqProofs (disch := omega) only [go_sem] <;> rfl) ?_ ?_ ?_ (updOk_dropU fun p hp => ksL_mem hp) (oldOk_dropU fun q hq => ksL_mem hq))
    · rw [hsl, slimN_mk, if_pos hc1]; simp -implicitDefEqProofs (disch := omega) only [go_sem]
    all_goals simp -implicitDefEqProofs (disch := omega) only [go_sem, true_or, or_true]
  refine g_ [1,2,42] ?_
  refine c_ (fun hc2 => ?_) fun hc2 => ?_
  ·
    refine n_ ?_
    refine wpM_regionK [2] rfl fun Q1 hQ1 => ?_
    refine S_ ?_
    refine cp_ (two10_ok (Ex.mk k n a L) (by show L.length = 2; simp at hc2; omega) hsz) Tryz.call50 ?_
    refine hQ1 _ _ (S_ ?_);clear hQ1 Q1
    refine wpM_ret ?_
    try refine S_ ?_
    refine hQ _ _ (ret0 (dropU _) rfl rfl rfl (by rw [Tryz.results25] <;> simp (maxSteps := 1000000) -implicitDefEqProofs (disch := omega) only [go_sem] <;> rfl) ?_ ?_ ?_ (updOk_dropU fun p hp => ksL_mem hp) (oldOk_dropU fun q hq => ksL_mem hq))
    · rw [hsl, slimN_mk, if_neg (by rw [hc1]; simp), if_pos hc2]; simp -implicitDefEqProofs (disch := omega) only [go_sem]
    all_goals simp -implicitDefEqProofs (disch := omega) only [go_sem, true_or, or_true]
  refine g_ [2] ?_
  refine wpM_ret ?_
  try refine S_ ?_
  refine hQ _ _ (ret0 (dropU _) rfl rfl rfl (by rw [Tryz.results25] <;> simp (maxSteps := 1000000) -implicitDefEqProofs (disch := omega) only [go_sem] <;> rfl) ?_ ?_ ?_ (updOk_dropU fun p hp => ksL_mem hp) (oldOk_dropU fun q hq => ksL_mem hq))
  · rw [hsl, slimN_mk, if_neg (by rw [hc1]; simp), if_neg (by rw [hc2]; simp)]; simp -implicitDefEqProofs (disch := omega) only [go_sem]
  all_goals simp -implicitDefEqProofs (disch := omega) only [go_sem, true_or, or_true]
theorem ob_sub {l : List TX} {i : Nat} (h : i < l.length) : (ksL (l.getD i default).ob).Sublist (ksL (TX.obL l)) := by
  have e : TX.obL l = TX.obL (l.take i) ++ TX.obL (l.drop i) := by rw [← TX.obL_app, List.take_append_drop]
  rw [e, TX.obL_drop l i h, ksL_app, ksL_app]
  exact (List.sublist_append_left _ _).trans (List.sublist_append_right _ _)
theorem l10E_ok (d : Nat) : ∀ t : TX, formD d t.ex = true → t.ex.sz ≤ 1099511627776 → (ksL t.ob).Nodup → L10 t := by
  induction d with
  | zero => intro t h; cases h
  | succ d ih =>
    intro t hf hs hnd
    obtain ⟨k, n, a, id, kids⟩ := t
    by_cases hl : 0 < kids.length
    · refine l10E_node d k n a id kids hf hl hs hnd fun i hi => ?_
      have he : (TX.exL kids).getD i default = (kids.getD i default).ex := by rw [TX.exL_map]; simp [List.getD, hi]
      have hi2 : i < (TX.mk k n a id kids).ex.kids.length := by rw [TX.ex, Ex.mk_kids, TX.exL_map, List.length_map]; exact hi
      have h1 := (form_inv hf).2.2 i hi2
      have h2 := Ex.kid_sz hi2
      rw [TX.ex, Ex.mk_kids, he] at h1 h2
      rw [TX.ex] at hs
      refine ih _ h1 (by omega) ?_
      rw [TX.ob_cons hl] at hnd
      simp only [ksL, List.map_cons, List.nodup_cons] at hnd
      exact hnd.2.sublist (ob_sub hi)
    · have hk : kids = [] := List.eq_nil_of_length_eq_zero (by omega)
      subst hk
      have hkind : k = 1 ∨ k = 2 := by
        have := form_len hf
        simp only [TX.ex, TX.exL, Ex.mk_kids, Ex.mk_kind, List.length_nil] at this
        omega
      unfold L10
      have e1 : (TX.mk k n a id []).ex.slim = Ex.mk k n a [] := slim_leaf hkind
      rw [e1]
      exact l10E_leaf k n a hkind
end Go.Proofs.YtmicbfojofcigaaGreat
namespace Go.Proofs.YtmicbfojofcigaaGreat
open Go Sg
set_option maxRecDepth 100000
set_option linter.unusedSimpArgs false
set_option linter.unusedVariables false
set_option linter.unusedSectionVars false
set_option maxHeartbeats 4000000
variable [Tab]
mutual
def TX.ren (ρ : Nat → Nat) : TX → TX
  | .mk k n a id l => .mk k n a (ρ id) (TX.renL ρ l)
def TX.renL (ρ : Nat → Nat) : List TX → List TX
  | [] => []
  | t :: l => t.ren ρ :: TX.renL ρ l
end
theorem TX.renL_map (ρ : Nat → Nat) (l : List TX) : TX.renL ρ l = l.map (TX.ren ρ) := by
  induction l with
  | nil => rfl
  | cons e l ih => simp [TX.renL, ih]
theorem TX.renL_len (ρ : Nat → Nat) (l : List TX) : (TX.renL ρ l).length = l.length := by rw [TX.renL_map, List.length_map]
mutual
theorem TX.ren_ex (ρ : Nat → Nat) : (t : TX) → (t.ren ρ).ex = t.ex
  | .mk k n a id l => by rw [TX.ren, TX.ex, TX.ex, TX.renL_ex ρ l]
theorem TX.renL_ex (ρ : Nat → Nat) : (l : List TX) → TX.exL (TX.renL ρ l) = TX.exL l
  | [] => rfl
  | t :: l => by rw [TX.renL, TX.exL, TX.exL, TX.ren_ex ρ t, TX.renL_ex ρ l]
end
theorem kidV_ren (ρ : Nat → Nat) (id n : Nat) : (kidV id n).ren ρ = kidV (ρ id) n := by
  unfold kidV; split <;> rfl
theorem TX.ren_v (ρ : Nat → Nat) (t : TX) : PV.renL ρ t.v = (t.ren ρ).v := by
  obtain ⟨k, n, a, id, l⟩ := t
  simp only [TX.v, TX.ren, TX.kind, TX.n, TX.a, TX.id, TX.kids, PV.renL, PV.ren, kidV_ren, TX.renL_len]
theorem TX.ren_vL (ρ : Nat → Nat) (l : List TX) : PV.renL ρ (TX.vL l) = TX.vL (TX.renL ρ l) := by
  induction l with
  | nil => rfl
  | cons t l ih =>
    simp only [TX.vL, List.map_cons, List.flatten_cons, TX.renL] at ih ⊢
    rw [renL_app, ih, TX.ren_v]
def renO (ρ : Nat → Nat) (q : Nat × AObj) : Nat × AObj := (ρ q.1, q.2.ren ρ)
mutual
theorem TX.ren_ob (ρ : Nat → Nat) : (t : TX) → (t.ren ρ).ob = t.ob.map (renO ρ)
  | .mk k n a id l => by
    rw [TX.ren, TX.ob, TX.ob, TX.renL_ob ρ l, TX.renL_len]
    split
    · rfl
    · simp only [List.map_append, List.map_cons, List.map_nil, renO, AObj.ren, TX.ren_vL]
theorem TX.renL_ob (ρ : Nat → Nat) : (l : List TX) → TX.obL (TX.renL ρ l) = (TX.obL l).map (renO ρ)
  | [] => rfl
  | t :: l => by rw [TX.renL, TX.obL, TX.obL, TX.ren_ob ρ t, TX.renL_ob ρ l, List.map_append]
end
mutual
def Ex.nn : Ex → Nat | .mk _ _ _ l => (if l.length = 0 then 0 else 1) + Ex.nnL l
def Ex.nnL : List Ex → Nat | [] => 0 | e :: l => e.nn + Ex.nnL l
end
mutual
theorem TX.ks_len : (t : TX) → (ksL t.ob).length = t.ex.nn
  | .mk k n a id l => by
    rw [TX.ob, TX.ex, Ex.nn, ksL_app, List.length_append, TX.ksL_len l, TX.exL_map, List.length_map]
    split <;> simp [ksL]
theorem TX.ksL_len : (l : List TX) → (ksL (TX.obL l)).length = Ex.nnL (TX.exL l)
  | [] => rfl
  | t :: l => by rw [TX.obL, TX.exL, Ex.nnL, ksL_app, List.length_append, TX.ks_len t, TX.ksL_len l]
end
theorem kidV_ids (p : Nat → Prop) (id n : Nat) (h : n ≠ 0 → p id) : (kidV id n).ids p := by
  unfold kidV
  split
  · simp [PV.ids]
  · rename_i hn; simpa [PV.ids] using h hn
mutual
theorem TX.v_ids (p : Nat → Prop) : (t : TX) → (∀ j ∈ ksL t.ob, p j) → PV.idsL p t.v
  | .mk k n a id l, h => by
    have : (kidV id l.length).ids p := kidV_ids p id l.length fun hn => h id (by rw [TX.ob_cons (by omega)]; simp [ksL])
    simp only [TX.v, TX.kind, TX.n, TX.a, TX.id, TX.kids, PV.idsL, PV.ids]
    simp [this]
theorem TX.vL_ids (p : Nat → Prop) : (l : List TX) → (∀ j ∈ ksL (TX.obL l), p j) → PV.idsL p (TX.vL l)
  | [], _ => by simp [TX.vL, PV.idsL]
  | t :: l, h => by
    rw [TX.obL, ksL_app] at h
    have h1 := TX.v_ids p t fun j hj => h j (List.mem_append_left _ hj)
    have h2 := TX.vL_ids p l fun j hj => h j (List.mem_append_right _ hj)
    simp only [TX.vL, List.map_cons, List.flatten_cons] at h2 ⊢
    rw [idsL_app]; exact ⟨h1, h2⟩
end
mutual
theorem TX.ob_ids (p : Nat → Prop) : (t : TX) → (∀ j ∈ ksL t.ob, p j) → ∀ q ∈ t.ob, q.2.ids p
  | .mk k n a id l, h, q, hq => by
    rw [TX.ob] at hq h
    rw [ksL_app] at h
    have hL : ∀ j ∈ ksL (TX.obL l), p j := fun j hj => h j (List.mem_append_right _ hj)
    rcases List.mem_append.1 hq with hq | hq
    · split at hq
      · simp at hq
      · simp only [List.mem_cons, List.not_mem_nil, or_false] at hq
        subst hq
        exact TX.vL_ids p l hL
    · exact TX.obL_ids p l hL q hq
theorem TX.obL_ids (p : Nat → Prop) : (l : List TX) → (∀ j ∈ ksL (TX.obL l), p j) → ∀ q ∈ TX.obL l, q.2.ids p
  | [], _, q, hq => by simp [TX.obL] at hq
  | t :: l, h, q, hq => by
    rw [TX.obL] at hq h
    rw [ksL_app] at h
    rcases List.mem_append.1 hq with hq | hq
    · exact TX.ob_ids p t (fun j hj => h j (List.mem_append_left _ hj)) q hq
    · exact TX.obL_ids p l (fun j hj => h j (List.mem_append_right _ hj)) q hq
end
theorem newOk_map {ρ : Nat → Nat} {p : Nat → Prop} {s : MS} : {T : List (Nat × AObj)} → (∀ q ∈ T, s.B ≤ q.1 ∧ s.f q.1 = some q.2 ∧ q.2.ids p) → newOk ρ p s (ksL T) ((ksL T).map ρ) (T.map (renO ρ))
  | [], _ => trivial
  | (i, o) :: r, h => by
    obtain ⟨h1, h2, h3⟩ := h (i, o) (by simp)
    refine ⟨rfl, h1, ?_, newOk_map fun q hq => h q (by simp [hq])⟩
    unfold goodObj
    rw [h2]
    exact ⟨rfl, h3⟩
theorem renId_list : {js ns : List Nat} → js.length = ns.length → js.Nodup → js.map (renId js ns) = ns
  | [], [], _, _ => rfl
  | [], _ :: _, h, _ => by simp at h
  | _ :: _, [], h, _ => by simp at h
  | j :: js, n :: ns, h, hnd => by
    rw [List.nodup_cons] at hnd
    have ih := renId_list (js := js) (ns := ns) (by simpa using h) hnd.2
    rw [List.map_cons]
    have e0 : renId (j :: js) (n :: ns) j = n := by simp [renId]
    have e1 : js.map (renId (j :: js) (n :: ns)) = js.map (renId js ns) := by
      refine List.map_congr_left fun x hx => ?_
      simp only [renId]
      rw [if_neg]
      rintro rfl; exact hnd.1 hx
    rw [e0, e1, ih]
def L3R (e : Ex) (ns : List Nat) (o : COut) : Prop := ∃ t : TX, t.ex = e ∧ ksL t.ob = ns ∧ o = { rs := [.agg t.v], nw := t.ob }
def L3C (e : Ex) : Prop := CallF Tryz.prog 24 [.agg e.cs] [] e.nn (L3R e)
end Go.Proofs.YtmicbfojofcigaaGreat
namespace Go.Proofs.YtmicbfojofcigaaGreat
open Go Sg
set_option maxRecDepth 100000
set_option linter.unusedSimpArgs false
set_option linter.unusedVariables false
set_option linter.unusedSectionVars false
set_option maxHeartbeats 4000000
variable [Tab]
theorem TX.exL_len (l : List TX) : (TX.exL l).length = l.length := by rw [TX.exL_map, List.length_map]
theorem TX.exL_app (l r : List TX) : TX.exL (l ++ r) = TX.exL l ++ TX.exL r := by simp [TX.exL_map]
theorem TX.vL_app (l r : List TX) : TX.vL (l ++ r) = TX.vL l ++ TX.vL r := by simp [TX.vL]
theorem TX.vL_one (t : TX) : TX.vL [t] = t.v := by simp [TX.vL]
theorem TX.obL_one (t : TX) : TX.obL [t] = t.ob := by simp [TX.obL]
theorem f_in {s : MS} {q : Nat × AObj} (hnd : (ksL s.l).Nodup) (hq : q ∈ s.l) : s.f q.1 = some q.2 := by
  simp only [MS.f, lk_nd hnd hq]
theorem dell_no : {l : List (Nat × AObj)} → {i : Nat} → i ∉ ksL l → dell i l = l
  | [], _, _ => rfl
  | (k, v) :: r, i, h => by
    simp only [ksL, List.map_cons, List.mem_cons, not_or] at h
    simp only [dell]
    rw [if_neg (fun e => h.1 e.symm), dell_no h.2]
theorem l3T_step (e : Ex) (hs : e.sz ≤ 1099511627776) (ih : ∀ i, i < e.kids.length → L3C (e.kids.getD i default)) : L3C e := by
  have hlen := e.kids_len
  unfold L3C
  refine callF_of' Tryz.func24 rfl Tryz.ntmps24 (by simp) ?_
  intro f0 B ns Q hB hns hQ
  refine g_ [1,2] ?_
  refine g_ [1,2,3] ?_
  refine g_ [1,2,3,4] ?_
  refine n_ ?_
  refine wpM_loopS (fun s r s' => (r = e.kids.length ∧ s' = s) ∨ ∃ (i0 M0 y : Nat) (D : List TX), 0 < i0 ∧ i0 + r = e.kids.length ∧ TX.exL D = e.kids.take i0 ∧ B + 3 ≤ y ∧ y < M0 ∧ (∀ j ∈ ksL (TX.obL D), B + 3 ≤ j ∧ j < M0 ∧ j ≠ y) ∧ (ksL (TX.obL D)).Nodup ∧ s' = { s with env := setE 4 (.int .i64 (i0 : Nat)) s.env, l := (y, .cells 27 (TX.vL D)) :: (setl (B + 2) (.cells 27 [.int .i64 e.kind, .int .i64 e.n, .int .i64 e.a.kind, .int .i64 e.a.at', .sl 27 y 0 i0]) s.l ++ TX.obL D), M := M0 }) (e.kids.length) ?_ ?_
  ·
    refine .of' _ _ (.inl ⟨rfl, rfl⟩) ?_ ?_ ?_ <;> exact L_
  rintro r s' (⟨rfl, rfl⟩ | ⟨i0, M0, y, D, hi0, hir, hD, hy, hyM, hDk, hDn, rfl⟩)
  ·
    try refine S_ ?_
    refine g_ [1,2,3,4,16] ?_
    refine c_ (fun hc0 => ?_) fun hc0 => ?_
    ·
      have hks := Ex.kid_sz (e := e) (k := 0) (by omega)
      obtain ⟨nk, hnk⟩ : ∃ nk, nk = (e.kids.getD 0 default).nn := ⟨_, rfl⟩
      refine n_ ?_
      refine drG_ mixed [1,2,3,4] (nk + 2) 2 7 [] [] (List.range' (B + 3) nk) [B + 2, B, B + 3 + nk, B + 3 + nk + 1] [⟨[3],[],[],[],false⟩,⟨[19],[0],[],[],false⟩,⟨[1],[],[],[],false⟩,⟨[21],[1],[],[],false⟩,⟨[4],[],[],[],false⟩,⟨[22,23],[],[],[],false⟩,⟨[24],[],[],[],false⟩,⟨[25],[],[],[],true⟩,⟨[26],[],[],[2],false⟩,⟨[20,27],[2],[],[3],false⟩,⟨[3],[],[],[],false⟩,⟨[28,29],[0],[0],[],false⟩] [0,1,2,3,4,5,6] [8,9,10,11] [[],[0],[],[2],[],[2,3,4],[2,3,4,5],[2,3,4,5,6],[2,3,4,5,6,7],[0,1,2,3,4,5,6,7,8],[0,1,2,3,4,5,6,7,8,9],[0,1,2,3,4,5,6,7,8,9,10]] 4 ?_ ?_ ?_ ?_ ?_ ?_
      · simp; omega
      · intro n hn
        simp at hn
        show B + 3 ≤ n ∧ n < B + 3 + (nk + 2)
        omega
      · exact List.nodup_range'
      · intro n hn
        have := List.mem_range'_1.1 hn
        show B + 3 ≤ n ∧ n < B + 3 + (nk + 2)
        omega
      · intro j hj hjt
        have hj : j ∈ List.range' (B + 3) nk := by simpa using hj
        have := List.mem_range'_1.1 hj
        simp at hjt
        omega
      intro O A K hO hA hK;simp only [atL_cons,atL_nil,Nat.reduceAdd,Nat.zero_add] at hO hA
      simp -implicitDefEqProofs (disch := omega) only [go_sem, exc_len, hO, hA]
      refine kG2_new (first := []) (cap := []) (ps := [.agg (e.kids.getD 0 default).cs]) (Ω := L3R (e.kids.getD 0 default)) (by rw [List.length_range', hnk]; exact ih 0 (by omega)) Tryz.call24 rfl rfl ⟨rfl, rfl, rfl⟩ T_ rfl F_ (by simp [ksL]; omega) ?_ ?_
      · intro g hg
        have := List.mem_range'_1.1 hg
        refine ⟨by simp [ksL]; omega, by show B ≤ g; omega⟩
      rintro out ⟨t, ht, hkt, rfl⟩
      refine ⟨_, _, rfl, fun p hp => hkt ▸ ksL_mem hp, ?_⟩
      unfold contG
      simp -implicitDefEqProofs (disch := omega) only [go_sem, hO, hA]
      refine hK _ (S_ ?_);clear hK K hO hA O A
      refine g_ [1,2,3,4] ?_
      have hkt2 : ksL t.ob = List.range' (B + 3) nk := hkt
      refine .of' _ _ ⟨e.kids.length - 1, by omega, .inr ⟨1, _, B + 3 + nk + 1, [t], by omega, by omega, ?_, by omega, ?_, ?_, ?_, rfl⟩⟩ ?_ ?_ ?_
      · rw [TX.exL, TX.exL, ht, List.take_succ_eq_append_getElem (by omega), List.take_zero, List.nil_append]
        simp [List.getD, show 0 < e.kids.length by omega]
      · show B + 3 + nk + 1 < B + 3 + (nk + 2); omega
      · intro j hj
        rw [TX.obL_one, hkt2] at hj
        have := List.mem_range'_1.1 hj
        exact ⟨by omega, by show j < B + 3 + (nk + 2); omega, by omega⟩
      · rw [TX.obL_one, hkt2]; exact List.nodup_range'
      · exact L_
      · refine subL_of ?_ ?_
        · simp only [ksL, List.map_cons, List.nodup_cons, List.mem_cons, not_or]
          rw [show List.map Prod.fst t.ob = List.range' (B + 3) nk from hkt2]
          simp only [List.mem_range'_1]
          repeat' apply And.intro
          all_goals first | omega | exact List.nodup_range'
        · intro p hp
          rw [TX.obL_one, TX.vL_one] at hp
          simp only [List.mem_cons, List.cons_append, List.nil_append] at hp ⊢
          rcases hp with h | h | h | h | h <;> simp [h, TX.v_eq]
      · exact keepB_of (fun p hp => by
          simp only [List.mem_cons] at hp
          rcases hp with rfl | rfl | rfl | rfl | rfl | h
          · left; show B ≤ B + 3 + nk + 1; omega
          · left; show B ≤ B + 3 + nk; omega
          · left; show B ≤ B + 1 + 1; omega
          · left; show B ≤ B + 1; omega
          · left; exact Nat.le_refl _
          · left
            have hh : p.1 ∈ ksL t.ob := ksL_mem h
            rw [hkt2] at hh
            have := List.mem_range'_1.1 hh
            show B ≤ p.1
            omega)
    refine n_ ?_
    have hk0 : e.kids = [] := List.eq_nil_of_length_eq_zero (by omega)
    have hnn : e.nn = 0 := by
      obtain ⟨k, n, a, l⟩ := e
      have hk0 : l = [] := hk0
      subst hk0; rfl
    have hns0 : ns = [] := List.eq_nil_of_length_eq_zero (by omega)
    subst hns0
    refine g_ [2] ?_
    refine wpM_ret ?_
    try refine S_ ?_
    refine hQ _ _ (retK [] [] [] rfl rfl rfl (by rw [Tryz.results24] <;> simp (maxSteps := 1000000) -implicitDefEqProofs (disch := omega) only [go_sem] <;> rfl) ?_ ⟨TX.mk e.kind e.n e.a 0 [], Ex.ext' rfl rfl rfl hk0.symm, rfl, rfl⟩ ?_ ?_ ?_ ?_ ?_ ?_)
    all_goals first | rfl | (simp -implicitDefEqProofs (disch := omega) only [go_sem, List.nodup_nil, true_or, or_true]; done) | trivial
  try refine S_ ?_
  refine g_ [1,2,3,4,16] ?_
  refine c_ (fun hc0 => ?_) fun hc0 => ?_
  ·
    have hks := Ex.kid_sz (e := e) (k := i0) (by omega)
    have hDl : D.length = i0 := by
      have := congrArg List.length hD
      rw [TX.exL_len, List.length_take] at this
      omega
    have hvl := TX.vL_len D
    obtain ⟨nk, hnk⟩ : ∃ nk, nk = (e.kids.getD i0 default).nn := ⟨_, rfl⟩
    refine n_ ?_
    refine drG_ mixed [1,2,3,4] (nk + 2) 3 7 [] [] (List.range' M0 nk) [B + 2, B, y, M0 + nk, M0 + nk + 1] [⟨[3],[],[],[],false⟩,⟨[19],[0],[],[],false⟩,⟨[1],[],[],[],false⟩,⟨[21],[1],[],[],false⟩,⟨[4],[],[],[],false⟩,⟨[22,23],[],[],[],false⟩,⟨[24],[],[],[],false⟩,⟨[25],[],[],[],true⟩,⟨[26],[],[],[3],false⟩,⟨[20,27],[2,3],[2],[4],false⟩,⟨[3],[],[],[],false⟩,⟨[28,29],[0],[0],[],false⟩] [0,1,2,3,4,5,6] [8,9,10,11] [[],[0],[],[2],[],[2,3,4],[2,3,4,5],[2,3,4,5,6],[2,3,4,5,6,7],[0,1,2,3,4,5,6,7,8],[0,1,2,3,4,5,6,7,8,9],[0,1,2,3,4,5,6,7,8,9,10]] 5 ?_ ?_ ?_ ?_ ?_ ?_
    · simp; omega
    · intro n hn
      simp at hn
      show M0 ≤ n ∧ n < M0 + (nk + 2)
      omega
    · exact List.nodup_range'
    · intro n hn
      have := List.mem_range'_1.1 hn
      show M0 ≤ n ∧ n < M0 + (nk + 2)
      omega
    · intro j hj hjt
      have hj : j ∈ List.range' M0 nk := by simpa using hj
      have := List.mem_range'_1.1 hj
      simp at hjt
      omega
    intro O A K hO hA hK;simp only [atL_cons,atL_nil,Nat.reduceAdd,Nat.zero_add] at hO hA
    simp -implicitDefEqProofs (disch := omega) only [go_sem, hvl, hDl, hO, hA]
    refine kG2_new (first := []) (cap := []) (ps := [.agg (e.kids.getD i0 default).cs]) (Ω := L3R (e.kids.getD i0 default)) (by rw [List.length_range', hnk]; exact ih i0 (by omega)) Tryz.call24 rfl rfl ⟨rfl, rfl, rfl⟩ T_ rfl F_ ?_ ?_ ?_
    · simp only [ksL, List.map_cons, List.nodup_cons, List.mem_cons, not_or]
      have h1 : ∀ j, j ∈ List.map Prod.fst (TX.obL D) → B + 3 ≤ j ∧ j < M0 ∧ j ≠ y := hDk
      repeat' apply And.intro
      all_goals first | omega | exact hDn | (intro hj; have := h1 _ hj; omega)
    · intro g hg
      have := List.mem_range'_1.1 hg
      refine ⟨fun hx => ?_, by show B ≤ g; omega⟩
      simp only [ksL, List.map_cons, List.mem_cons] at hx
      rcases hx with h | h | h | h | h
      · omega
      · omega
      · omega
      · omega
      · have := hDk _ h; omega
    rintro out ⟨t, ht, hkt, rfl⟩
    refine ⟨_, _, rfl, fun p hp => hkt ▸ ksL_mem hp, ?_⟩
    unfold contG
    simp -implicitDefEqProofs (disch := omega) only [go_sem, hO, hA, hvl, hDl]
    refine hK _ (S_ ?_);clear hK K hO hA O A
    refine g_ [1,2,3,4] ?_
    have hkt2 : ksL t.ob = List.range' M0 nk := hkt
    have e1 : TX.vL D ++ [.int .i64 t.kind, .int .i64 t.n, .int .i64 t.a.kind, .int .i64 t.a.at', kidV t.id t.kids.length] = TX.vL (D ++ [t]) := by rw [TX.vL_app, TX.vL_one]; rfl
    have e2 : TX.obL (D ++ [t]) = TX.obL D ++ t.ob := by rw [TX.obL_app, TX.obL_one]
    have h1 : ∀ j, j ∈ List.map Prod.fst (TX.obL D) → B + 3 ≤ j ∧ j < M0 ∧ j ≠ y := hDk
    have h2 : ∀ j, j ∈ List.map Prod.fst t.ob → M0 ≤ j ∧ j < M0 + nk := fun j hj => by
      have hj : j ∈ ksL t.ob := hj
      rw [hkt2] at hj
      exact List.mem_range'_1.1 hj
    have h3 : (List.map Prod.fst t.ob).Nodup := by show (ksL t.ob).Nodup; rw [hkt2]; exact List.nodup_range'
    have h4 : (List.map Prod.fst (TX.obL D) ++ List.map Prod.fst t.ob).Nodup := List.nodup_append.2 ⟨hDn, h3, fun a ha b hb e => by have := h1 a ha; have := h2 b hb; omega⟩
    have hdel : dell y (TX.obL D ++ t.ob) = TX.obL D ++ t.ob := dell_no (by
      rw [ksL_app]
      intro hx
      rcases List.mem_append.1 hx with hx | hx
      · exact (h1 y hx).2.2 rfl
      · have := h2 y hx; omega)
    rw [e1, hdel]
    refine .of' _ _ ⟨r - 1, by omega, .inr ⟨i0 + 1, _, M0 + nk + 1, D ++ [t], by omega, by omega, ?_, by omega, ?_, ?_, ?_, rfl⟩⟩ ?_ ?_ ?_
    · rw [TX.exL_app, hD, TX.exL, TX.exL, ht, List.take_succ_eq_append_getElem (by omega)]
      simp [List.getD, show i0 < e.kids.length by omega]
    · show M0 + nk + 1 < M0 + (nk + 2); omega
    · intro j hj
      rw [e2, ksL_app] at hj
      rcases List.mem_append.1 hj with hj | hj
      · have := h1 j hj
        exact ⟨by omega, by show j < M0 + (nk + 2); omega, by omega⟩
      · have := h2 j hj
        exact ⟨by omega, by show j < M0 + (nk + 2); omega, by omega⟩
    · rw [e2, ksL_app]; exact h4
    · exact L_
    · refine subL_of ?_ ?_
      · simp only [ksL, List.map_cons, List.map_append, List.nodup_cons, List.mem_cons, List.mem_append, not_or]
        repeat' apply And.intro
        all_goals first | omega | exact h4 | (intro hj; have := h1 _ hj; omega) | (intro hj; have := h2 _ hj; omega)
      · intro p hp
        rw [e2] at hp
        simp only [List.mem_cons, List.cons_append, List.nil_append, List.mem_append] at hp ⊢
        rcases hp with h | h | h | h | h | h <;> simp [h]
    · refine keepB_of (fun p hp => ?_)
      left
      show B ≤ p.1
      simp only [List.mem_cons, List.mem_append] at hp
      have hk : ∀ q : Nat × AObj, q ∈ TX.obL D → B ≤ q.1 := fun q hq => by have := h1 q.1 (List.mem_map_of_mem hq); omega
      have hk2 : ∀ q : Nat × AObj, q ∈ t.ob → B ≤ q.1 := fun q hq => by have := h2 q.1 (List.mem_map_of_mem hq); omega
      repeat' (rcases hp with rfl | hp)
      all_goals first | (dsimp only; omega) | exact hk _ hp | exact hk2 _ hp | (rcases hp with hp | hp <;> first | exact hk _ hp | exact hk2 _ hp)
  refine n_ ?_
  have hDl : D.length = i0 := by
    have := congrArg List.length hD
    rw [TX.exL_len, List.length_take] at this
    omega
  have hie : i0 = e.kids.length := by omega
  obtain ⟨t, ht⟩ : ∃ t, t = TX.mk e.kind e.n e.a y D := ⟨_, rfl⟩
  have htob : t.ob = (y, .cells 27 (TX.vL D)) :: TX.obL D := by rw [ht, TX.ob_cons (by omega)]
  have htv : t.v = [.int .i64 e.kind, .int .i64 e.n, .int .i64 e.a.kind, .int .i64 e.a.at', .sl 27 y 0 i0] := by
    rw [ht, TX.v_eq]; simp only [TX.kind, TX.n, TX.a, TX.id, TX.kids, hDl, kidV_pos hi0]
  have hte : t.ex = e := by
    rw [ht, TX.ex, hD, hie, List.take_length]
    exact Ex.ext' rfl rfl rfl rfl
  have htn : (ksL t.ob).Nodup := by
    rw [htob]
    simp only [ksL, List.map_cons, List.nodup_cons]
    exact ⟨fun hx => (hDk y hx).2.2 rfl, hDn⟩
  have htl : (ksL t.ob).length = ns.length := by rw [TX.ks_len, hte, hns]
  have hkB : ∀ q ∈ t.ob, B ≤ q.1 := by
    intro q hq
    rw [htob] at hq
    rcases List.mem_cons.1 hq with rfl | hq
    · show B ≤ y; omega
    · have := hDk q.1 (List.mem_map_of_mem hq); omega
  refine g_ [2] ?_
  refine wpM_ret ?_
  try refine S_ ?_
  refine hQ _ _ (retK (ksL t.ob) [] ((t.ren (renId (ksL t.ob) ns)).ob) rfl rfl rfl (by rw [Tryz.results24] <;> simp (maxSteps := 1000000) -implicitDefEqProofs (disch := omega) only [go_sem] <;> rfl) ?_ ⟨t.ren (renId (ksL t.ob) ns), by rw [TX.ren_ex, hte], ?_, rfl⟩ htn ?_ ?_ trivial trivial ?_)
  · rw [← TX.ren_v, htv]; rfl
  · rw [TX.ren_ob]
    have : ksL (t.ob.map (renO (renId (ksL t.ob) ns))) = (ksL t.ob).map (renId (ksL t.ob) ns) := by simp [ksL, renO]
    rw [this]; exact renId_list htl htn
  · simp -implicitDefEqProofs (disch := omega) only [go_sem]
    exact keysIn_of fun p hp => .inl (by have := hDk p.1 (List.mem_map_of_mem hp); omega)
  · simp -implicitDefEqProofs (disch := omega) only [go_sem]
    rw [htob]; simp [ksL]
  · have h := fun s hh => newOk_map (s := s) (ρ := renId (ksL t.ob) ns) (p := fun i => hasKey i [] = true ∨ i ∈ ksL t.ob) (T := t.ob) hh
    rw [renId_list htl htn, ← TX.ren_ob] at h
    refine h _ ?_
    intro q hq
    refine ⟨hkB q hq, ?_, TX.ob_ids _ t (fun j hj => .inr hj) q hq⟩
    rw [htob] at hq
    have h1 : ∀ j, j ∈ List.map Prod.fst (TX.obL D) → B + 3 ≤ j ∧ j < M0 ∧ j ≠ y := hDk
    refine f_in ?_ ?_
    · simp only [ksL, List.map_cons, List.nodup_cons, List.mem_cons, not_or]
      repeat' apply And.intro
      all_goals first | omega | exact hDn | (intro hj; have := h1 _ hj; omega)
    · simp only [List.mem_cons] at hq ⊢
      rcases hq with h | h <;> simp [h]
theorem l3T_ok : ∀ (N : Nat) (e : Ex), e.sz ≤ N → e.sz ≤ 1099511627776 → L3C e := by
  intro N
  induction N with
  | zero => intro e h; have := e.sz_pos; omega
  | succ N ih =>
    intro e h hs
    refine l3T_step e hs fun i hi => ?_
    have := Ex.kid_sz (e := e) hi
    exact ih _ (by omega) (by omega)
end Go.Proofs.YtmicbfojofcigaaGreat
namespace Go.Proofs.YtmicbfojofcigaaGreat
open Go Sg
set_option maxRecDepth 100000
set_option linter.unusedSimpArgs false
set_option linter.unusedVariables false
set_option linter.unusedSectionVars false
set_option maxHeartbeats 4000000
variable [Tab]
end Go.Proofs.YtmicbfojofcigaaGreat
namespace Go.Proofs.YtmicbfojofcigaaGreat
open Go Sg
set_option maxRecDepth 100000
set_option linter.unusedSimpArgs false
set_option linter.unusedVariables false
set_option linter.unusedSectionVars false
set_option maxHeartbeats 4000000
variable [Tab]
end Go.Proofs.YtmicbfojofcigaaGreat
namespace Go.Proofs.YtmicbfojofcigaaGreat
open Go Sg
set_option maxRecDepth 100000
set_option linter.unusedSimpArgs false
set_option linter.unusedVariables false
set_option linter.unusedSectionVars false
set_option maxHeartbeats 4000000
variable [Tab]
theorem u64w (n : Int) (h : 0 ≤ n) (h1 : n < 18446744073709551616) : IntKind.u64.wrap n = n := by
  show n % 18446744073709551616 = n
  omega
theorem u32w (n : Int) (h : 0 ≤ n) (h1 : n < 4294967296) : IntKind.u32.wrap n = n := by
  show n % 4294967296 = n
  omega
theorem u8w (n : Int) (h : 0 ≤ n) (h1 : n < 256) : IntKind.u8.wrap n = n := by
  show n % 256 = n
  omega
theorem tmod100 (n : Int) (h : 0 ≤ n) : Int.tmod n 100 = n % 100 := Int.tmod_eq_emod_of_nonneg h
theorem tmod10000 (n : Int) (h : 0 ≤ n) : Int.tmod n 10000 = n % 10000 := Int.tmod_eq_emod_of_nonneg h
theorem tdiv100 (n : Int) (h : 0 ≤ n) : Int.tdiv n 100 = n / 100 := Int.tdiv_eq_ediv_of_nonneg h
theorem tdiv10000 (n : Int) (h : 0 ≤ n) : Int.tdiv n 10000 = n / 10000 := Int.tdiv_eq_ediv_of_nonneg h
def sbU (s : ByteArray) (i : Int) : UInt8 := s.data.getD i.toNat 0
def sb (s : ByteArray) (i : Int) : Int := ((sbU s i).toNat : Int)
theorem sb_eq (s : ByteArray) (i : Int) : ((sbU s i).toNat : Int) = sb s i := rfl
theorem sb_rng (s : ByteArray) (i : Int) : 0 ≤ sb s i ∧ sb s i < 256 := by
  unfold sb
  have := (sbU s i).toNat_lt
  omega
theorem get_str (s : ByteArray) (i : Int) (n : Nat) (hn : s.size = n) (h0 : 0 ≤ i) (h1 : i < n) : s[i.toNat]? = some (sbU s i) := by
  have hi : i.toNat < s.size := by omega
  have : s[i.toNat]? = some s[i.toNat] := getElem?_pos s i.toNat hi
  rw [this]
  have hd : i.toNat < s.data.size := hi
  simp [sbU, Array.getD, hd, hi, ByteArray.getElem_eq_getElem_data]
theorem shrK (t : TypeId) (x y : Operand) (n : Int) (k : Int) (h : 0 ≤ n) (hk : k = 16 ∨ k = 8) : binOpA Tryz.prog .shr t x y (.int .u64 n) (.int .u64 k) = some (.int .u64 (n / (2 ^ k.toNat : Int))) := by
  rw [bin_shr]
  simp only [shiftA]
  rw [if_neg (by omega)]
  rcases hk with rfl | rfl
  · show some (PV.int .u64 (n.fdiv (2 ^ 16))) = _
    rw [Int.fdiv_eq_ediv_of_nonneg _ (by decide)]
    rfl
  · show some (PV.int .u64 (n.fdiv (2 ^ 8))) = _
    rw [Int.fdiv_eq_ediv_of_nonneg _ (by decide)]
    rfl
@[go_sem high] theorem shr16 (t : TypeId) (x y : Operand) (n : Int) (h : 0 ≤ n) : binOpA Tryz.prog .shr t x y (.int .u64 n) (.int .u64 16) = some (.int .u64 (n / 65536)) := shrK t x y n 16 h (.inl rfl)
@[go_sem high] theorem shr8 (t : TypeId) (x y : Operand) (n : Int) (h : 0 ≤ n) : binOpA Tryz.prog .shr t x y (.int .u64 n) (.int .u64 8) = some (.int .u64 (n / 256)) := shrK t x y n 8 h (.inr rfl)
@[go_sem high] theorem shr18 (t : TypeId) (x y : Operand) (n : Int) (h : 0 ≤ n) : binOpA Tryz.prog .shr t x y (.int .i64 n) (.int .u64 18) = some (.int .i64 (n / 262144)) := by
  rw [bin_shr]
  simp only [shiftA]
  rw [if_neg (by omega)]
  show some (PV.int .i64 (n.fdiv (2 ^ 18))) = _
  rw [Int.fdiv_eq_ediv_of_nonneg _ (by decide)]
  rfl
def len8 (x : Int) : Int := if x < 1 then 0 else if x < 2 then 1 else if x < 4 then 2 else if x < 8 then 3 else if x < 16 then 4 else if x < 32 then 5 else if x < 64 then 6 else if x < 128 then 7 else 8
def lenN (n : Int) : Int := if n ≥ 65536 then (if n / 65536 ≥ 256 then 16 + 8 + len8 (n / 65536 / 256) else 16 + len8 (n / 65536)) else if n ≥ 256 then 8 + len8 (n / 256) else len8 n
theorem len8_rng (x : Int) : 0 ≤ len8 x ∧ len8 x ≤ 8 ∧ (x < 16 → len8 x ≤ 4) := by
  unfold len8
  refine ⟨?_, ?_, fun _ => ?_⟩ <;> (repeat' split) <;> omega
theorem lenN_rng (n : Int) (h0 : 0 ≤ n) (h1 : n ≤ 1000000) : 0 ≤ lenN n ∧ lenN n ≤ 20 := by
  unfold lenN
  have a := len8_rng (n / 65536 / 256)
  have b := len8_rng (n / 65536)
  have c := len8_rng (n / 256)
  have d := len8_rng n
  have := b.2.2 (by omega)
  split
  · split
    · omega
    · omega
  · split <;> omega
theorem len64_ok (n : Int) (h0 : 0 ≤ n) (h1 : n ≤ 1000000) : PureF Tryz.prog 143 [.int .u64 n] [.int .i64 (lenN n)] := by
  refine pureF_of Tryz.func143 rfl Tryz.ntmps143 (by simp) T_ ?_
  intro f0 B Q hQ
  refine g_ [0,2] ?_
  refine n_ ?_
  go_name_bytes_deep 30 L8 hL8
  have hs : L8.size = 256 := by rw [← hL8]; rfl
  have hidx := fun i h0 h1 => get_str L8 i 256 hs h0 h1
  have hlen : ∀ (i : Int), 0 ≤ i → i < 256 → ((sbU L8 i).toNat : Int) = len8 i := by
    intro i h0 h1
    have e : ∀ i : Fin 256, sb L8 (i.1 : Int) = len8 (i.1 : Int) := by rw [← hL8]; decide +kernel
    have := e ⟨i.toNat, by omega⟩
    simp only [Int.toNat_of_nonneg h0] at this
    exact this
  clear hL8
  refine g_ [0,2,4] ?_
  refine c_ (fun hc0 => ?_) fun hc0 => ?_
  · exfalso; omega
  refine g_ [0,2,8] ?_
  refine c_ (fun hc1 => ?_) fun hc1 => ?_
  ·
    refine g_ [0,2] ?_
    refine g_ [0,2] ?_
    refine g_ [0,2,14] ?_
    refine c_ (fun hc2 => ?_) fun hc2 => ?_
    ·
      refine g_ [0,2] ?_
      refine g_ [0,2] ?_
      refine n_ ?_
      refine wpM_regionK [2] rfl fun Q1 hQ1 => ?_
      simp -implicitDefEqProofs (disch := omega) only [go_sem, u8w, hidx, hlen]
      refine hQ1 _ _ (S_ ?_);clear hQ1 Q1
      refine e_ Tryz.results143 ?_
      first
      | exact True.intro
      | unfold lenN
        have r1 := len8_rng (n / 65536 / 256)
        have r2 := len8_rng (n / 65536)
        have r3 := len8_rng (n / 256)
        have r4 := len8_rng n
        simp only [*, ↓reduceIte, Bool.false_eq_true]
        try simp (disch := omega) only [wrap64]
        try omega
    refine n_ ?_
    refine wpM_regionK [2] rfl fun Q1 hQ1 => ?_
    simp -implicitDefEqProofs (disch := omega) only [go_sem, u8w, hidx, hlen]
    refine hQ1 _ _ (S_ ?_);clear hQ1 Q1
    refine e_ Tryz.results143 ?_
    first
    | exact True.intro
    | unfold lenN
      have r1 := len8_rng (n / 65536 / 256)
      have r2 := len8_rng (n / 65536)
      have r3 := len8_rng (n / 256)
      have r4 := len8_rng n
      simp only [*, ↓reduceIte, Bool.false_eq_true]
      try simp (disch := omega) only [wrap64]
      try omega
  refine g_ [0,2,14] ?_
  refine c_ (fun hc3 => ?_) fun hc3 => ?_
  ·
    refine g_ [0,2] ?_
    refine g_ [0,2] ?_
    refine n_ ?_
    refine wpM_regionK [2] rfl fun Q1 hQ1 => ?_
    simp -implicitDefEqProofs (disch := omega) only [go_sem, u8w, hidx, hlen]
    refine hQ1 _ _ (S_ ?_);clear hQ1 Q1
    refine e_ Tryz.results143 ?_
    first
    | exact True.intro
    | unfold lenN
      have r1 := len8_rng (n / 65536 / 256)
      have r2 := len8_rng (n / 65536)
      have r3 := len8_rng (n / 256)
      have r4 := len8_rng n
      simp only [*, ↓reduceIte, Bool.false_eq_true]
      try simp (disch := omega) only [wrap64]
      try omega
  refine n_ ?_
  refine wpM_regionK [2] rfl fun Q1 hQ1 => ?_
  simp -implicitDefEqProofs (disch := omega) only [go_sem, u8w, hidx, hlen]
  refine hQ1 _ _ (S_ ?_);clear hQ1 Q1
  refine e_ Tryz.results143 ?_
  first
  | exact True.intro
  | unfold lenN
    have r1 := len8_rng (n / 65536 / 256)
    have r2 := len8_rng (n / 65536)
    have r3 := len8_rng (n / 256)
    have r4 := len8_rng n
    simp only [*, ↓reduceIte, Bool.false_eq_true]
    try simp (disch := omega) only [wrap64]
    try omega
def l10 (n : Int) : Int := lenN n * 78913 / 262144
theorem l10_rng (n : Int) (h0 : 0 ≤ n) (h1 : n ≤ 1000000) : 0 ≤ l10 n ∧ l10 n ≤ 6 := by
  have := lenN_rng n h0 h1
  unfold l10
  omega
theorem log10_ok (x : Int) (h0 : 0 ≤ x) (h1 : x ≤ 64) : PureF Tryz.prog 142 [.int .i64 x] [.int .i64 (x * 78913 / 262144)] := by
  refine pureF_of Tryz.func142 rfl Tryz.ntmps142 (by simp) T_ ?_
  intro f0 B Q hQ
  refine g_ [0] ?_
  refine g_ [2] ?_
  refine e_ Tryz.results142 ?_
  first
  | exact True.intro
  | first | rfl | omega
theorem bool2_ok (b : Bool) : PureF Tryz.prog 144 [.bool b] [.int .i64 (if b then 1 else 0)] := by
  refine pureF_of Tryz.func144 rfl Tryz.ntmps144 (by simp) T_ ?_
  intro f0 B Q hQ
  refine g_ [0] ?_
  refine g_ [3] ?_
  refine c_ (fun hc0 => ?_) fun hc0 => ?_
  ·
    refine g_ [2] ?_
    refine e_ Tryz.results144 ?_
    first
    | exact True.intro
    | simp [*]
  refine g_ [2] ?_
  refine e_ Tryz.results144 ?_
  first
  | exact True.intro
  | simp [*]
def ndT (n : Int) : Int := l10 n + (if n ≥ Tab.pw.getD (l10 n).toNat 0 then 1 else 0)
theorem ndT_rng (n : Int) (h0 : 0 ≤ n) (h1 : n ≤ 1000000) : 0 ≤ ndT n ∧ ndT n ≤ 7 := by
  have := l10_rng n h0 h1
  unfold ndT
  split <;> omega
theorem ndT_two (n : Int) (h0 : 100 ≤ n) (h1 : n ≤ 1000000) : 2 ≤ ndT n := by
  have hl : 7 ≤ lenN n := by
    have a := len8_rng (n / 65536 / 256)
    have b := len8_rng (n / 65536)
    have c := len8_rng (n / 256)
    unfold lenN
    split
    · split <;> omega
    · split
      · omega
      · unfold len8
        repeat' split
        all_goals omega
  have : 2 ≤ l10 n := by unfold l10; omega
  unfold ndT
  split <;> omega
theorem pw_len : (Tab.pw.map (PV.int .u64)).length = 20 := by rw [List.length_map, Tab.hlen]
theorem pw_take (k : Nat) (h : k < 20) : takeVar Tryz.prog 144 ((Tab.pw.map (PV.int .u64)).drop k) = some (.int .u64 (Tab.pw.getD k 0)) := by
  have hk : k < (Tab.pw.map (PV.int .u64)).length := by rw [pw_len]; exact h
  rw [List.drop_eq_getElem_cons hk]
  have : (Tab.pw.map (PV.int .u64))[k] = .int .u64 (Tab.pw.getD k 0) := by
    have hk' : k < Tab.pw.length := by rw [Tab.hlen]; exact h
    simp [List.getD, hk']
  rw [this]
  simp -implicitDefEqProofs (disch := omega) only [go_sem]
theorem numDigits_ok (n : Int) (h0 : 0 ≤ n) (h1 : n ≤ 1000000) : PureF Tryz.prog 139 [.int .u64 n] [.int .i64 (ndT n)] := by
  have hL := lenN_rng n h0 h1
  have hl := l10_rng n h0 h1
  have hll : lenN n * 78913 / 262144 = l10 n := rfl
  refine pureF_of Tryz.func139 rfl Tryz.ntmps139 (by simp) T_ ?_
  intro f0 B Q hQ
  refine g_ [0] ?_
  refine n_ ?_
  refine wpM_regionK [0,3] rfl fun Q1 hQ1 => ?_
  refine S_ ?_
  refine cp_ (len64_ok n h0 h1) Tryz.call143 ?_
  refine cp_ (log10_ok (lenN n) (by omega) (by omega)) Tryz.call142 ?_
  refine hQ1 _ _ (S_ ?_);clear hQ1 Q1
  refine n_ ?_
  rw [hll]
  refine wpM_regionK [2] rfl fun Q1 hQ1 => ?_
  simp -implicitDefEqProofs (disch := omega) only [go_sem, pw_len, pw_take]
  refine call_p (bool2_ok _) Tryz.call144 rfl rfl rfl (by first | rfl | (simp -implicitDefEqProofs (disch := omega) only [go_sem] <;> rfl)) ?_
  simp -implicitDefEqProofs (disch := omega) only [go_sem, pw_len, pw_take]
  refine hQ1 _ _ (S_ ?_);clear hQ1 Q1
  refine e_ Tryz.results139 ?_
  first
  | exact True.intro
  | unfold ndT
    split <;> simp_all
end Go.Proofs.YtmicbfojofcigaaGreat
namespace Go.Proofs.YtmicbfojofcigaaGreat
open Go Sg
set_option maxRecDepth 100000
set_option linter.unusedSimpArgs false
set_option linter.unusedVariables false
set_option linter.unusedSectionVars false
set_option maxHeartbeats 4000000
variable [Tab]
def b8 (l : List Int) : List PV := l.map (.int .u8)
@[go_sem] theorem b8_len (l : List Int) : (b8 l).length = l.length := by simp [b8]
@[go_sem high] theorem splice_b8 (l : List Int) (k : Nat) (b : Int) (h : k < l.length) : splice (b8 l) k [.int .u8 b] = b8 (l.set k b) := by
  simp only [splice, b8, List.length_cons, List.length_nil]
  rw [List.map_set, List.set_eq_take_append_cons_drop, if_pos (by simpa using h)]; simp
@[go_sem high] theorem splice_b8' (l : List Int) (i : Nat) (x : Int) (k : Nat) (b : Int) (h : k < l.length) : splice (b8 (l.set i x)) k [.int .u8 b] = b8 ((l.set i x).set k b) := splice_b8 _ _ _ (by rw [List.length_set]; exact h)
@[go_sem] theorem idsL_b8 (p : Nat → Prop) (l : List Int) : PV.idsL p (b8 l) = True := by
  induction l with
  | nil => simp [b8, PV.idsL]
  | cons x l ih => simp only [b8, List.map_cons, PV.idsL, PV.ids, true_and] at ih ⊢; exact ih
@[go_sem] theorem renL_b8 (p : Nat → Nat) (l : List Int) : PV.renL p (b8 l) = b8 l := by
  induction l with
  | nil => rfl
  | cons x l ih => simp only [b8, List.map_cons, PV.renL, PV.ren] at ih ⊢; rw [ih]
@[go_sem] theorem b8_cell (l : List Int) : (b8 l).all PV.cell = true := by
  induction l with
  | nil => rfl
  | cons x l ih => simp only [b8, List.map_cons, List.all_cons, PV.cell, Bool.true_and] at ih ⊢; exact ih
theorem bytA_b8 : (l : List Int) → bytA (b8 l) = some (l.map fun n => UInt8.ofNat n.toNat)
  | [] => rfl
  | x :: l => by
    have := bytA_b8 l
    simp only [b8, List.map_cons, bytA] at this ⊢
    rw [this]; rfl
theorem b8_dt (l : List Int) (a b : Nat) : ((b8 l).drop a).take b = b8 ((l.drop a).take b) := by simp [b8, List.map_take, List.map_drop]
@[go_sem] theorem bytA_take (l : List Int) (b : Nat) : bytA ((b8 l).take b) = some ((l.take b).map fun n => UInt8.ofNat n.toNat) := by rw [show (b8 l).take b = b8 (l.take b) by simp [b8, List.map_take], bytA_b8]
@[go_sem] theorem bytA_dt (l : List Int) (a b : Nat) : bytA (((b8 l).drop a).take b) = some (((l.drop a).take b).map fun n => UInt8.ofNat n.toNat) := by rw [b8_dt, bytA_b8]
def smallS (n : Int) : ByteArray := if n < 10 then Lib.digits36.extract n.toNat (n + 1).toNat else Lib.smalls.extract (n * 2).toNat (n * 2 + 2).toNat
theorem smallS_size (n : Int) (h0 : 0 ≤ n) : (smallS n).size ≤ 2 := by
  unfold smallS
  split <;> simp <;> omega
theorem small_ok (n : Int) (h0 : 0 ≤ n) (h1 : n < 100) : PureF Tryz.prog 138 [.int .i64 n] [.str (smallS n)] := by
  refine pureF_of Tryz.func138 rfl Tryz.ntmps138 (by simp) T_ ?_
  intro f0 B Q hQ
  have h36 := Lib.digits36_size
  have h200 := Lib.smalls_size
  refine g_ [0] ?_
  refine n_ ?_
  go_name_bytes_deep 45 SM hSM
  have eSM : SM = Lib.smalls := by rw [← hSM]; decide +kernel
  subst eSM
  clear hSM
  go_name_bytes_deep 30 DG hDG
  have eDG : DG = Lib.digits36 := by rw [← hDG]; decide +kernel
  subst eDG
  clear hDG
  refine g_ [0,4] ?_
  refine c_ (fun hc0 => ?_) fun hc0 => ?_
  ·
    refine n_ ?_
    refine wpM_regionK [2] rfl fun Q1 hQ1 => ?_
    simp -implicitDefEqProofs (disch := omega) only [go_sem, h36]
    refine hQ1 _ _ (S_ ?_);clear hQ1 Q1
    refine e_ Tryz.results138 ?_
    first
    | exact True.intro
    | simp only [smallS, *, ↓reduceIte]
  refine n_ ?_
  refine wpM_regionK [2] rfl fun Q1 hQ1 => ?_
  simp -implicitDefEqProofs (disch := omega) only [go_sem, h200]
  refine hQ1 _ _ (S_ ?_);clear hQ1 Q1
  refine e_ Tryz.results138 ?_
  first
  | exact True.intro
  | simp only [smallS, *, ↓reduceIte]
def p2 (L : List Int) (a b x : Int) : List Int := (L.set (1 + a.toNat) (sb Lib.smalls (x + 1))).set (1 + b.toNat) (sb Lib.smalls x)
theorem p2_len (L : List Int) (a b x : Int) : (p2 L a b x).length = L.length := by simp [p2]
def f1 (L : List Int) (x : Int) : List Int := L.set 1 (IntKind.u8.wrap (48 + x))
theorem f1_len (L : List Int) (x : Int) : (f1 L x).length = L.length := by simp [f1]
def g2 (L : List Int) (k u : Int) : List Int :=
  if k ≥ 2 then (if k - 2 > 0 then f1 (p2 L (k - 1) (k - 2) (u % 100 * 2)) (u / 100) else p2 L (k - 1) (k - 2) (u % 100 * 2)) else if k > 0 then f1 L u else L
def g4 (L : List Int) (k u : Int) : List Int :=
  if k ≥ 4 then g2 (p2 (p2 L (k - 1) (k - 2) (u % 10000 % 100 * 2)) (k - 3) (k - 4) (u % 10000 / 100 * 2)) (k - 4) (u / 10000) else g2 L k u
theorem g2_len (L : List Int) (k u : Int) : (g2 L k u).length = L.length := by
  unfold g2
  repeat' split
  all_goals simp [f1_len, p2_len]
theorem g4_len (L : List Int) (k u : Int) : (g4 L k u).length = L.length := by
  unfold g4
  split <;> simp [g2_len, p2_len]
theorem fmt_ok (id : Nat) (L : List Int) (k : Nat) (u : Int) (h0 : 0 ≤ u) (h1 : u ≤ 1000000) (hk : k ≤ 7) (hL : L.length = 24) :
    CallF Tryz.prog 140 [.sl 5 id 1 k, .int .u64 u] [(id, .cells 171 (b8 L))] 0 (fun _ o => o = { rs := [], u := [(id, some (.cells 171 (b8 (g4 L k u))))] }) := by
  refine callF_of' Tryz.func140 rfl Tryz.ntmps140 (by simp) ?_
  intro f0 B ns Q hB hns hQ
  have hid : id < B := hB id (by simp [hasKey, lk])
  obtain rfl : ns = [] := List.eq_nil_of_length_eq_zero hns
  refine n_ ?_
  go_name_bytes_deep 45 SM hSM
  have eSM : SM = Lib.smalls := by rw [← hSM]; decide +kernel
  subst eSM
  clear hSM
  have hidx := fun i h0 h1 => get_str Lib.smalls i 200 Lib.smalls_size h0 h1
  refine g_ [0,1,4] ?_
  refine n_ ?_
  refine wpM_loopS (fun s r s' => s' = s) (0) ?_ ?_
  ·
    refine .of' _ _ rfl ?_ ?_ ?_
    all_goals exact L_
  rintro r s' rfl
  try refine S_ ?_
  refine g_ [0,1,4,20] ?_
  refine c_ (fun hc0 => ?_) fun hc0 => ?_
  · exfalso; omega
  refine n_ ?_
  refine wpM_regionK [0,4,12] rfl fun Q1 hQ1 => ?_
  simp -implicitDefEqProofs (disch := omega) only [go_sem, u32w]
  refine hQ1 _ _ (S_ ?_);clear hQ1 Q1
  refine g_ [0,4,12,99] ?_
  refine c_ (fun hc1 => ?_) fun hc1 => ?_
  ·
    refine n_ ?_
    refine wpM_regionK [0,4,12,13] rfl fun Q1 hQ1 => ?_
    simp -implicitDefEqProofs (disch := omega) only [go_sem, tmod10000]
    refine hQ1 _ _ (S_ ?_);clear hQ1 Q1
    refine n_ ?_
    refine wpM_regionK [0,4,12,13] rfl fun Q1 hQ1 => ?_
    simp -implicitDefEqProofs (disch := omega) only [go_sem, tdiv10000, u32w]
    refine hQ1 _ _ (S_ ?_);clear hQ1 Q1
    refine n_ ?_
    refine wpM_regionK [0,4,12,14,15] rfl fun Q1 hQ1 => ?_
    simp -implicitDefEqProofs (disch := omega) only [go_sem, tdiv100, tmod100, u32w]
    refine hQ1 _ _ (S_ ?_);clear hQ1 Q1
    refine n_ ?_
    refine dr_ mixed [0,4,12,14] 0 1 [id] [⟨[0],[],[],[],false⟩,⟨[4],[],[],[],false⟩,⟨[111],[],[],[],false⟩,⟨[0],[],[],[],false⟩,⟨[4],[],[],[],false⟩,⟨[114],[],[],[],false⟩,⟨[15],[],[],[],false⟩,⟨[116],[],[],[],false⟩,⟨[117],[],[],[],false⟩,⟨[15],[],[],[],false⟩,⟨[119],[],[],[],false⟩,⟨[110,112],[],[],[],false⟩,⟨[118,121],[0],[0],[],false⟩,⟨[113,115],[],[],[],false⟩,⟨[120,122],[0],[0],[],false⟩] [0,1,2,3,4,5,6,7,8,9,10,11,12,13,14] [[],[],[1],[],[],[4],[],[6],[6,7],[],[9],[0,1,2,6,7,8],[0,1,2,6,7,8,11],[0,1,2,3,4,5,6,7,8,9,10,11,12],[0,1,2,3,4,5,6,7,8,9,10,11,12,13]] 1 ?_
    intro O A K hO hA hK;simp only [atL_cons,atL_nil,Nat.reduceAdd,Nat.zero_add] at hO hA
    simp -implicitDefEqProofs (disch := omega) only [go_sem, u32w, hidx, sb_eq, List.length_set, hO, hA]
    refine hK _ (S_ ?_);clear hK K hO hA O A
    obtain ⟨L1, e1, l1⟩ : ∃ L1 : List Int, L1 = p2 L ((k : Int) - 1) ((k : Int) - 2) (u % 10000 % 100 * 2) ∧ L1.length = 24 := ⟨_, rfl, by simp [p2, hL]⟩
    rw [show (L.set (1 + ((k : Int) - 1).toNat) _).set (1 + ((k : Int) - 2).toNat) _ = L1 from e1.symm]
    refine n_ ?_
    refine dr_ mixed [0,4,12] 0 1 [id] [⟨[0],[],[],[],false⟩,⟨[4],[],[],[],false⟩,⟨[124],[],[],[],false⟩,⟨[0],[],[],[],false⟩,⟨[4],[],[],[],false⟩,⟨[127],[],[],[],false⟩,⟨[14],[],[],[],false⟩,⟨[129],[],[],[],false⟩,⟨[130],[],[],[],false⟩,⟨[14],[],[],[],false⟩,⟨[132],[],[],[],false⟩,⟨[123,125],[],[],[],false⟩,⟨[131,134],[0],[0],[],false⟩,⟨[126,128],[],[],[],false⟩,⟨[133,135],[0],[0],[],false⟩] [0,1,2,3,4,5,6,7,8,9,10,11,12,13,14] [[],[],[1],[],[],[4],[],[6],[6,7],[],[9],[0,1,2,6,7,8],[0,1,2,6,7,8,11],[0,1,2,3,4,5,6,7,8,9,10,11,12],[0,1,2,3,4,5,6,7,8,9,10,11,12,13]] 1 ?_
    intro O A K hO hA hK;simp only [atL_cons,atL_nil,Nat.reduceAdd,Nat.zero_add] at hO hA
    simp -implicitDefEqProofs (disch := omega) only [go_sem, u32w, hidx, sb_eq, List.length_set, hO, hA]
    refine hK _ (S_ ?_);clear hK K hO hA O A
    obtain ⟨L2, e2, l2⟩ : ∃ L2 : List Int, L2 = p2 L1 ((k : Int) - 3) ((k : Int) - 4) (u % 10000 / 100 * 2) ∧ L2.length = 24 := ⟨_, rfl, by simp [p2, l1]⟩
    rw [show (L1.set (1 + ((k : Int) - 3).toNat) _).set (1 + ((k : Int) - 4).toNat) _ = L2 from e2.symm]
    refine g_ [0,4,12] ?_
    refine g_ [0,4,12,139] ?_
    refine c_ (fun hc2 => ?_) fun hc2 => ?_
    ·
      refine n_ ?_
      refine wpM_regionK [0,4,12,16] rfl fun Q1 hQ1 => ?_
      simp -implicitDefEqProofs (disch := omega) only [go_sem, tmod100, u32w]
      refine hQ1 _ _ (S_ ?_);clear hQ1 Q1
      refine n_ ?_
      refine wpM_regionK [0,4,12,16] rfl fun Q1 hQ1 => ?_
      simp -implicitDefEqProofs (disch := omega) only [go_sem, tdiv100, u32w]
      refine hQ1 _ _ (S_ ?_);clear hQ1 Q1
      refine n_ ?_
      refine dr_ mixed [0,4,12] 0 1 [id] [⟨[0],[],[],[],false⟩,⟨[4],[],[],[],false⟩,⟨[146],[],[],[],false⟩,⟨[0],[],[],[],false⟩,⟨[4],[],[],[],false⟩,⟨[149],[],[],[],false⟩,⟨[16],[],[],[],false⟩,⟨[151],[],[],[],false⟩,⟨[152],[],[],[],false⟩,⟨[16],[],[],[],false⟩,⟨[154],[],[],[],false⟩,⟨[145,147],[],[],[],false⟩,⟨[153,156],[0],[0],[],false⟩,⟨[148,150],[],[],[],false⟩,⟨[155,157],[0],[0],[],false⟩] [0,1,2,3,4,5,6,7,8,9,10,11,12,13,14] [[],[],[1],[],[],[4],[],[6],[6,7],[],[9],[0,1,2,6,7,8],[0,1,2,6,7,8,11],[0,1,2,3,4,5,6,7,8,9,10,11,12],[0,1,2,3,4,5,6,7,8,9,10,11,12,13]] 1 ?_
      intro O A K hO hA hK;simp only [atL_cons,atL_nil,Nat.reduceAdd,Nat.zero_add] at hO hA
      simp -implicitDefEqProofs (disch := omega) only [go_sem, u32w, hidx, sb_eq, List.length_set, hO, hA]
      refine hK _ (S_ ?_);clear hK K hO hA O A
      first
      | (obtain ⟨L3, e3, l3⟩ : ∃ L3 : List Int, L3 = p2 L2 ((k : Int) - 4 - 1) ((k : Int) - 4 - 2) (u / 10000 % 100 * 2) ∧ L3.length = 24 := ⟨_, rfl, by simp [p2, l2]⟩
         rw [show (L2.set (1 + ((k : Int) - 4 - 1).toNat) _).set (1 + ((k : Int) - 4 - 2).toNat) _ = L3 from e3.symm])
      | (obtain ⟨L3, e3, l3⟩ : ∃ L3 : List Int, L3 = p2 L ((k : Int) - 1) ((k : Int) - 2) (u % 100 * 2) ∧ L3.length = 24 := ⟨_, rfl, by simp [p2, hL]⟩
         rw [show (L.set (1 + ((k : Int) - 1).toNat) _).set (1 + ((k : Int) - 2).toNat) _ = L3 from e3.symm])
      refine g_ [0,4,12] ?_
      refine g_ [0,12,161] ?_
      refine c_ (fun hc3 => ?_) fun hc3 => ?_
      ·
        refine wpM_regionK [] rfl fun Q1 hQ1 => ?_
        simp -implicitDefEqProofs (disch := omega) only [go_sem, u32w]
        refine hQ1 _ _ (S_ ?_);clear hQ1 Q1
        subst_vars
        have hg : g4 L k u = g4 L k u := rfl
        conv at hg =>
          rhs
          unfold g4 g2 f1
          simp only [*, ↓reduceIte]
        rw [hg] at hQ
        refine hQ _ _ (ret0n [(id, some (.cells 171 (b8 _)))] rfl rfl rfl (by rw [Tryz.results140] <;> simp (maxSteps := 1000000) -implicitDefEqProofs (disch := omega) only [go_sem] <;> rfl) rfl ?_ ?_ ?_ ?_)
        all_goals simp -implicitDefEqProofs (disch := omega) only [go_sem, true_or, or_true]
      refine n_ ?_
      subst_vars
      have hg : g4 L k u = g4 L k u := rfl
      conv at hg =>
        rhs
        unfold g4 g2 f1
        simp only [*, ↓reduceIte]
      rw [hg] at hQ
      refine hQ _ _ (ret0n [(id, some (.cells 171 (b8 _)))] rfl rfl rfl (by rw [Tryz.results140] <;> simp (maxSteps := 1000000) -implicitDefEqProofs (disch := omega) only [go_sem] <;> rfl) rfl ?_ ?_ ?_ ?_)
      all_goals simp -implicitDefEqProofs (disch := omega) only [go_sem, true_or, or_true]
    refine g_ [0,12,161] ?_
    refine c_ (fun hc4 => ?_) fun hc4 => ?_
    ·
      refine wpM_regionK [] rfl fun Q1 hQ1 => ?_
      simp -implicitDefEqProofs (disch := omega) only [go_sem, u32w]
      refine hQ1 _ _ (S_ ?_);clear hQ1 Q1
      subst_vars
      have hg : g4 L k u = g4 L k u := rfl
      conv at hg =>
        rhs
        unfold g4 g2 f1
        simp only [*, ↓reduceIte]
      rw [hg] at hQ
      refine hQ _ _ (ret0n [(id, some (.cells 171 (b8 _)))] rfl rfl rfl (by rw [Tryz.results140] <;> simp (maxSteps := 1000000) -implicitDefEqProofs (disch := omega) only [go_sem] <;> rfl) rfl ?_ ?_ ?_ ?_)
      all_goals simp -implicitDefEqProofs (disch := omega) only [go_sem, true_or, or_true]
    refine n_ ?_
    subst_vars
    have hg : g4 L k u = g4 L k u := rfl
    conv at hg =>
      rhs
      unfold g4 g2 f1
      simp only [*, ↓reduceIte]
    rw [hg] at hQ
    refine hQ _ _ (ret0n [(id, some (.cells 171 (b8 _)))] rfl rfl rfl (by rw [Tryz.results140] <;> simp (maxSteps := 1000000) -implicitDefEqProofs (disch := omega) only [go_sem] <;> rfl) rfl ?_ ?_ ?_ ?_)
    all_goals simp -implicitDefEqProofs (disch := omega) only [go_sem, true_or, or_true]
  refine g_ [0,4,12,139] ?_
  refine c_ (fun hc5 => ?_) fun hc5 => ?_
  ·
    refine n_ ?_
    refine wpM_regionK [0,4,12,16] rfl fun Q1 hQ1 => ?_
    simp -implicitDefEqProofs (disch := omega) only [go_sem, tmod100, u32w]
    refine hQ1 _ _ (S_ ?_);clear hQ1 Q1
    refine n_ ?_
    refine wpM_regionK [0,4,12,16] rfl fun Q1 hQ1 => ?_
    simp -implicitDefEqProofs (disch := omega) only [go_sem, tdiv100, u32w]
    refine hQ1 _ _ (S_ ?_);clear hQ1 Q1
    refine n_ ?_
    refine dr_ mixed [0,4,12] 0 1 [id] [⟨[0],[],[],[],false⟩,⟨[4],[],[],[],false⟩,⟨[146],[],[],[],false⟩,⟨[0],[],[],[],false⟩,⟨[4],[],[],[],false⟩,⟨[149],[],[],[],false⟩,⟨[16],[],[],[],false⟩,⟨[151],[],[],[],false⟩,⟨[152],[],[],[],false⟩,⟨[16],[],[],[],false⟩,⟨[154],[],[],[],false⟩,⟨[145,147],[],[],[],false⟩,⟨[153,156],[0],[0],[],false⟩,⟨[148,150],[],[],[],false⟩,⟨[155,157],[0],[0],[],false⟩] [0,1,2,3,4,5,6,7,8,9,10,11,12,13,14] [[],[],[1],[],[],[4],[],[6],[6,7],[],[9],[0,1,2,6,7,8],[0,1,2,6,7,8,11],[0,1,2,3,4,5,6,7,8,9,10,11,12],[0,1,2,3,4,5,6,7,8,9,10,11,12,13]] 1 ?_
    intro O A K hO hA hK;simp only [atL_cons,atL_nil,Nat.reduceAdd,Nat.zero_add] at hO hA
    simp -implicitDefEqProofs (disch := omega) only [go_sem, u32w, hidx, sb_eq, List.length_set, hO, hA]
    refine hK _ (S_ ?_);clear hK K hO hA O A
    first
    | (obtain ⟨L3, e3, l3⟩ : ∃ L3 : List Int, L3 = p2 L2 ((k : Int) - 4 - 1) ((k : Int) - 4 - 2) (u / 10000 % 100 * 2) ∧ L3.length = 24 := ⟨_, rfl, by simp [p2, l2]⟩
       rw [show (L2.set (1 + ((k : Int) - 4 - 1).toNat) _).set (1 + ((k : Int) - 4 - 2).toNat) _ = L3 from e3.symm])
    | (obtain ⟨L3, e3, l3⟩ : ∃ L3 : List Int, L3 = p2 L ((k : Int) - 1) ((k : Int) - 2) (u % 100 * 2) ∧ L3.length = 24 := ⟨_, rfl, by simp [p2, hL]⟩
       rw [show (L.set (1 + ((k : Int) - 1).toNat) _).set (1 + ((k : Int) - 2).toNat) _ = L3 from e3.symm])
    refine g_ [0,4,12] ?_
    refine g_ [0,12,161] ?_
    refine c_ (fun hc6 => ?_) fun hc6 => ?_
    ·
      refine wpM_regionK [] rfl fun Q1 hQ1 => ?_
      simp -implicitDefEqProofs (disch := omega) only [go_sem, u32w]
      refine hQ1 _ _ (S_ ?_);clear hQ1 Q1
      subst_vars
      have hg : g4 L k u = g4 L k u := rfl
      conv at hg =>
        rhs
        unfold g4 g2 f1
        simp only [*, ↓reduceIte]
      rw [hg] at hQ
      refine hQ _ _ (ret0n [(id, some (.cells 171 (b8 _)))] rfl rfl rfl (by rw [Tryz.results140] <;> simp (maxSteps := 1000000) -implicitDefEqProofs (disch := omega) only [go_sem] <;> rfl) rfl ?_ ?_ ?_ ?_)
      all_goals simp -implicitDefEqProofs (disch := omega) only [go_sem, true_or, or_true]
    refine n_ ?_
    subst_vars
    have hg : g4 L k u = g4 L k u := rfl
    conv at hg =>
      rhs
      unfold g4 g2 f1
      simp only [*, ↓reduceIte]
    rw [hg] at hQ
    refine hQ _ _ (ret0n [(id, some (.cells 171 (b8 _)))] rfl rfl rfl (by rw [Tryz.results140] <;> simp (maxSteps := 1000000) -implicitDefEqProofs (disch := omega) only [go_sem] <;> rfl) rfl ?_ ?_ ?_ ?_)
    all_goals simp -implicitDefEqProofs (disch := omega) only [go_sem, true_or, or_true]
  refine g_ [0,12,161] ?_
  refine c_ (fun hc7 => ?_) fun hc7 => ?_
  ·
    refine wpM_regionK [] rfl fun Q1 hQ1 => ?_
    simp -implicitDefEqProofs (disch := omega) only [go_sem, u32w]
    refine hQ1 _ _ (S_ ?_);clear hQ1 Q1
    subst_vars
    have hg : g4 L k u = g4 L k u := rfl
    conv at hg =>
      rhs
      unfold g4 g2 f1
      simp only [*, ↓reduceIte]
    rw [hg] at hQ
    refine hQ _ _ (ret0n [(id, some (.cells 171 (b8 _)))] rfl rfl rfl (by rw [Tryz.results140] <;> simp (maxSteps := 1000000) -implicitDefEqProofs (disch := omega) only [go_sem] <;> rfl) rfl ?_ ?_ ?_ ?_)
    all_goals simp -implicitDefEqProofs (disch := omega) only [go_sem, true_or, or_true]
  refine n_ ?_
  subst_vars
  have hg : g4 L k u = g4 L k u := rfl
  conv at hg =>
    rhs
    unfold g4 g2 f1
    simp only [*, ↓reduceIte]
  rw [hg] at hQ
  refine hQ _ _ (ret0n [(id, some (.cells 171 (b8 _)))] rfl rfl rfl (by rw [Tryz.results140] <;> simp (maxSteps := 1000000) -implicitDefEqProofs (disch := omega) only [go_sem] <;> rfl) rfl ?_ ?_ ?_ ?_)
  all_goals simp -implicitDefEqProofs (disch := omega) only [go_sem, true_or, or_true]
def zs24 : List Int := [0, 0, 0, 0, 0, 0, 0, 0, 0, 0, 0, 0, 0, 0, 0, 0, 0, 0, 0, 0, 0, 0, 0, 0]
theorem zs24_eq : [PV.int .u8 0, .int .u8 0, .int .u8 0, .int .u8 0, .int .u8 0, .int .u8 0, .int .u8 0, .int .u8 0, .int .u8 0, .int .u8 0, .int .u8 0, .int .u8 0, .int .u8 0, .int .u8 0, .int .u8 0, .int .u8 0, .int .u8 0, .int .u8 0, .int .u8 0, .int .u8 0, .int .u8 0, .int .u8 0, .int .u8 0, .int .u8 0] = b8 zs24 := rfl
def fmtS (n : Int) : ByteArray :=
  if 0 ≤ n ∧ n < 100 then smallS n
  else if n < 0 then txt ((((g4 zs24 (ndT (-n)) (-n)).set 0 45).take (1 + ndT (-n)).toNat).map fun n => UInt8.ofNat n.toNat)
  else txt ((((g4 zs24 (ndT n) n).drop 1).take (ndT n).toNat).map fun n => UInt8.ofNat n.toNat)
theorem ndT_cast (n : Int) (h0 : 0 ≤ n) (h1 : n ≤ 1000000) : ∃ k : Nat, k ≤ 7 ∧ ndT n = (k : Int) := by
  have := ndT_rng n h0 h1
  exact ⟨(ndT n).toNat, by omega, by omega⟩
theorem fmtSmall_ok (n : Int) (h0 : 0 ≤ n) (h1 : n < 100) : PureF Tryz.prog 137 [.int .i64 n, .int .i64 10] [.str (fmtS n)] := by
  refine pureF_of Tryz.func137 rfl Tryz.ntmps137 (by simp) T_ ?_
  intro f0 B Q hQ
  refine g_ [0,1] ?_
  refine g_ [0,1,11] ?_
  refine c1_ ?_
  refine gD_ [0,17] ?_
  refine c_ (fun hc1 => ?_) fun hc1 => ?_
  ·
    refine n_ ?_
    refine wpM_regionK [4] rfl fun Q1 hQ1 => ?_
    refine S_ ?_
    refine cp_ (small_ok n h0 h1) Tryz.call138 ?_
    refine hQ1 _ _ (S_ ?_);clear hQ1 Q1
    refine e_ Tryz.results137 ?_
    first
    | exact True.intro
    | rw [fmtS, if_pos ⟨h0, h1⟩]
  exfalso; simp at hc1; omega
theorem fmtPos_ok (n : Int) (h0 : 100 ≤ n) (h1 : n ≤ 1000000) : PureF Tryz.prog 137 [.int .i64 n, .int .i64 10] [.str (fmtS n)] := by
  obtain ⟨k, hk, hnd⟩ := ndT_cast n (by omega) h1
  have hg : (g4 zs24 k n).length = 24 := g4_len zs24 k n
  have hn2 := ndT_two n h0 h1
  have hz : zs24.length = 24 := rfl
  have hk1 : (1 < (1 + (k : Int)).toNat) = True := by simp; omega
  have hk2 : (1 + (k : Int)).toNat - 1 = k := by omega
  refine pureF_of Tryz.func137 rfl Tryz.ntmps137 (by simp) T_ ?_
  intro f0 B Q hQ
  refine g_ [0,1] ?_
  refine g_ [0,1,11] ?_
  refine c1_ ?_
  refine gD_ [0,17] ?_
  refine c_ (fun hc1 => ?_) fun hc1 => ?_
  · exfalso; simp at hc1; omega
  refine g_ [0,5] ?_
  rw [zs24_eq]
  refine n_ ?_
  refine wpM_regionK [0,5,6] rfl fun Q1 hQ1 => ?_
  simp -implicitDefEqProofs (disch := omega) only [go_sem, u64w]
  refine hQ1 _ _ (S_ ?_);clear hQ1 Q1
  refine g_ [0,5,6,23] ?_
  refine c_ (fun hc2 => ?_) fun hc2 => ?_
  · exfalso; omega
  refine n_ ?_
  refine wpM_regionK [0,5,6,7] rfl fun Q1 hQ1 => ?_
  refine S_ ?_
  refine cp_ (numDigits_ok n (by omega) h1) Tryz.call139 ?_
  refine hQ1 _ _ (S_ ?_);clear hQ1 Q1
  rw [hnd]
  refine n_ ?_
  refine wpM_regionK [0,5,7] rfl fun Q1 hQ1 => ?_
  simp -implicitDefEqProofs (disch := omega) only [go_sem, hz, hk1, hk2]
  refine call_fn (l := [(B, .cells 171 (b8 zs24))]) (first := []) (cap := []) (ps := [.sl 5 B 1 k, .int .u64 n]) (fmt_ok B zs24 k n (by omega) h1 hk rfl) Tryz.call140 rfl rfl rfl G_ T_ ?_
  rintro out rfl
  simp -implicitDefEqProofs (disch := omega) only [go_sem, hz, hk1, hk2]
  refine hQ1 _ _ (S_ ?_);clear hQ1 Q1
  refine g_ [5,7,34] ?_
  refine c_ (fun hc3 => ?_) fun hc3 => ?_
  · exfalso; omega
  refine n_ ?_
  refine wpM_regionK [4] rfl fun Q1 hQ1 => ?_
  simp -implicitDefEqProofs (disch := omega) only [go_sem, hg, hk1, hk2]
  refine hQ1 _ _ (S_ ?_);clear hQ1 Q1
  refine e_ Tryz.results137 ?_
  first
  | exact True.intro
  | rw [fmtS, if_neg (by omega), if_neg (by omega), hnd, Int.toNat_natCast]
theorem fmtNeg_ok (n : Int) (h0 : n < 0) (h1 : -1000000 ≤ n) (hp : 0 < ndT (-n)) : PureF Tryz.prog 137 [.int .i64 n, .int .i64 10] [.str (fmtS n)] := by
  obtain ⟨k, hk, hnd⟩ := ndT_cast (-n) (by omega) (by omega)
  have hg : ((g4 zs24 k (-n)).set 0 45).length = 24 := by rw [List.length_set]; exact g4_len zs24 k (-n)
  have hg' : (g4 zs24 k (-n)).length = 24 := g4_len zs24 k (-n)
  have hz : zs24.length = 24 := rfl
  have hk1 : (1 < (1 + (k : Int)).toNat) = True := by simp; omega
  have hk2 : (1 + (k : Int)).toNat - 1 = k := by omega
  have hw : IntKind.u64.wrap n = n + 18446744073709551616 := by
    show n % 18446744073709551616 = _
    omega
  have hw2 : IntKind.u64.wrap (0 - (n + 18446744073709551616)) = -n := by
    show (0 - (n + 18446744073709551616)) % 18446744073709551616 = _
    omega
  refine pureF_of Tryz.func137 rfl Tryz.ntmps137 (by simp) T_ ?_
  intro f0 B Q hQ
  refine g_ [0,1] ?_
  refine g_ [0,1,11] ?_
  refine c1_ ?_
  refine gD_ [0,17] ?_
  refine c_ (fun hc1 => ?_) fun hc1 => ?_
  · exfalso; simp at hc1; omega
  refine g_ [0,5] ?_
  rw [zs24_eq]
  refine n_ ?_
  refine wpM_regionK [0,5,6] rfl fun Q1 hQ1 => ?_
  simp -implicitDefEqProofs (disch := omega) only [go_sem, hw]
  refine hQ1 _ _ (S_ ?_);clear hQ1 Q1
  refine g_ [0,5,6,23] ?_
  refine c_ (fun hc2 => ?_) fun hc2 => ?_
  ·
    refine wpM_regionK [0,5,6] rfl fun Q1 hQ1 => ?_
    simp -implicitDefEqProofs (disch := omega) only [go_sem, hw2]
    refine hQ1 _ _ (S_ ?_);clear hQ1 Q1
    refine n_ ?_
    refine wpM_regionK [0,5,6,7] rfl fun Q1 hQ1 => ?_
    refine S_ ?_
    refine cp_ (numDigits_ok (-n) (by omega) (by omega)) Tryz.call139 ?_
    refine hQ1 _ _ (S_ ?_);clear hQ1 Q1
    rw [hnd]
    refine n_ ?_
    refine wpM_regionK [0,5,7] rfl fun Q1 hQ1 => ?_
    simp -implicitDefEqProofs (disch := omega) only [go_sem, hz, hk1, hk2]
    refine call_fn (l := [(B, .cells 171 (b8 zs24))]) (first := []) (cap := []) (ps := [.sl 5 B 1 k, .int .u64 (-n)]) (fmt_ok B zs24 k (-n) (by omega) (by omega) hk rfl) Tryz.call140 rfl rfl rfl G_ T_ ?_
    rintro out rfl
    simp -implicitDefEqProofs (disch := omega) only [go_sem, hz, hk1, hk2]
    refine hQ1 _ _ (S_ ?_);clear hQ1 Q1
    refine g_ [5,7,34] ?_
    refine c_ (fun hc3 => ?_) fun hc3 => ?_
    ·
      refine n_ ?_
      refine wpM_regionK [5,7] rfl fun Q1 hQ1 => ?_
      simp -implicitDefEqProofs (disch := omega) only [go_sem, hg']
      refine hQ1 _ _ (S_ ?_);clear hQ1 Q1
      refine n_ ?_
      refine wpM_regionK [4] rfl fun Q1 hQ1 => ?_
      simp -implicitDefEqProofs (disch := omega) only [go_sem, hg]
      refine hQ1 _ _ (S_ ?_);clear hQ1 Q1
      refine e_ Tryz.results137 ?_
      first
      | exact True.intro
      | rw [fmtS, if_neg (by omega), if_pos h0, hnd]
    exfalso; omega
  exfalso; omega
theorem fmt0_ok (u : Int) (h0 : 0 ≤ u) (h1 : u ≤ 1000000) : PureF Tryz.prog 140 [.rows 5 [], .int .u64 u] [] := by
  refine pureF_of Tryz.func140 rfl Tryz.ntmps140 (by simp) T_ ?_
  intro f0 B Q hQ
  refine g_ [0,1,4] ?_
  refine n_ ?_
  refine wpM_loopS (fun s r s' => s' = s) (0) ?_ ?_
  ·
    refine .of' _ _ rfl ?_ ?_ ?_
    all_goals exact L_
  rintro r s' rfl
  try refine S_ ?_
  refine g_ [0,1,4,20] ?_
  refine c_ (fun hc0 => ?_) fun hc0 => ?_
  · exfalso; omega
  refine n_ ?_
  refine wpM_regionK [0,4,12] rfl fun Q1 hQ1 => ?_
  simp -implicitDefEqProofs (disch := omega) only [go_sem, u32w]
  refine hQ1 _ _ (S_ ?_);clear hQ1 Q1
  refine g_ [0,4,12,99] ?_
  refine c_ (fun hc1 => ?_) fun hc1 => ?_
  · exfalso; omega
  refine g_ [0,4,12,139] ?_
  refine c_ (fun hc2 => ?_) fun hc2 => ?_
  · exfalso; omega
  refine g_ [0,12,161] ?_
  refine c_ (fun hc3 => ?_) fun hc3 => ?_
  · exfalso; omega
  exact e_ Tryz.results140 True.intro
theorem fmtNeg0_ok (n : Int) (h0 : n < 0) (h1 : -1000000 ≤ n) (hp : ndT (-n) = 0) : PureF Tryz.prog 137 [.int .i64 n, .int .i64 10] [.str (fmtS n)] := by
  have hg : (zs24.set 0 45).length = 24 := rfl
  have hz : zs24.length = 24 := rfl
  have hw : IntKind.u64.wrap n = n + 18446744073709551616 := by
    show n % 18446744073709551616 = _
    omega
  have hw2 : IntKind.u64.wrap (0 - (n + 18446744073709551616)) = -n := by
    show (0 - (n + 18446744073709551616)) % 18446744073709551616 = _
    omega
  refine pureF_of Tryz.func137 rfl Tryz.ntmps137 (by simp) T_ ?_
  intro f0 B Q hQ
  refine g_ [0,1] ?_
  refine g_ [0,1,11] ?_
  refine c1_ ?_
  refine gD_ [0,17] ?_
  refine c_ (fun hc1 => ?_) fun hc1 => ?_
  · exfalso; simp at hc1; omega
  refine g_ [0,5] ?_
  rw [zs24_eq]
  refine n_ ?_
  refine wpM_regionK [0,5,6] rfl fun Q1 hQ1 => ?_
  simp -implicitDefEqProofs (disch := omega) only [go_sem, hw]
  refine hQ1 _ _ (S_ ?_);clear hQ1 Q1
  refine g_ [0,5,6,23] ?_
  refine c_ (fun hc2 => ?_) fun hc2 => ?_
  ·
    refine wpM_regionK [0,5,6] rfl fun Q1 hQ1 => ?_
    simp -implicitDefEqProofs (disch := omega) only [go_sem, hw2]
    refine hQ1 _ _ (S_ ?_);clear hQ1 Q1
    refine n_ ?_
    refine wpM_regionK [0,5,6,7] rfl fun Q1 hQ1 => ?_
    refine S_ ?_
    refine cp_ (numDigits_ok (-n) (by omega) (by omega)) Tryz.call139 ?_
    refine hQ1 _ _ (S_ ?_);clear hQ1 Q1
    rw [hp]
    refine n_ ?_
    refine wpM_regionK [0,5,7] rfl fun Q1 hQ1 => ?_
    simp -implicitDefEqProofs (disch := omega) only [go_sem, hz]
    refine call_p (fmt0_ok (-n) (by omega) (by omega)) Tryz.call140 rfl rfl rfl (by first | rfl | (simp -implicitDefEqProofs (disch := omega) only [go_sem] <;> rfl)) ?_
    simp -implicitDefEqProofs (disch := omega) only [go_sem, hz]
    refine hQ1 _ _ (S_ ?_);clear hQ1 Q1
    refine g_ [5,7,34] ?_
    refine c_ (fun hc3 => ?_) fun hc3 => ?_
    ·
      refine n_ ?_
      refine wpM_regionK [5,7] rfl fun Q1 hQ1 => ?_
      simp -implicitDefEqProofs (disch := omega) only [go_sem, hz]
      refine hQ1 _ _ (S_ ?_);clear hQ1 Q1
      refine n_ ?_
      refine wpM_regionK [4] rfl fun Q1 hQ1 => ?_
      simp -implicitDefEqProofs (disch := omega) only [go_sem, hg]
      refine hQ1 _ _ (S_ ?_);clear hQ1 Q1
      refine e_ Tryz.results137 ?_
      first
      | exact True.intro
      | have e : g4 zs24 0 (-n) = zs24 := by unfold g4 g2; simp
        rw [fmtS, if_neg (by omega), if_pos h0, hp, e]
        rfl
    exfalso; omega
  exfalso; omega
theorem txt_size (l : List UInt8) : (txt l).size = l.length := by simp [txt, ByteArray.size]
theorem fmtS_size (n : Int) : (fmtS n).size ≤ 24 := by
  unfold fmtS
  split
  · rename_i h
    have := smallS_size n h.1
    omega
  · split
    · rw [txt_size]
      have : ((g4 zs24 (ndT (-n)) (-n)).set 0 45).length = 24 := by rw [List.length_set]; exact g4_len zs24 _ _
      simp only [List.length_map, List.length_take, List.length_drop]; omega
    · rw [txt_size]
      have : (g4 zs24 (ndT n) n).length = 24 := g4_len zs24 _ _
      simp only [List.length_map, List.length_take, List.length_drop]; omega
theorem fmtInt_ok (n : Int) (h0 : -1000000 ≤ n) (h1 : n ≤ 1000000) : PureF Tryz.prog 137 [.int .i64 n, .int .i64 10] [.str (fmtS n)] := by
  by_cases a : n < 0
  · have := ndT_rng (-n) (by omega) (by omega)
    by_cases b : ndT (-n) = 0
    · exact fmtNeg0_ok n a h0 b
    · exact fmtNeg_ok n a h0 (by omega)
  · by_cases b : n < 100
    · exact fmtSmall_ok n (by omega) b
    · exact fmtPos_ok n (by omega) h1
theorem itoaI_ok (n : Int) (h0 : -1000000 ≤ n) (h1 : n ≤ 1000000) : PureF Tryz.prog 136 [.int .i64 n] [.str (fmtS n)] := by
  refine pureF_of Tryz.func136 rfl Tryz.ntmps136 (by simp) T_ ?_
  intro f0 B Q hQ
  refine g_ [0] ?_
  refine n_ ?_
  refine wpM_regionK [2] rfl fun Q1 hQ1 => ?_
  refine S_ ?_
  refine cp_ (fmtInt_ok n h0 h1) Tryz.call137 ?_
  refine hQ1 _ _ (S_ ?_);clear hQ1 Q1
  exact e_ Tryz.results136 True.intro
theorem itoa_ok (n : Int) (h0 : -1000000 ≤ n) (h1 : n ≤ 1000000) : PureF Tryz.prog 135 [.int .i64 n] [.str (fmtS n)] := by
  refine pureF_of Tryz.func135 rfl Tryz.ntmps135 (by simp) T_ ?_
  intro f0 B Q hQ
  refine g_ [0] ?_
  refine n_ ?_
  refine wpM_regionK [2] rfl fun Q1 hQ1 => ?_
  refine S_ ?_
  refine cp_ (itoaI_ok n h0 h1) Tryz.call136 ?_
  refine hQ1 _ _ (S_ ?_);clear hQ1 Q1
  exact e_ Tryz.results135 True.intro
end Go.Proofs.YtmicbfojofcigaaGreat
namespace Go.Proofs.YtmicbfojofcigaaGreat
open Go Sg
set_option maxRecDepth 100000
set_option linter.unusedSimpArgs false
set_option linter.unusedVariables false
set_option linter.unusedSectionVars false
set_option maxHeartbeats 4000000
variable [Tab]
def strC (l : List ByteArray) : List PV := l.map .str
def strR (l : List ByteArray) : List (List PV) := l.map fun s => [.str s]
@[go_sem] theorem strC_len (l : List ByteArray) : (strC l).length = l.length := by simp [strC]
@[go_sem] theorem strR_len (l : List ByteArray) : (strR l).length = l.length := by simp [strR]
@[go_sem] theorem strR_flat (l : List ByteArray) : (strR l).flatten = strC l := by
  induction l with
  | nil => rfl
  | cons x l ih => simp only [strR, strC, List.map_cons, List.flatten_cons] at ih ⊢; rw [ih]; rfl
@[go_sem] theorem strR_get (l : List ByteArray) (k : Nat) (h : k < l.length) : (strR l).getD k [] = [.str (l.getD k default)] := by simp [strR, List.getD, h]
@[go_sem] theorem idsL_str (p : Nat → Prop) (l : List ByteArray) : PV.idsL p (strC l) = True := by
  induction l with
  | nil => simp [strC, PV.idsL]
  | cons x l ih => simp only [strC, List.map_cons, PV.idsL, PV.ids, true_and] at ih ⊢; exact ih
@[go_sem] theorem renL_str (p : Nat → Nat) (l : List ByteArray) : PV.renL p (strC l) = strC l := by
  induction l with
  | nil => rfl
  | cons x l ih => simp only [strC, List.map_cons, PV.renL, PV.ren] at ih ⊢; rw [ih]
@[go_sem] theorem str_cell (l : List ByteArray) : (strC l).all PV.cell = true := by
  induction l with
  | nil => rfl
  | cons x l ih => simp only [strC, List.map_cons, List.all_cons, PV.cell, Bool.true_and] at ih ⊢; exact ih
@[go_sem] theorem strC_app (l : List ByteArray) (x : ByteArray) : strC l ++ [.str x] = strC (l ++ [x]) := by simp [strC]
theorem rowsOf_str {f : Nat → Option AObj} {id n : Nat} {T : TypeId} {l : List ByteArray} (h : f id = some (.cells T (strC l))) (hn : l.length = n) : RowsOf Tryz.prog f 9 id 0 n (strR l) := by
  subst hn
  refine ⟨by rw [cellsOf9]; omega, by simp [strR], ?_, T, _, h, ?_, ?_⟩
  · intro c hc
    simp only [strR, List.mem_map] at hc
    obtain ⟨x, _, rfl⟩ := hc
    rw [cellsOf9]; exact ⟨rfl, rfl⟩
  · rw [cellsOf9]; simp [strC]
  · rw [cellsOf9, strR_flat]; simp [strC, List.take_of_length_le]
def letS (k : Int) : ByteArray := ByteArray.extract ⟨#[32, 105, 111, 118]⟩ k.toNat (k + 1).toNat
theorem letS_size (k : Int) (h : 1 ≤ k ∧ k ≤ 3) : (letS k).size ≤ 4 := by
  simp [letS]; omega
theorem letter_ok (a : AD) (h : a.ok = true) : PureF Tryz.prog 128 [.agg a.cs] [.str (letS a.kind)] := by
  have hk : 1 ≤ a.kind ∧ a.kind ≤ 3 ∧ 0 ≤ a.at' ∧ a.at' < 6 := by simp only [AD.ok, Bool.and_eq_true, decide_eq_true_eq] at h; omega
  have h4 : (⟨#[32, 105, 111, 118]⟩ : ByteArray).size = 4 := rfl
  refine pureF_of Tryz.func128 rfl Tryz.ntmps128 (by simp) T_ ?_
  intro f0 B Q hQ
  refine g_ [1] ?_
  refine n_ ?_
  refine wpM_regionK [2] rfl fun Q1 hQ1 => ?_
  simp -implicitDefEqProofs (disch := omega) only [go_sem, h4]
  refine hQ1 _ _ (S_ ?_);clear hQ1 Q1
  refine e_ Tryz.results128 ?_
  first
  | exact True.intro
  | rfl
def adrS (a : AD) : ByteArray := letS a.kind ++ fmtS a.at'
theorem add_str (x y : ByteArray) (h : x.size + y.size ≤ 1000000) : strOpA .add x y = some (.str (x ++ y)) := by
  simp only [strOpA]
  rw [if_pos (by omega)]
theorem bin_adds {P : Program} (t : TypeId) (x y : Operand) (a c : ByteArray) (h : a.size + c.size ≤ 1000000) : binOpA P .add t x y (.str a) (.str c) = some (.str (a ++ c)) := by
  simp only [binOpA]; exact add_str a c h
theorem addrText_ok (a : AD) (h : a.ok = true) : PureF Tryz.prog 154 [.agg a.cs] [.str (adrS a)] := by
  have hk : 1 ≤ a.kind ∧ a.kind ≤ 3 ∧ 0 ≤ a.at' ∧ a.at' < 6 := by simp only [AD.ok, Bool.and_eq_true, decide_eq_true_eq] at h; omega
  have h1 := letS_size a.kind ⟨hk.1, hk.2.1⟩
  have h2 := fmtS_size a.at'
  refine pureF_of Tryz.func154 rfl Tryz.ntmps154 (by simp) T_ ?_
  intro f0 B Q hQ
  refine g_ [1] ?_
  refine n_ ?_
  refine wpM_regionK [1,5] rfl fun Q1 hQ1 => ?_
  refine S_ ?_
  refine call_p (iaddrOk_ok a) Tryz.call96 rfl rfl rfl (by first | rfl | (simp -implicitDefEqProofs (disch := omega) only [go_sem] <;> rfl)) ?_
  simp -implicitDefEqProofs (disch := omega) only [go_sem, h]
  refine hQ1 _ _ (S_ ?_);clear hQ1 Q1
  refine c1_ ?_
  refine n_ ?_
  refine dr_ mixed [2] 0 1 [B] [⟨[1],[0],[],[],false⟩,⟨[6],[],[],[],true⟩,⟨[1],[],[],[],false⟩,⟨[8],[0],[],[],false⟩,⟨[9],[],[],[],true⟩,⟨[7,10],[],[],[],false⟩,⟨[11],[],[],[],false⟩] [0,2,3,1,4,5,6] [[],[0],[],[2],[0,1,2,3],[0,1,2,3,4],[0,1,2,3,4,5]] 1 ?_
  intro O A K hO hA hK;simp only [atL_cons,atL_nil,Nat.reduceAdd,Nat.zero_add] at hO hA
  simp -implicitDefEqProofs (disch := omega) only [go_sem, bin_adds, hO, hA]
  refine loud_p (letter_ok a h) Tryz.call128 rfl rfl (by first | rfl | (simp -implicitDefEqProofs (disch := omega) only [go_sem] <;> rfl)) rfl ?_
  simp -implicitDefEqProofs (disch := omega) only [go_sem, bin_adds, hO, hA]
  refine loud_p (itoa_ok a.at' (by omega) (by omega)) Tryz.call135 rfl rfl (by first | rfl | (simp -implicitDefEqProofs (disch := omega) only [go_sem] <;> rfl)) rfl ?_
  simp -implicitDefEqProofs (disch := omega) only [go_sem, bin_adds, hO, hA]
  refine hK _ (S_ ?_);clear hK K hO hA O A
  refine e_ Tryz.results154 ?_
  first
  | exact True.intro
  | rfl
theorem word1_ok (e : Ex) (h : isNum e.n = true) : PureF Tryz.prog 134 [.agg [], .agg e.cs] [.str (fmtS e.n)] := by
  have hn : -1000000 ≤ e.n ∧ e.n ≤ 1000000 := by simp [isNum] at h; omega
  refine pureF_of Tryz.func134 rfl Tryz.ntmps134 (by simp) T_ ?_
  intro f0 B Q hQ
  refine g_ [3] ?_
  refine n_ ?_
  refine wpM_regionK [4] rfl fun Q1 hQ1 => ?_
  refine S_ ?_
  refine cp_ (itoa_ok e.n hn.1 hn.2) Tryz.call135 ?_
  refine hQ1 _ _ (S_ ?_);clear hQ1 Q1
  exact e_ Tryz.results134 True.intro
theorem word2_ok (e : Ex) (h : e.a.ok = true) : PureF Tryz.prog 152 [.agg [], .agg e.cs] [.str (adrS e.a)] := by
  refine pureF_of Tryz.func152 rfl Tryz.ntmps152 (by simp) T_ ?_
  intro f0 B Q hQ
  refine g_ [3] ?_
  refine n_ ?_
  refine wpM_regionK [4] rfl fun Q1 hQ1 => ?_
  refine S_ ?_
  refine cp_ (addrText_ok e.a h) Tryz.call154 ?_
  refine hQ1 _ _ (S_ ?_);clear hQ1 Q1
  exact e_ Tryz.results152 True.intro
def notS : ByteArray := ⟨#[110, 111, 116]⟩
theorem word4_ok (e : Ex) : PureF Tryz.prog 172 [.agg [], .agg e.cs] [.str notS] := by
  refine pureF_of Tryz.func172 rfl Tryz.ntmps172 (by simp) T_ ?_
  intro f0 B Q hQ
  refine g_ [] ?_
  refine g_ [4] ?_
  refine e_ Tryz.results172 ?_
  first
  | exact True.intro
  | rfl
def twoL : List ByteArray := [⟨#[]⟩, ⟨#[]⟩, ⟨#[]⟩, ⟨#[97, 100, 100]⟩, ⟨#[115, 117, 98]⟩, ⟨#[109, 117, 108]⟩, ⟨#[108, 101, 115, 115]⟩, ⟨#[115, 97, 109, 101]⟩, ⟨#[97, 110, 100]⟩, ⟨#[111, 114]⟩]
theorem twoWords_ok : PureF Tryz.prog 161 [] [.rows 9 (strR twoL)] := by
  refine pureF_of Tryz.func161 rfl Tryz.ntmps161 (by simp) T_ ?_
  intro f0 B Q hQ
  have hr : rep 10 [PV.str ⟨#[]⟩] = [.str ⟨#[]⟩, .str ⟨#[]⟩, .str ⟨#[]⟩, .str ⟨#[]⟩, .str ⟨#[]⟩, .str ⟨#[]⟩, .str ⟨#[]⟩, .str ⟨#[]⟩, .str ⟨#[]⟩, .str ⟨#[]⟩] := rfl
  refine g_ [] ?_
  refine n_ ?_
  refine wpM_regionK [0] rfl fun Q1 hQ1 => ?_
  simp -implicitDefEqProofs (disch := omega) only [go_sem, hr, splice, List.take_succ_cons, List.take_zero, List.drop_succ_cons, List.drop_zero, List.cons_append, List.nil_append, List.length_cons, List.length_nil]
  refine hQ1 _ _ (S_ ?_);clear hQ1 Q1
  rw [show [PV.str ⟨#[]⟩, .str ⟨#[]⟩, .str ⟨#[]⟩, .str ⟨#[97, 100, 100]⟩, .str ⟨#[115, 117, 98]⟩, .str ⟨#[109, 117, 108]⟩, .str ⟨#[108, 101, 115, 115]⟩, .str ⟨#[115, 97, 109, 101]⟩, .str ⟨#[97, 110, 100]⟩, .str ⟨#[111, 114]⟩] = strC twoL from rfl]
  refine wpM_frz [B] [(9, B, 0, 10, strR twoL)] (by intro q hq; simp at hq; subst hq; simp -implicitDefEqProofs (disch := omega) only [go_sem]) (by intro q hq; simp only [List.mem_cons, List.not_mem_nil, or_false] at hq; subst hq; exact ⟨by simp, rowsOf_str (T := 9) T_ rfl⟩) ?_
  refine S_ ?_
  exact e_ Tryz.results161 True.intro
theorem word3_ok (e : Ex) (h : isTwo e.kind = true) : PureF Tryz.prog 159 [.agg [], .agg e.cs] [.str (twoL.getD e.kind.toNat default)] := by
  have hk : 3 ≤ e.kind ∧ e.kind ≤ 9 := by simp [isTwo] at h; omega
  refine pureF_of Tryz.func159 rfl Tryz.ntmps159 (by simp) T_ ?_
  intro f0 B Q hQ
  have h10 : twoL.length = 10 := rfl
  refine g_ [3] ?_
  refine n_ ?_
  refine dr_ mixed [4] 0 1 [B + 1] [⟨[],[],[],[],true⟩,⟨[3],[],[],[],false⟩,⟨[6],[0],[],[],false⟩,⟨[5,7],[],[],[],false⟩,⟨[8],[],[],[],false⟩,⟨[9],[],[],[],false⟩] [1,2,0,3,4,5] [[],[],[1],[0,1,2],[0,1,2,3],[0,1,2,3,4]] 1 ?_
  intro O A K hO hA hK;simp only [atL_cons,atL_nil,Nat.reduceAdd,Nat.zero_add] at hO hA
  simp -implicitDefEqProofs (disch := omega) only [go_sem, h10, hO, hA]
  refine loud_p (twoWords_ok) Tryz.call161 rfl rfl (by first | rfl | (simp -implicitDefEqProofs (disch := omega) only [go_sem] <;> rfl)) rfl ?_
  simp -implicitDefEqProofs (disch := omega) only [go_sem, h10, hO, hA]
  refine hK _ (S_ ?_);clear hK K hO hA O A
  refine e_ Tryz.results159 ?_
  first
  | exact True.intro
  | rfl
end Go.Proofs.YtmicbfojofcigaaGreat
namespace Go.Proofs.YtmicbfojofcigaaGreat
open Go Sg
set_option maxRecDepth 100000
set_option linter.unusedSimpArgs false
set_option linter.unusedVariables false
set_option linter.unusedSectionVars false
set_option maxHeartbeats 4000000
variable [Tab]
def wordS (e : Ex) : ByteArray := if e.kind == 1 then fmtS e.n else if e.kind == 2 then adrS e.a else if isTwo e.kind then twoL.getD e.kind.toNat default else notS
mutual
def wsE : Ex → List ByteArray
  | .mk k n a l => wordS (.mk k n a l) :: wsL l
def wsL : List Ex → List ByteArray
  | [] => []
  | e :: l => wsE e ++ wsL l
end
theorem wsE_eq (e : Ex) : wsE e = wordS e :: wsL e.kids := by cases e; rfl
theorem wsL_app (l l' : List Ex) : wsL (l ++ l') = wsL l ++ wsL l' := by
  induction l with
  | nil => rfl
  | cons x l ih => simp only [List.cons_append, wsL, ih, List.append_assoc]
theorem wsL_take (l : List Ex) (i : Nat) (h : i < l.length) : wsL (l.take (i + 1)) = wsL (l.take i) ++ wsE (l.getD i default) := by
  rw [List.take_succ_eq_append_getElem h, wsL_app]
  simp [wsL, List.getD, h]
theorem rec_word (e : Ex) (hn : recNil e.kind = false) (hs : shapeR e = true) : ∃ t fk, recOf e.kind = .iface t (.agg []) ∧
    (∀ args w, (callFunc fk args).run Tryz.prog w = .ok (.enter fk args) w) ∧ (∀ (v : Value) w, (method (Tryz.prog.types.size + Made.depth) t v "loop.example/stopgate/impl.word").run Tryz.prog w = .ok (fk, v) w) ∧ PureF Tryz.prog fk [.agg [], .agg e.cs] [.str (wordS e)] := by
  by_cases h1 : e.kind = 1
  · refine ⟨95, 134, by simp [recOf, h1], Tryz.call134, method_run info95 Tryz.underlying95 (by simp) (by rfl) rfl rfl, ?_⟩
    rw [show wordS e = fmtS e.n by simp [wordS, h1]]
    exact word1_ok e (by simp [shapeR, h1] at hs; exact hs.1)
  by_cases h2 : e.kind = 2
  · refine ⟨96, 152, by simp [recOf, h2], Tryz.call152, method_run info96 Tryz.underlying96 (by simp) (by rfl) rfl rfl, ?_⟩
    rw [show wordS e = adrS e.a by simp [wordS, h2]]
    exact word2_ok e (by simp [shapeR, h2] at hs; exact hs.1)
  by_cases h3 : isTwo e.kind = true
  · refine ⟨97, 159, by simp [recOf, h1, h2, h3], Tryz.call159, method_run info97 Tryz.underlying97 (by simp) (by rfl) rfl rfl, ?_⟩
    rw [show wordS e = twoL.getD e.kind.toNat default by simp [wordS, h1, h2, h3]]
    exact word3_ok e h3
  have h10 : e.kind = 10 := by
    simp only [Bool.not_eq_true] at h3
    simpa [recNil, h1, h2, h3] using hn
  refine ⟨98, 172, by simp [recOf, h10]; decide, Tryz.call172, method_run info98 Tryz.underlying98 (by simp) (by rfl) rfl rfl, ?_⟩
  rw [show wordS e = notS by simp [wordS, h10]; decide]
  exact word4_ok e
def wdRec (x b d fn : Nat) (fv : PV) (asg body : Code) (st : LoopState) (pe : Option Code) : AObj := .loop b d st pe fn 19 [(3, .ptr (x + 1) 0), (7, fv)] #[8, 9] asg body
@[go_sem] theorem wdRec_eq (x b d fn : Nat) (fv : PV) (asg body : Code) (st : LoopState) (pe : Option Code) : wdRec x b d fn fv asg body st pe = .loop b d st pe fn 19 [(3, .ptr (x + 1) 0), (7, fv)] #[8, 9] asg body := rfl
def wdSt (x : Nat) (rc : AObj) (b n y : Nat) (ws : List ByteArray) : List (Nat × AObj) :=
  [(x + 7, .cells 3 [.int .i64 (n : Int)]), (x + 5, rc), (y, .cells 9 (strC ws)), (x + 1, .cells 62 [.sl 9 y 0 ws.length]),
   (x + 6, .cells 93 [.fn (.yield b) [] []]), (x + 8, .cells 52 [.fn (.func 57) [] [.ptr (x + 7) 0, .ptr (x + 6) 0, .ptr (x + 8) 0]])]
@[go_sem] theorem wdSt_eq (x : Nat) (rc : AObj) (b n y : Nat) (ws : List ByteArray) : wdSt x rc b n y ws = [(x + 7, .cells 3 [.int .i64 (n : Int)]), (x + 5, rc), (y, .cells 9 (strC ws)), (x + 1, .cells 62 [.sl 9 y 0 ws.length]),
   (x + 6, .cells 93 [.fn (.yield b) [] []]), (x + 8, .cells 52 [.fn (.func 57) [] [.ptr (x + 7) 0, .ptr (x + 6) 0, .ptr (x + 8) 0]])] := rfl
def wdQ (x b d fn : Nat) (fv : PV) (asg body : Code) (e : Ex) (deep cnt : Nat) (ws : List ByteArray) (f0 : Nat → Option AObj) (B : Nat) (ex : ExitA) (s : MS) : Prop :=
  ex = .ret ∧ ∃ cnt' y' M' ws', vis e deep cnt = some cnt' ∧ cnt' ≤ 14 ∧ B ≤ y' ∧ y' < M' ∧ B ≤ M' ∧ ws' = ws ++ wsE e ∧ ws'.length = cnt' ∧ s = ⟨[(7, .bool true)], wdSt x (wdRec x b d fn fv asg body .ready none) b cnt' y' ws', f0, B, M', []⟩
theorem walkW_ok (x b d fn : Nat) (fv : PV) (asg body c : Code) (hcode : Tryz.f32.body.map rfs = some [(asg, body)]) (hc : Tryz.f57.body = some c) : ∀ (N : Nat) (e : Ex), e.sz ≤ N → e.sz ≤ 1099511627776 →
    ∀ (deep cnt y : Nat) (ws : List ByteArray) (dI : Int) (f0 : Nat → Option AObj) (B : Nat), dI = (deep : Int) → x + 9 ≤ B → (y = x + 2 ∨ x + 9 ≤ y) → y < B → f0 y = none → deep ≤ 6 → cnt ≤ 14 → ws.length = cnt → (vis e deep cnt).isSome = true →
      wpM Tryz.prog none 39 c ⟨envOf 0 [.agg e.cs, .int .i64 dI, .ptr (x + 7) 0, .ptr (x + 6) 0, .ptr (x + 8) 0], wdSt x (wdRec x b d fn fv asg body .ready none) b cnt y ws, f0, B, B, []⟩ (wdQ x b d fn fv asg body e deep cnt ws f0 B) := by
  have hcode' := Option.some.inj hcode
  simp only [rfs, List.nil_append, List.append_nil, List.cons.injEq, Prod.mk.injEq, and_true] at hcode'
  obtain ⟨hasg, hbody⟩ := hcode'
  obtain rfl : _ = c := Option.some.inj hc
  intro N
  induction N with
  | zero => intro e h; have := e.sz_pos; omega
  | succ N ih =>
    intro e hN hs deep cnt y ws dI f0 B hdI hB hy hyB hfy hd hcn hws hvis
    have hlen := e.kids_len
    have hbad : badE ((cnt : Int) + 1) (deep : Int) e = false := by
      rw [vis_eq] at hvis
      cases h : badE ((cnt : Int) + 1) (deep : Int) e with
      | false => rfl
      | true => rw [h] at hvis; simp at hvis
    have hvk : (visL e.kids (deep + 1) (cnt + 1)).isSome = true := by rw [vis_eq, hbad] at hvis; simpa using hvis
    have hb2 := hbad
    simp only [badE, Bool.or_eq_false_iff] at hb2
    obtain ⟨⟨⟨⟨hg1, hg2⟩, hrn⟩, _⟩, hsh⟩ := hb2
    have hsh' : shapeR e = true := by simpa using hsh
    have hg2' : deep < 6 := by simp at hg2; omega
    have hg1' : cnt + 1 ≤ 14 := by simp at hg1; omega
    obtain ⟨rt, fk, hr, q1, q2, q3⟩ := rec_word e hrn hsh'
    have hdel : okDel B f0 [(y, none)] = True := by simp [okDel, hfy]
    rw [← hdI] at hg2
    refine wpM_wk ?_
    refine g_ [1,2,3,4,5] ?_
    refine g_ [1,2,3,4,5] ?_
    refine n_ ?_
    refine wpM_regionK [1,4,5,24] rfl fun Q1 hQ1 => ?_
    refine S_ ?_
    refine OpM_roundK (x + 5) rfl rfl rfl rfl (by simp -implicitDefEqProofs (disch := omega) only [go_sem]; rfl) rfl rfl ?_
    intro K' hK'
    refine wpM_code hasg ?_
    simp -implicitDefEqProofs (disch := omega) only [go_sem]
    refine g_ [3,5] ?_
    refine ⟨d, none, fn, 19, [(3, .ptr (x + 1) 0), (7, fv)], #[8, 9], asg, body, rfl, ?_⟩
    refine wpM_code hbody ?_
    refine n_ ?_
    refine dr_ mixed [] 2 3 [x + 1, B + 1, y, B + 2, B + 3] [⟨[3],[0],[],[],false⟩,⟨[5],[],[],[],false⟩,⟨[11],[1],[],[],false⟩,⟨[12],[],[],[],true⟩,⟨[5],[1],[],[],false⟩,⟨[13,14],[],[],[],true⟩,⟨[15],[],[],[3],false⟩,⟨[10,16],[2,3],[2],[4],false⟩,⟨[3,17],[0],[0],[],false⟩] [0,1,2,4,3,5,6,7,8] [[],[],[1],[1,2],[],[1,2,3,4],[1,2,3,4,5],[0,1,2,3,4,5,6],[0,1,2,3,4,5,6,7]] 5 (htbl := by simp; omega) (hnm := by simp) ?_
    intro O A K hO hA hK;simp only [atL_cons,atL_nil,Nat.reduceAdd,Nat.zero_add] at hO hA
    simp -implicitDefEqProofs (disch := omega) only [go_sem, hdel, hO, hA]
    refine loud_p (recOf_ok e.kind) Tryz.call31 rfl rfl (by first | rfl | (simp -implicitDefEqProofs (disch := omega) only [go_sem] <;> rfl)) rfl ?_
    simp -implicitDefEqProofs (disch := omega) only [go_sem, hdel, hO, hA]
    refine loudi_p (args := [.agg e.cs]) q3 q1 q2 rfl (by simp -implicitDefEqProofs (disch := omega) only [go_sem, hr]) T_ rfl ?_
    simp -implicitDefEqProofs (disch := omega) only [go_sem, hdel, hO, hA]
    refine hK _ (S_ ?_);clear hK K hO hA O A
    rw [show ws.length + 1 = (ws ++ [wordS e]).length by simp]
    generalize hW : ws ++ [wordS e] = W
    have hWl : W.length = cnt + 1 := by rw [← hW]; simp [hws]
    refine ⟨d, .busy, none, fn, 19, [(3, .ptr (x + 1) 0), (7, fv)], #[8, 9], asg, body, by simp -implicitDefEqProofs (disch := omega) only [go_sem], ?_⟩
    refine hK' _ ?_; clear hK' K'
    simp -implicitDefEqProofs (disch := omega) only [go_sem, hg1, hg2]
    refine hQ1 _ _ (S_ ?_);clear hQ1 Q1
    refine c1_ ?_
    refine g_ [1,4,26,27,28] ?_
    refine n_ ?_
    refine wpM_loopS (fun s n s' => ∃ (i M ci Y : Nat) (W2 : List ByteArray), i + n = e.kids.length ∧ B + 4 ≤ M ∧ visL (e.kids.take i) (deep + 1) (cnt + 1) = some ci ∧ ci ≤ 14 ∧ B + 2 ≤ Y ∧ Y < M ∧ W2 = W ++ wsL (e.kids.take i) ∧ W2.length = ci ∧ s' = { s with env := setE 28 (.int .i64 (i : Nat)) s.env, l := wdSt x (wdRec x b d fn fv asg body .ready none) b ci Y W2 ++ [(B, .cells 27 e.cs)], M := M }) (e.kids.length) ?_ ?_
    ·
      refine .of' _ _ ⟨0, _, cnt + 1, B + 3, W, by omega, ?_, rfl, hg1', by omega, ?_, by simp [wsL], hWl, rfl⟩ ?_ ?_ ?_
      · first | omega | (simp -implicitDefEqProofs (disch := omega) only [go_sem]; done)
      · first | omega | (simp -implicitDefEqProofs (disch := omega) only [go_sem]; done) | (simp -implicitDefEqProofs (disch := omega) only [go_sem]; omega)
      all_goals exact L_
    rintro n s' ⟨i, M, ci, Y, W2, hi, hM, hv, hci, hY1, hY2, hW2, hW2l, rfl⟩
    try refine S_ ?_
    refine g_ [1,4,26,27,28,29] ?_
    refine c_ (fun hc1 => ?_) fun hc1 => ?_
    ·
      have hl0 : i < e.kids.length := by omega
      have hks := Ex.kid_sz hl0
      have hv1 : (vis (e.kids.getD i default) (deep + 1) ci).isSome = true := by
        have hx : visL e.kids (deep + 1) (cnt + 1) = (visL (e.kids.take (i + 1)) (deep + 1) (cnt + 1)).bind (visL (e.kids.drop (i + 1)) (deep + 1)) := by
          conv => lhs; rw [← List.take_append_drop (i + 1) e.kids]
          exact visL_append _ _ _ _
        rw [visL_take _ _ _ _ hl0, hv] at hx
        cases h : vis (e.kids.getD i default) (deep + 1) ci with
        | some _ => rfl
        | none =>
          simp only [Option.bind_some, h, Option.bind_none] at hx
          rw [hx] at hvk; exact hvk
      refine g_ [1,4,9,26,27,28] ?_
      refine n_ ?_
      refine wpM_regionK [1,4,26,27,28,37] rfl fun Q1 hQ1 => ?_
      refine S_ ?_
      refine OpM_inlineK (first := []) (ps := [.agg (e.kids.getD i default).cs, .int .i64 (dI + 1)]) (cap := [.ptr (x + 7) 0, .ptr (x + 6) 0, .ptr (x + 8) 0]) Tryz.func57 rfl Tryz.ntmps57 (by simp) Tryz.call57 rfl rfl F_ F_ ?_
      intro K' hK'
      refine wpM_frameC (wdSt x (wdRec x b d fn fv asg body .ready none) b ci Y W2) [(M, .cells 27 (e.kids.getD i default).cs), (B, .cells 27 e.cs)] T_ T_ T_ (by simp -implicitDefEqProofs (disch := omega) only [go_sem, true_or, or_true]) T_ ?_
      intro f1
      have hf1 : cutL (wdSt x (wdRec x b d fn fv asg body .ready none) b ci Y W2) f1 Y = none := by
        have h1 : ¬ (x + 7 = Y) := by omega
        have h2 : ¬ (x + 5 = Y) := by omega
        simp [cutL, wdSt, lk, h1, h2]
      generalize cutL (wdSt x (wdRec x b d fn fv asg body .ready none) b ci Y W2) f1 = F1 at *
      refine wpM_mono (ih (e.kids.getD i default) (by omega) (by omega) (deep + 1) ci Y W2 (dI + 1) F1 (M + 1) (by rw [hdI]; rfl) (by omega) (by omega) (by omega) hf1 (by omega) hci hW2l hv1) ?_
      rintro ex s' ⟨rfl, cnt', y', M', ws', h1, h2, h3, h4, h5, h6, h7, rfl⟩
      refine ⟨rfl, rfl, T_, (by simp -implicitDefEqProofs (disch := omega) only [go_sem, true_or, or_true]), ?_⟩
      refine ⟨[], rfl, trivial, [.bool true], (by rw [Tryz.results57]; simp -implicitDefEqProofs (disch := omega) only [go_sem]), ?_⟩
      refine hK' _ ?_; clear hK' K'
      have hv2 : visL (e.kids.take (i + 1)) (deep + 1) (cnt + 1) = some cnt' := by rw [visL_take _ _ _ _ hl0, hv]; exact h1
      refine S_ ?_
      refine hQ1 _ _ (S_ ?_);clear hQ1 Q1
      refine c1_ ?_
      refine g_ [1,4,26,27,28] ?_
      refine .of' _ _ ⟨n - 1, by omega, i + 1, _, cnt', y', ws', by omega, ?_, hv2, h2, by omega, h4, by rw [h6, hW2, wsL_take _ _ hl0, List.append_assoc], h7, rfl⟩ ?_ ?_ ?_
      · first | omega | (simp -implicitDefEqProofs (disch := omega) only [go_sem]; done) | (simp -implicitDefEqProofs (disch := omega) only [go_sem]; omega)
      all_goals exact L_
    refine g_ [7] ?_
    refine wpM_ret ?_
    try refine S_ ?_
    have hie : i = e.kids.length := by omega
    rw [hie, List.take_of_length_le (Nat.le_refl _)] at hv hW2
    refine .of' _ _ ⟨rfl, ci, Y, _, W2, ?_, hci, by omega, ?_, ?_, ?_, hW2l, rfl⟩ ?_ ?_ ?_
    · rw [vis_eq, hbad]; exact hv
    · first | omega | (simp -implicitDefEqProofs (disch := omega) only [go_sem]; done) | (simp -implicitDefEqProofs (disch := omega) only [go_sem]; omega)
    · first | omega | (simp -implicitDefEqProofs (disch := omega) only [go_sem]; done) | (simp -implicitDefEqProofs (disch := omega) only [go_sem]; omega)
    · rw [hW2, ← hW, wsE_eq, List.append_assoc]; rfl
    all_goals exact L_
theorem wordsOf_ok (e : Ex) (hs : e.sz ≤ 1099511627776) (hv : (vis e 0 0).isSome = true) : PureF Tryz.prog 32 [.agg e.cs] [.rows 9 (strR (wsE e))] := by
  refine pureF_ofM Tryz.func32 rfl Tryz.ntmps32 (by simp) T_ ?_
  intro f0 B Q hQ
  obtain ⟨asg, body, hcode⟩ : ∃ asg body, Tryz.f32.body.map rfs = some [(asg, body)] := ⟨_, _, rfl⟩
  have hcode' := Option.some.inj hcode
  simp only [rfs, List.nil_append, List.append_nil, List.cons.injEq, Prod.mk.injEq, and_true] at hcode'
  obtain ⟨hasg, hbody⟩ := hcode'
  refine g_ [1,9] ?_
  refine g_ [1,3,9] ?_
  refine wpM_nil 9 [(1, .ptr B 0), (3, .ptr (B + 1) 0)] [(B + 1, .cells 62 [.sl 9 (B + 1 + 1) 0 0]), (B, .cells 27 e.cs)] T_ T_ T_ ?_
  simp -implicitDefEqProofs (disch := omega) only [go_sem]
  refine n_ ?_
  refine wpM_regionK [3,7,9] rfl fun Q1 hQ1 => ?_
  refine S_ ?_
  refine call_fn (l := []) (first := []) (cap := []) (ps := [.agg e.cs]) (parts_ok e) Tryz.call30 rfl rfl rfl T_ T_ ?_
  rintro out ⟨x, hns, rfl⟩
  injection hns with hn1 hns
  subst hn1
  refine S_ ?_
  refine hQ1 _ _ (S_ ?_);clear hQ1 Q1
  refine n_ ?_
  refine wpM_code (c' := Code.rangeFunc (.tmp 7) #[8, 9] asg body) (by rw [← hasg, ← hbody]) ?_
  refine wpM_rangeFunc (first := []) (cap := [.ptr (B + 3) 0]) T_ Tryz.func56 rfl Tryz.ntmps56 (by simp) Tryz.call56 ?_
  intro fn b d
  refine g_ [1,2] ?_
  refine g_ [1,2,3] ?_
  refine g_ [1,2,3,4] ?_
  refine g_ [1,4] ?_
  refine wpM_regionK [] rfl fun Q1 hQ1 => ?_
  refine S_ ?_
  simp -implicitDefEqProofs (disch := omega) only [go_sem, Nat.add_assoc]
  refine OpM_inlineK (first := []) (ps := [.agg e.cs, .int .i64 0]) (cap := [.ptr (B + 7) 0, .ptr (B + 6) 0, .ptr (B + 8) 0]) Tryz.func57 rfl Tryz.ntmps57 (by simp) Tryz.call57 rfl rfl F_ F_ ?_
  intro K' hK'
  refine wpM_frameC (wdSt B (wdRec B b d fn (.fn (.func 56) [] [.ptr (B + 3) 0]) asg body .ready none) b 0 (B + 2) []) [(B + 4, .dfr d), (B + 3, .cells 27 e.cs), (B, .cells 27 e.cs)] (by simp -implicitDefEqProofs (disch := omega) only [go_sem, Int.natCast_zero, strC, List.map_nil, List.length_nil]) T_ T_ (by simp -implicitDefEqProofs (disch := omega) only [go_sem, true_or, or_true]) T_ ?_
  intro f1
  have hf1 : cutL (wdSt B (wdRec B b d fn (.fn (.func 56) [] [.ptr (B + 3) 0]) asg body .ready none) b 0 (B + 2) []) f1 (B + 2) = none := by simp [cutL, wdSt, lk]
  generalize cutL (wdSt B (wdRec B b d fn (.fn (.func 56) [] [.ptr (B + 3) 0]) asg body .ready none) b 0 (B + 2) []) f1 = F1 at *
  refine wpM_mono (walkW_ok B b d fn (.fn (.func 56) [] [.ptr (B + 3) 0]) asg body _ hcode rfl e.sz e (Nat.le_refl _) hs 0 0 (B + 2) [] 0 F1 (B + 9) rfl (by omega) (by omega) (by omega) hf1 (by omega) (by omega) rfl hv) ?_
  rintro ex s' ⟨rfl, cnt', y', M', ws', k1, k2, k3, k4, k5, k6, k7, rfl⟩
  obtain rfl : ws' = wsE e := by simpa using k6
  refine ⟨rfl, rfl, T_, (by simp -implicitDefEqProofs (disch := omega) only [go_sem, true_or, or_true]), ?_⟩
  refine ⟨[], rfl, trivial, [.bool true], (by rw [Tryz.results57]; simp -implicitDefEqProofs (disch := omega) only [go_sem]), ?_⟩
  refine hK' _ ?_; clear hK' K'
  refine S_ ?_
  refine hQ1 _ _ (S_ ?_);clear hQ1 Q1
  refine ⟨[], rfl, trivial, [], (by rw [Tryz.results56]; simp -implicitDefEqProofs (disch := omega) only [go_sem]), ?_⟩
  refine ⟨d, .ready, none, fn, 19, [(3, .ptr (B + 1) 0), (7, .fn (.func 56) [] [.ptr (B + 3) 0])], #[8, 9], asg, body, T_, (by simp), ?_⟩
  simp -implicitDefEqProofs (disch := omega) only [go_sem, Nat.add_assoc]
  refine g_ [2] ?_
  refine wpM_frz [y'] [(9, y', 0, (wsE e).length, strR (wsE e))] (by intro q hq; simp at hq; subst hq; simp -implicitDefEqProofs (disch := omega) only [go_sem]) (by intro q hq; simp only [List.mem_cons, List.not_mem_nil, or_false] at hq; subst hq; exact ⟨by simp, rowsOf_str (T := 9) T_ rfl⟩) ?_
  refine S_ ?_
  refine wpM_ret ?_
  try refine S_ ?_
  refine hQ [B + 4] _ _ rfl rfl rfl ⟨⟨by simp -implicitDefEqProofs (disch := omega) only [go_sem], ⟨d, by simp -implicitDefEqProofs (disch := omega) only [go_sem]⟩, by simp⟩, trivial⟩ (by simp -implicitDefEqProofs (disch := omega) only [go_sem, true_or]) ?_ (.inl rfl)
  rw [Tryz.results32]
  simp -implicitDefEqProofs (disch := omega) only [go_sem]
end Go.Proofs.YtmicbfojofcigaaGreat
namespace Go.Proofs.YtmicbfojofcigaaGreat
open Go Sg
set_option maxRecDepth 100000
set_option linter.unusedSimpArgs false
set_option linter.unusedVariables false
set_option linter.unusedSectionVars false
set_option maxHeartbeats 4000000
variable [Tab]
theorem l10Some_ok (id : Nat) (bs : List Nat) (q : Int) (hbs : Bs bs) (hq0 : 0 ≤ q) (hq : q + 1000 ≤ 1000000000000) : RdF 19 [] id bs q 1000 (fun v => ∃ e : Ex, e.sz ≤ 1000 ∧ v = .agg e.cs) := by
  refine callF_of' Tryz.func19 rfl Tryz.ntmps19 (by simp) ?_
  intro f0 B ns Q hB hns hQ
  have hid : id < B := hB id (by simp [hasKey, lk])
  obtain rfl : ns = [] := List.eq_nil_of_length_eq_zero hns
  refine g_ [0,2] ?_
  refine n_ ?_
  refine wpM_regionK [0,2,3] rfl fun Q1 hQ1 => ?_
  refine S_ ?_
  refine call_fn (l := [(id, rdObj bs q)]) (first := []) (cap := []) (ps := [.ptr id 0]) (l3Some_ok id bs q hbs (by omega) (by omega)) Tryz.call43 rfl rfl rfl G_ T_ ?_
  rintro out ⟨_, q', ⟨e, hes, rfl⟩, hqa, hqb, rfl⟩
  refine S_ ?_
  refine hQ1 _ _ (S_ ?_);clear hQ1 Q1
  refine g_ [0,2,3,4] ?_
  refine n_ ?_
  refine wpM_regionK [0,2,3,4,9] rfl fun Q1 hQ1 => ?_
  refine S_ ?_
  refine call_fn (l := [(id, rdObj bs q')]) (first := []) (cap := []) (ps := [.ptr id 0, .int .i64 8]) (pick_ok id bs q' 8 hbs (by omega) (by omega) (by omega)) Tryz.call44 rfl rfl rfl G_ T_ ?_
  rintro out ⟨k1, rfl, h1, h2, h3⟩
  refine S_ ?_
  refine hQ1 _ _ (S_ ?_);clear hQ1 Q1
  refine g_ [0,2,3,4,9,10] ?_
  refine c_ (fun hc0 => ?_) fun hc0 => ?_
  ·
    refine dr_ mixed [2,3,4] 1 2 [B + 1, B + 2, B + 3] [⟨[3],[0],[],[],false⟩,⟨[],[],[],[],true⟩,⟨[12,13],[],[],[2],false⟩,⟨[14],[],[],[],false⟩,⟨[4,15],[1],[1],[],false⟩] [0,1,2,3,4] [[],[],[0,1],[0,1,2],[0,1,2,3]] 3 ?_
    intro O A K hO hA hK;simp only [atL_cons,atL_nil,Nat.reduceAdd,Nat.zero_add] at hO hA
    refine SO_ ?_
    refine lp_ (snum_ok 0) Tryz.call45 ?_
    refine hK _ (S_ ?_);clear hK K hO hA O A
    refine wpM_frz [B + 3] [(27, B + 3, 0, 2, Ex.csL [e, numX 0])] (by intro q hq; simp at hq; subst hq; simp -implicitDefEqProofs (disch := omega) only [go_sem]) (by intro q hq; simp only [List.mem_cons, List.not_mem_nil, or_false] at hq; subst hq; exact ⟨by simp, rowsOf_exc (T := 27) (l := [e, numX 0]) (by rw [show [e, numX 0] = [e] ++ [numX 0] from rfl, ← exc_app, ← exc_one]; first | (rw [Ex.cs_eq]; done) | (rw [Ex.cs_eq]; simp -implicitDefEqProofs (disch := omega) only [go_sem]; done) | (rw [Ex.cs_eq]; simp -implicitDefEqProofs (disch := omega) only [go_sem]; rfl) | (simp -implicitDefEqProofs (disch := omega) only [go_sem]; done) | (simp -implicitDefEqProofs (disch := omega) only [go_sem]; rfl) | rfl)⟩) ?_
    simp -implicitDefEqProofs (disch := omega) only [go_sem, rdObj]
    obtain ⟨X, hX, hXs⟩ : ∃ X : Ex, X = Ex.mk 3 0 ⟨0, 0⟩ [e, numX 0] ∧ X.sz ≤ 1000 := ⟨_, rfl, by simp only [Ex.sz, Ex.szL, numX]; omega⟩
    obtain ⟨qz, hqz, hz1, hz2⟩ : ∃ qz, qz = q' + 1 ∧ q ≤ qz ∧ qz ≤ q + 400 := ⟨_, rfl, by omega, by omega⟩
    rw [← hqz]
    rw [show [PV.int .i64 3, .int .i64 0, .int .i64 0, .int .i64 0, .rows 27 (Ex.csL [e, numX 0])] = [.int .i64 X.kind, .int .i64 X.n, .int .i64 X.a.kind, .int .i64 X.a.at', .rows 27 (Ex.csL X.kids)] from by rw [hX]; rfl]
    refine n_ ?_
    refine wpM_regionK [2,3,4,53] rfl fun Q1 hQ1 => ?_
    refine S_ ?_
    first
    | refine call_p (exprOk_ok X (by omega)) Tryz.call9 rfl rfl T_ F_ ?_
    | refine call_p (exprOk_ok e (by omega)) Tryz.call9 rfl rfl T_ F_ ?_
    refine S_ ?_
    refine hQ1 _ _ (S_ ?_);clear hQ1 Q1
    refine c_ (fun hc1 => ?_) fun hc1 => ?_
    ·
      refine g_ [2] ?_
      refine wpM_ret ?_
      try refine S_ ?_
      refine hQ _ _ (ret0 [(id, some (rdObj bs qz))] rfl rfl rfl (by rw [Tryz.results19] <;> simp (maxSteps := 1000000) -implicitDefEqProofs (disch := omega) only [go_sem] <;> rfl) ⟨_, qz, ⟨e, by omega, rfl⟩, by omega, by omega, rfl⟩ ?_ ?_ ?_ ?_) <;> (simp -implicitDefEqProofs (disch := omega) only [go_sem, rdObj, true_or, or_true]; done)
    refine g_ [2] ?_
    refine wpM_ret ?_
    try refine S_ ?_
    refine hQ _ _ (ret0 [(id, some (rdObj bs qz))] rfl rfl rfl (by rw [Tryz.results19] <;> simp (maxSteps := 1000000) -implicitDefEqProofs (disch := omega) only [go_sem] <;> rfl) ⟨_, qz, ⟨X, hXs, rfl⟩, by omega, by omega, rfl⟩ ?_ ?_ ?_ ?_) <;> (simp -implicitDefEqProofs (disch := omega) only [go_sem, rdObj, true_or, or_true]; done)
  refine g_ [0,2,3,4,9,16] ?_
  refine c_ (fun hc2 => ?_) fun hc2 => ?_
  ·
    refine dr_ mixed [2,3,4] 1 3 [B + 1, B + 2, id, B + 3] [⟨[0],[],[],[],false⟩,⟨[18],[2],[2],[],true⟩,⟨[19],[],[],[],true⟩,⟨[3],[0],[],[],false⟩,⟨[20,21],[],[],[3],false⟩,⟨[22],[],[],[],false⟩,⟨[4,23],[1],[1],[],false⟩] [0,3,1,2,4,5,6] [[],[0],[0,1],[],[0,1,2,3],[0,1,2,3,4],[0,1,2,3,4,5]] 4 (htbl := by simp; omega) (hnm := by simp) ?_
    intro O A K hO hA hK;simp only [atL_cons,atL_nil,Nat.reduceAdd,Nat.zero_add] at hO hA
    refine SO_ ?_
    refine loud_fn (first := []) (cap := []) (ps := [.ptr id 0, .int .i64 2]) (l := [(id, rdObj bs (q' + 1))]) (pick_ok id bs (q' + 1) 2 hbs (by omega) (by omega) (by omega)) Tryz.call44 rfl rfl F_ (subG_spec T_) rfl ?_
    rintro out ⟨k2, rfl, h11, h12, h13⟩
    refine ⟨rfl, ?_⟩
    refine SO_ ?_
    refine lp_ (snum_ok k2) Tryz.call45 ?_
    refine hK _ (S_ ?_);clear hK K hO hA O A
    refine wpM_frz [B + 3] [(27, B + 3, 0, 2, Ex.csL [numX k2, e])] (by intro q hq; simp at hq; subst hq; simp -implicitDefEqProofs (disch := omega) only [go_sem]) (by intro q hq; simp only [List.mem_cons, List.not_mem_nil, or_false] at hq; subst hq; exact ⟨by simp, rowsOf_exc (T := 27) (l := [numX k2, e]) (by rw [show [numX k2, e] = [numX k2] ++ [e] from rfl, ← exc_app, ← exc_one]; first | (rw [Ex.cs_eq]; done) | (rw [Ex.cs_eq]; simp -implicitDefEqProofs (disch := omega) only [go_sem]; done) | (rw [Ex.cs_eq]; simp -implicitDefEqProofs (disch := omega) only [go_sem]; rfl) | (simp -implicitDefEqProofs (disch := omega) only [go_sem]; done) | (simp -implicitDefEqProofs (disch := omega) only [go_sem]; rfl) | rfl)⟩) ?_
    simp -implicitDefEqProofs (disch := omega) only [go_sem, rdObj]
    obtain ⟨X, hX, hXs⟩ : ∃ X : Ex, X = Ex.mk 5 0 ⟨0, 0⟩ [numX k2, e] ∧ X.sz ≤ 1000 := ⟨_, rfl, by simp only [Ex.sz, Ex.szL, numX]; omega⟩
    obtain ⟨qz, hqz, hz1, hz2⟩ : ∃ qz, qz = q' + 1 + 1 ∧ q ≤ qz ∧ qz ≤ q + 400 := ⟨_, rfl, by omega, by omega⟩
    rw [← hqz]
    rw [show [PV.int .i64 5, .int .i64 0, .int .i64 0, .int .i64 0, .rows 27 (Ex.csL [numX k2, e])] = [.int .i64 X.kind, .int .i64 X.n, .int .i64 X.a.kind, .int .i64 X.a.at', .rows 27 (Ex.csL X.kids)] from by rw [hX]; rfl]
    refine n_ ?_
    refine wpM_regionK [2,3,4,53] rfl fun Q1 hQ1 => ?_
    refine S_ ?_
    first
    | refine call_p (exprOk_ok X (by omega)) Tryz.call9 rfl rfl T_ F_ ?_
    | refine call_p (exprOk_ok e (by omega)) Tryz.call9 rfl rfl T_ F_ ?_
    refine S_ ?_
    refine hQ1 _ _ (S_ ?_);clear hQ1 Q1
    refine c_ (fun hc3 => ?_) fun hc3 => ?_
    ·
      refine g_ [2] ?_
      refine wpM_ret ?_
      try refine S_ ?_
      refine hQ _ _ (ret0 [(id, some (rdObj bs qz))] rfl rfl rfl (by rw [Tryz.results19] <;> simp (maxSteps := 1000000) -implicitDefEqProofs (disch := omega) only [go_sem] <;> rfl) ⟨_, qz, ⟨e, by omega, rfl⟩, by omega, by omega, rfl⟩ ?_ ?_ ?_ ?_) <;> (simp -implicitDefEqProofs (disch := omega) only [go_sem, rdObj, true_or, or_true]; done)
    refine g_ [2] ?_
    refine wpM_ret ?_
    try refine S_ ?_
    refine hQ _ _ (ret0 [(id, some (rdObj bs qz))] rfl rfl rfl (by rw [Tryz.results19] <;> simp (maxSteps := 1000000) -implicitDefEqProofs (disch := omega) only [go_sem] <;> rfl) ⟨_, qz, ⟨X, hXs, rfl⟩, by omega, by omega, rfl⟩ ?_ ?_ ?_ ?_) <;> (simp -implicitDefEqProofs (disch := omega) only [go_sem, rdObj, true_or, or_true]; done)
  refine g_ [0,2,3,4,9,24] ?_
  refine c_ (fun hc4 => ?_) fun hc4 => ?_
  ·
    refine dr_ mixed [2,3,4] 2 3 [B + 1, B + 2, id, B + 3, B + 4] [⟨[0],[],[],[],false⟩,⟨[],[],[],[3],false⟩,⟨[26,27],[2,3],[2],[],true⟩,⟨[3],[0],[],[],false⟩,⟨[3],[0],[],[],false⟩,⟨[30],[],[],[],true⟩,⟨[29,31],[],[],[4],false⟩,⟨[28,32],[],[],[],false⟩,⟨[4,33],[1],[1],[],false⟩] [0,1,3,4,2,5,6,7,8] [[],[],[0,1],[],[],[0,1,2,4],[0,1,2,3,4,5],[0,1,2,3,4,5,6],[0,1,2,3,4,5,6,7]] 5 (htbl := by simp; omega) (hnm := by simp) ?_
    intro O A K hO hA hK;simp only [atL_cons,atL_nil,Nat.reduceAdd,Nat.zero_add] at hO hA
    refine SO_ ?_
    refine loud_fn (first := []) (cap := []) (ps := [.ptr id 0, .sl 3 (B + 3) 0 3]) (l := [(id, rdObj bs (q' + 1)), (B + 3, .cells 3 (ints [7, 6, 4]))]) (num_ok id (B + 3) bs (q' + 1) [7, 6, 4] 3 rfl (by omega) (by omega) (by omega) hbs (by omega) (by omega)) Tryz.call46 rfl rfl F_ (subG_spec (by simp -implicitDefEqProofs (disch := omega) only [go_sem, ints, List.map_cons, List.map_nil])) rfl ?_
    rintro out ⟨k2, rfl, h4⟩
    refine ⟨rfl, ?_⟩
    refine SO_ ?_
    refine lp_ (l3Copy_ok e.sz e (Nat.le_refl _) (by omega)) Tryz.call24 ?_
    refine hK _ (S_ ?_);clear hK K hO hA O A
    refine wpM_frz [B + 4] [(27, B + 4, 0, 2, Ex.csL [e, e])] (by intro q hq; simp at hq; subst hq; simp -implicitDefEqProofs (disch := omega) only [go_sem]) (by intro q hq; simp only [List.mem_cons, List.not_mem_nil, or_false] at hq; subst hq; exact ⟨by simp, rowsOf_exc (T := 27) (l := [e, e]) (by rw [show [e, e] = [e] ++ [e] from rfl, ← exc_app, ← exc_one]; first | (rw [Ex.cs_eq]; done) | (rw [Ex.cs_eq]; simp -implicitDefEqProofs (disch := omega) only [go_sem]; done) | (rw [Ex.cs_eq]; simp -implicitDefEqProofs (disch := omega) only [go_sem]; rfl) | (simp -implicitDefEqProofs (disch := omega) only [go_sem]; done) | (simp -implicitDefEqProofs (disch := omega) only [go_sem]; rfl) | rfl)⟩) ?_
    simp -implicitDefEqProofs (disch := omega) only [go_sem, rdObj]
    obtain ⟨X, hX, hXs⟩ : ∃ X : Ex, X = Ex.mk k2 0 ⟨0, 0⟩ [e, e] ∧ X.sz ≤ 1000 := ⟨_, rfl, by simp only [Ex.sz, Ex.szL, numX]; omega⟩
    obtain ⟨qz, hqz, hz1, hz2⟩ : ∃ qz, qz = q' + 1 + 1 ∧ q ≤ qz ∧ qz ≤ q + 400 := ⟨_, rfl, by omega, by omega⟩
    rw [← hqz]
    rw [show [PV.int .i64 k2, .int .i64 0, .int .i64 0, .int .i64 0, .rows 27 (Ex.csL [e, e])] = [.int .i64 X.kind, .int .i64 X.n, .int .i64 X.a.kind, .int .i64 X.a.at', .rows 27 (Ex.csL X.kids)] from by rw [hX]; rfl]
    refine n_ ?_
    refine wpM_regionK [2,3,4,53] rfl fun Q1 hQ1 => ?_
    refine S_ ?_
    first
    | refine call_p (exprOk_ok X (by omega)) Tryz.call9 rfl rfl T_ F_ ?_
    | refine call_p (exprOk_ok e (by omega)) Tryz.call9 rfl rfl T_ F_ ?_
    refine S_ ?_
    refine hQ1 _ _ (S_ ?_);clear hQ1 Q1
    refine c_ (fun hc5 => ?_) fun hc5 => ?_
    ·
      refine g_ [2] ?_
      refine wpM_ret ?_
      try refine S_ ?_
      refine hQ _ _ (ret0 [(id, some (rdObj bs qz))] rfl rfl rfl (by rw [Tryz.results19] <;> simp (maxSteps := 1000000) -implicitDefEqProofs (disch := omega) only [go_sem] <;> rfl) ⟨_, qz, ⟨e, by omega, rfl⟩, by omega, by omega, rfl⟩ ?_ ?_ ?_ ?_) <;> (simp -implicitDefEqProofs (disch := omega) only [go_sem, rdObj, true_or, or_true]; done)
    refine g_ [2] ?_
    refine wpM_ret ?_
    try refine S_ ?_
    refine hQ _ _ (ret0 [(id, some (rdObj bs qz))] rfl rfl rfl (by rw [Tryz.results19] <;> simp (maxSteps := 1000000) -implicitDefEqProofs (disch := omega) only [go_sem] <;> rfl) ⟨_, qz, ⟨X, hXs, rfl⟩, by omega, by omega, rfl⟩ ?_ ?_ ?_ ?_) <;> (simp -implicitDefEqProofs (disch := omega) only [go_sem, rdObj, true_or, or_true]; done)
  refine g_ [0,2,3,4,9,34] ?_
  refine c_ (fun hc6 => ?_) fun hc6 => ?_
  ·
    refine wpM_regionK [2,3,4] rfl fun Q1 hQ1 => ?_
    refine S_ ?_
    refine call_fn (l := [(id, rdObj bs (q' + 1))]) (first := []) (cap := []) (ps := [.ptr id 0, .int .i64 7]) (pick_ok id bs (q' + 1) 7 hbs (by omega) (by omega) (by omega)) Tryz.call44 rfl rfl rfl G_ T_ ?_
    rintro out ⟨k2, rfl, h11, h12, h13⟩
    refine S_ ?_
    refine call_fn (l := [(id, rdObj bs (q' + 1 + 1))]) (first := []) (cap := []) (ps := [.ptr id 0, .int .i64 4]) (pick_ok id bs (q' + 1 + 1) 4 hbs (by omega) (by omega) (by omega)) Tryz.call44 rfl rfl rfl G_ T_ ?_
    rintro out ⟨k3, rfl, h21, h22, h23⟩
    refine S_ ?_
    refine cp_ (snum_ok k3) Tryz.call45 ?_
    refine call_fn (l := [(id, rdObj bs (q' + 1 + 1 + 1))]) (first := []) (cap := []) (ps := [.ptr id 0, .int .i64 4]) (pick_ok id bs (q' + 1 + 1 + 1) 4 hbs (by omega) (by omega) (by omega)) Tryz.call44 rfl rfl rfl G_ T_ ?_
    rintro out ⟨k4, rfl, h31, h32, h33⟩
    refine S_ ?_
    refine cp_ (snum_ok k4) Tryz.call45 ?_
    refine hQ1 _ _ (S_ ?_);clear hQ1 Q1
    refine wpM_frz [B + 3] [(27, B + 3, 0, 2, Ex.csL [numX k3, numX k4])] (by intro q hq; simp at hq; subst hq; simp -implicitDefEqProofs (disch := omega) only [go_sem]) (by intro q hq; simp only [List.mem_cons, List.not_mem_nil, or_false] at hq; subst hq; exact ⟨by simp, rowsOf_exc (T := 27) (l := [numX k3, numX k4]) (by rw [show [numX k3, numX k4] = [numX k3] ++ [numX k4] from rfl, ← exc_app, ← exc_one]; first | (rw [Ex.cs_eq]; done) | (rw [Ex.cs_eq]; simp -implicitDefEqProofs (disch := omega) only [go_sem]; done) | (rw [Ex.cs_eq]; simp -implicitDefEqProofs (disch := omega) only [go_sem]; rfl) | (simp -implicitDefEqProofs (disch := omega) only [go_sem]; done) | (simp -implicitDefEqProofs (disch := omega) only [go_sem]; rfl) | rfl)⟩) ?_
    simp -implicitDefEqProofs (disch := omega) only [go_sem, rdObj]
    obtain ⟨X, hX, hXs⟩ : ∃ X : Ex, X = Ex.mk (3 + k2) 0 ⟨0, 0⟩ [numX k3, numX k4] ∧ X.sz ≤ 1000 := ⟨_, rfl, by simp only [Ex.sz, Ex.szL, numX]; omega⟩
    obtain ⟨qz, hqz, hz1, hz2⟩ : ∃ qz, qz = q' + 1 + 1 + 1 + 1 ∧ q ≤ qz ∧ qz ≤ q + 400 := ⟨_, rfl, by omega, by omega⟩
    rw [← hqz]
    rw [show [PV.int .i64 (3 + k2), .int .i64 0, .int .i64 0, .int .i64 0, .rows 27 (Ex.csL [numX k3, numX k4])] = [.int .i64 X.kind, .int .i64 X.n, .int .i64 X.a.kind, .int .i64 X.a.at', .rows 27 (Ex.csL X.kids)] from by rw [hX]; rfl]
    refine n_ ?_
    refine wpM_regionK [2,3,4,53] rfl fun Q1 hQ1 => ?_
    refine S_ ?_
    first
    | refine call_p (exprOk_ok X (by omega)) Tryz.call9 rfl rfl T_ F_ ?_
    | refine call_p (exprOk_ok e (by omega)) Tryz.call9 rfl rfl T_ F_ ?_
    refine S_ ?_
    refine hQ1 _ _ (S_ ?_);clear hQ1 Q1
    refine c_ (fun hc7 => ?_) fun hc7 => ?_
    ·
      refine g_ [2] ?_
      refine wpM_ret ?_
      try refine S_ ?_
      refine hQ _ _ (ret0 [(id, some (rdObj bs qz))] rfl rfl rfl (by rw [Tryz.results19] <;> simp (maxSteps := 1000000) -implicitDefEqProofs (disch := omega) only [go_sem] <;> rfl) ⟨_, qz, ⟨e, by omega, rfl⟩, by omega, by omega, rfl⟩ ?_ ?_ ?_ ?_) <;> (simp -implicitDefEqProofs (disch := omega) only [go_sem, rdObj, true_or, or_true]; done)
    refine g_ [2] ?_
    refine wpM_ret ?_
    try refine S_ ?_
    refine hQ _ _ (ret0 [(id, some (rdObj bs qz))] rfl rfl rfl (by rw [Tryz.results19] <;> simp (maxSteps := 1000000) -implicitDefEqProofs (disch := omega) only [go_sem] <;> rfl) ⟨_, qz, ⟨X, hXs, rfl⟩, by omega, by omega, rfl⟩ ?_ ?_ ?_ ?_) <;> (simp -implicitDefEqProofs (disch := omega) only [go_sem, rdObj, true_or, or_true]; done)
  refine g_ [0,2,3,4,47] ?_
  refine c_ (fun hc8 => ?_) fun hc8 => ?_
  ·
    refine n_ ?_
    refine wpM_regionK [2] rfl fun Q1 hQ1 => ?_
    refine S_ ?_
    refine call_fn (l := [(id, rdObj bs (q' + 1))]) (first := []) (cap := []) (ps := [.ptr id 0]) (l3Bent_ok id bs (q' + 1) hbs (by omega) (by omega)) Tryz.call28 rfl rfl rfl G_ T_ ?_
    rintro out ⟨_, q2, ⟨e2, hes2, rfl⟩, hqc, hqd, rfl⟩
    refine S_ ?_
    refine hQ1 _ _ (S_ ?_);clear hQ1 Q1
    refine wpM_ret ?_
    try refine S_ ?_
    refine hQ _ _ (ret0 [(id, some (rdObj bs q2))] rfl rfl rfl (by rw [Tryz.results19] <;> simp (maxSteps := 1000000) -implicitDefEqProofs (disch := omega) only [go_sem] <;> rfl) ⟨_, q2, ⟨e2, hes2, rfl⟩, by omega, by omega, rfl⟩ ?_ ?_ ?_ ?_) <;> (simp -implicitDefEqProofs (disch := omega) only [go_sem, rdObj, true_or, or_true]; done)
  obtain ⟨qz, hqz, hz1, hz2⟩ : ∃ qz, qz = q' + 1 ∧ q ≤ qz ∧ qz ≤ q + 400 := ⟨_, rfl, by omega, by omega⟩
  rw [← hqz]
  refine n_ ?_
  refine wpM_regionK [2,3,4,53] rfl fun Q1 hQ1 => ?_
  refine S_ ?_
  first
  | refine call_p (exprOk_ok X (by omega)) Tryz.call9 rfl rfl T_ F_ ?_
  | refine call_p (exprOk_ok e (by omega)) Tryz.call9 rfl rfl T_ F_ ?_
  refine S_ ?_
  refine hQ1 _ _ (S_ ?_);clear hQ1 Q1
  refine c_ (fun hc9 => ?_) fun hc9 => ?_
  ·
    refine g_ [2] ?_
    refine wpM_ret ?_
    try refine S_ ?_
    refine hQ _ _ (ret0 [(id, some (rdObj bs qz))] rfl rfl rfl (by rw [Tryz.results19] <;> simp (maxSteps := 1000000) -implicitDefEqProofs (disch := omega) only [go_sem] <;> rfl) ⟨_, qz, ⟨e, by omega, rfl⟩, by omega, by omega, rfl⟩ ?_ ?_ ?_ ?_) <;> (simp -implicitDefEqProofs (disch := omega) only [go_sem, rdObj, true_or, or_true]; done)
  refine g_ [2] ?_
  refine wpM_ret ?_
  try refine S_ ?_
  refine hQ _ _ (ret0 [(id, some (rdObj bs qz))] rfl rfl rfl (by rw [Tryz.results19] <;> simp (maxSteps := 1000000) -implicitDefEqProofs (disch := omega) only [go_sem] <;> rfl) ⟨_, qz, ⟨e, by omega, rfl⟩, by omega, by omega, rfl⟩ ?_ ?_ ?_ ?_) <;> (simp -implicitDefEqProofs (disch := omega) only [go_sem, rdObj, true_or, or_true]; done)
theorem drawSlimX_ok (code : List Nat) (hcode : ∀ x ∈ code, x < 256) (hl : code.length ≤ 1099511627776) :
    CallF Tryz.prog 5 [.rows 5 (u8s code)] [] 0 (fun _ o => ∃ e : Ex, e.sz ≤ 1000 ∧ o = { rs := [.agg e.cs] }) := by
  refine callF_of' Tryz.func5 rfl Tryz.ntmps5 (by simp) ?_
  intro f0 B ns Q hB hns hQ
  obtain rfl : ns = [] := List.eq_nil_of_length_eq_zero hns
  refine g_ [0,2] ?_
  refine n_ ?_
  refine wpM_regionK [2] rfl fun Q1 hQ1 => ?_
  refine S_ ?_
  refine call_fn (l := []) (first := []) (cap := []) (ps := [.rows 5 (u8s code)]) (open_ok code hcode hl) Tryz.call20 rfl rfl rfl G_ T_ ?_
  rintro out ⟨j, bs, ⟨⟩, hbs, rfl, hbe⟩
  refine S_ ?_
  refine call_fn (l := [(B + 1, rdObj bs 0)]) (first := []) (cap := []) (ps := [.ptr (B + 1) 0]) (l10Some_ok (B + 1) bs 0 hbs (by omega) (by omega)) Tryz.call19 rfl rfl rfl G_ T_ ?_
  rintro out ⟨_, q1, ⟨e, hes, rfl⟩, hqa, hqb, rfl⟩
  refine S_ ?_
  refine hQ1 _ _ (S_ ?_);clear hQ1 Q1
  refine wpM_ret ?_
  try refine S_ ?_
  refine hQ _ _ (ret0 [] rfl rfl rfl (by rw [Tryz.results5] <;> simp (maxSteps := 1000000) -implicitDefEqProofs (disch := omega) only [go_sem] <;> rfl) ⟨e, hes, rfl⟩ ?_ ?_ ?_ ?_)
  all_goals simp -implicitDefEqProofs (disch := omega) only [go_sem, rdObj, true_or, or_true]
theorem drawExprOf_ok (code : List Nat) (hcode : ∀ x ∈ code, x < 256) (hl : code.length ≤ 1099511627776) :
    CallF Tryz.prog 10 [.rows 5 (u8s code)] [] 0 (fun _ o => ∃ (e : Ex) (m : MM), e.sz ≤ 1000 ∧ m.Sm ∧ o = { rs := [.agg e.cs, .agg m.cs] }) := by
  refine callF_of' Tryz.func10 rfl Tryz.ntmps10 (by simp) ?_
  intro f0 B ns Q hB hns hQ
  obtain rfl : ns = [] := List.eq_nil_of_length_eq_zero hns
  refine g_ [0,2,3] ?_
  refine n_ ?_
  refine wpM_regionK [2,3,4] rfl fun Q1 hQ1 => ?_
  refine S_ ?_
  refine call_fn (l := []) (first := []) (cap := []) (ps := [.rows 5 (u8s code)]) (open_ok code hcode hl) Tryz.call20 rfl rfl rfl G_ T_ ?_
  rintro out ⟨j, bs, ⟨⟩, hbs, rfl, hbe⟩
  refine S_ ?_
  refine hQ1 _ _ (S_ ?_);clear hQ1 Q1
  refine n_ ?_
  refine wpM_regionK [2,3,4,5] rfl fun Q1 hQ1 => ?_
  refine S_ ?_
  refine call_fn (l := [(B + 2, rdObj bs 0)]) (first := []) (cap := []) (ps := [.ptr (B + 2) 0]) (l3Bent_ok (B + 2) bs 0 hbs (by omega) (by omega)) Tryz.call28 rfl rfl rfl G_ T_ ?_
  rintro out ⟨_, q1, ⟨e, hes, rfl⟩, hqa, hqb, rfl⟩
  refine S_ ?_
  refine hQ1 _ _ (S_ ?_);clear hQ1 Q1
  refine n_ ?_
  refine dr_ mixed [2,3] 0 4 [B + 3, B, B + 1, B + 2] [⟨[5],[0],[],[],false⟩,⟨[4],[],[],[],false⟩,⟨[11],[3],[3],[],true⟩,⟨[2,10],[1],[1],[],false⟩,⟨[3,12],[2],[2],[],false⟩] [0,1,2,3,4] [[],[],[1],[0,1,2],[0,1,2,3]] 4 ?_
  intro O A K hO hA hK;simp only [atL_cons,atL_nil,Nat.reduceAdd,Nat.zero_add] at hO hA
  refine SO_ ?_
  refine loud_fn (first := []) (cap := []) (ps := [.ptr (B + 2) 0]) (l := [(B + 2, rdObj bs q1)]) (l2MemBent_ok (B + 2) bs q1 hbs (by omega) (by omega)) Tryz.call29 rfl rfl F_ (subG_spec T_) rfl ?_
  rintro out ⟨_, q2, ⟨m, hm, rfl⟩, hqc, hqd, rfl⟩
  refine ⟨rfl, ?_⟩
  refine SO_ ?_
  refine hK _ (S_ ?_);clear hK K hO hA O A
  refine wpM_ret ?_
  try refine S_ ?_
  refine hQ _ _ (ret0 [] rfl rfl rfl (by rw [Tryz.results10] <;> simp (maxSteps := 1000000) -implicitDefEqProofs (disch := omega) only [go_sem] <;> rfl) ⟨e, m, hes, hm, rfl⟩ ?_ ?_ ?_ ?_)
  all_goals simp -implicitDefEqProofs (disch := omega) only [go_sem, rdObj, true_or, or_true]
noncomputable def slimX (e : Ex) : Ex := if e.ok then e.slim else noX
theorem islimX_ok (e : Ex) (hs : e.sz ≤ 1000000000) : PureF Tryz.prog 6 [.agg e.cs] [.agg (slimX e).cs] := by
  refine pureF_of Tryz.func6 rfl Tryz.ntmps6 (by simp) T_ ?_
  intro f0 B Q hQ
  refine g_ [1,2] ?_
  refine n_ ?_
  refine wpM_regionK [1,2,5] rfl fun Q1 hQ1 => ?_
  refine S_ ?_
  refine call_p (iexprOk_ok e (by omega)) Tryz.call11 rfl rfl rfl (by first | rfl | (simp -implicitDefEqProofs (disch := omega) only [go_sem] <;> rfl)) ?_
  simp -implicitDefEqProofs (disch := omega) only [go_sem, vis_ok]
  refine hQ1 _ _ (S_ ?_);clear hQ1 Q1
  refine c_ (fun hc0 => ?_) fun hc0 => ?_
  ·
    refine g_ [2] ?_
    have hcs : slimX e = noX := by rw [slimX, if_neg]; intro h; rw [h] at hc0; cases hc0
    refine wpM_le [(2, .ptr (B + 1) 0)] [(B + 1, .cells 27 noX.cs), (B, .cells 27 e.cs)] T_ T_ T_ ?_
    refine e_ Tryz.results6 ?_
    first
    | exact True.intro
    | rw [hcs]
      exact ⟨rfl, rfl, rfl, rfl, rfl⟩
  have hok : e.ok = true := by simpa using hc0
  have hcs : slimX e = e.slim := by rw [slimX, if_pos hok]
  have hf4 : formD 6 e = true := by simp only [Ex.ok, Bool.and_eq_true] at hok; exact hok.1
  have hsz := e.slim_sz
  refine n_ ?_
  refine wpM_regionK [2] rfl fun Q1 hQ1 => ?_
  refine S_ ?_
  refine cp_ (islimE_ok _ e (Nat.le_refl _) (by omega) ⟨6, hf4⟩) Tryz.call22 ?_
  refine cp_ (icopyE_ok _ e.slim (Nat.le_refl _) (by omega)) Tryz.call21 ?_
  refine hQ1 _ _ (S_ ?_);clear hQ1 Q1
  refine e_ Tryz.results6 ?_
  first
  | exact True.intro
  | rw [hcs]
    exact ⟨rfl, rfl, rfl, rfl, rfl⟩
end Go.Proofs.YtmicbfojofcigaaGreat
namespace Go.Proofs.YtmicbfojofcigaaGreat
open Go Sg
set_option maxRecDepth 100000
set_option linter.unusedSimpArgs false
set_option linter.unusedVariables false
set_option linter.unusedSectionVars false
set_option maxHeartbeats 4000000
variable [Tab]
theorem sslimX_ok (e : Ex) (hs : e.sz ≤ 1000000000) : PureF Tryz.prog 8 [.agg e.cs] [.agg (slimX e).cs] := by
  obtain ⟨nk, hnk⟩ : ∃ nk, nk = e.nn := ⟨_, rfl⟩
  refine pureF_of Tryz.func8 rfl Tryz.ntmps8 (by simp) T_ ?_
  intro f0 B Q hQ
  refine g_ [1,2] ?_
  refine n_ ?_
  refine wpM_regionK [1,2,5] rfl fun Q1 hQ1 => ?_
  refine S_ ?_
  refine cp_ (exprOk_ok e (by omega)) Tryz.call9 ?_
  refine hQ1 _ _ (S_ ?_);clear hQ1 Q1
  refine c_ (fun hc0 => ?_) fun hc0 => ?_
  ·
    refine g_ [2] ?_
    have hcs : slimX e = noX := by rw [slimX, if_neg]; intro h; rw [h] at hc0; cases hc0
    refine wpM_le [(2, .ptr (B + 1) 0)] [(B + 1, .cells 27 noX.cs), (B, .cells 27 e.cs)] T_ T_ T_ ?_
    refine e_ Tryz.results8 ?_
    first
    | exact True.intro
    | rw [hcs]
      exact ⟨rfl, rfl, rfl, rfl, rfl⟩
  have hok : e.ok = true := by simpa using hc0
  have hcs : slimX e = e.slim := by rw [slimX, if_pos hok]
  have hf4 : formD 6 e = true := by simp only [Ex.ok, Bool.and_eq_true] at hok; exact hok.1
  have hsz := e.slim_sz
  refine n_ ?_
  refine wpM_regionK [2] rfl fun Q1 hQ1 => ?_
  refine S_ ?_
  refine call_new (first := []) (cap := []) (ps := [.agg e.cs]) (l3T_ok _ e (Nat.le_refl _) (by omega)) Tryz.call24 rfl rfl rfl F_ ?_ ?_ ?_ ?_
  · simp [ksL]
  · intro p hp
    simp only [List.mem_cons, List.not_mem_nil, or_false] at hp
    rcases hp with rfl | rfl
    · show B + 1 < B + 2; omega
    · show B < B + 2; omega
  · show B ≤ B + 2; omega
  rintro out ⟨t, ht, hkt, rfl⟩
  refine ⟨_, _, rfl, fun p hp => hkt ▸ ksL_mem hp, ?_⟩
  have hkt2 : ksL t.ob = List.range' (B + 2) nk := by rw [hnk]; exact hkt
  have hge : ∀ p ∈ t.ob, B + 2 ≤ p.1 := fun p hp => by
    have hh : p.1 ∈ ksL t.ob := ksL_mem hp
    rw [hkt2] at hh
    exact (List.mem_range'_1.1 hh).1
  have hnd : (ksL t.ob).Nodup := by rw [hkt2]; exact List.nodup_range'
  have hL : CallF Tryz.prog 25 [.agg t.v] t.ob 0 (fun _ o => o = { rs := [.agg e.slim.cs], u := dropU t.ob }) := by
    have := l10E_ok 6 t (by rw [ht]; exact hf4) (by rw [ht]; omega) hnd
    unfold L10 at this
    rw [ht] at this
    exact this
  refine S_ ?_
  refine call_drop (first := []) (cap := []) (ps := [.agg t.v]) (T := t.ob) (rs := [.agg e.slim.cs]) [(B + 1, .cells 27 [.int .i64 0, .int .i64 0, .int .i64 0, .int .i64 0, .emp]), (B, .cells 27 e.cs)] hL Tryz.call25 rfl rfl rfl F_ ?_ ?_ ?_ ?_ ?_ ?_
  · simp only [ksL, List.map_cons, List.nodup_cons, List.mem_cons, not_or]
    refine ⟨⟨by omega, fun hx => ?_⟩, fun hx => ?_, hnd⟩
    · obtain ⟨p, hp, e⟩ := List.mem_map.1 hx
      have := hge p hp; omega
    · obtain ⟨p, hp, e⟩ := List.mem_map.1 hx
      have := hge p hp; omega
  · intro p hp; simp [hp]
  · intro p hp; left; show B ≤ p.1; have := hge p hp; omega
  · intro p hp
    rw [Ex.cs_eq] at hp
    simp only [List.mem_cons, List.not_mem_nil, or_false] at hp ⊢
    rcases hp with rfl | rfl
    · refine ⟨.inl rfl, fun hx => ?_⟩
      obtain ⟨p, hp, e⟩ := List.mem_map.1 hx
      have := hge p hp
      dsimp only at e; omega
    · refine ⟨.inr (.inl rfl), fun hx => ?_⟩
      obtain ⟨p, hp, e⟩ := List.mem_map.1 hx
      have := hge p hp
      dsimp only at e; omega
  · intro p hp
    simp only [List.mem_cons] at hp
    rcases hp with rfl | rfl | hp
    · left; simp [ksL]
    · left; simp [ksL]
    · right; left; exact ksL_mem hp
  refine S_ ?_
  refine cp_ (l3Copy_ok e.slim.sz e.slim (Nat.le_refl _) (by omega)) Tryz.call24 ?_
  refine hQ1 _ _ (S_ ?_);clear hQ1 Q1
  refine e_ Tryz.results8 ?_
  first
  | exact True.intro
  | rw [hcs]
    exact ⟨rfl, rfl, rfl, rfl, rfl⟩
mutual
theorem wsE_len : (e : Ex) → (wsE e).length = e.sz
  | .mk k n a l => by simp only [wsE, Ex.sz, List.length_cons, wsL_len l]; omega
theorem wsL_len : (l : List Ex) → (wsL l).length = Ex.szL l
  | [] => rfl
  | e :: l => by simp only [wsL, Ex.szL, List.length_append, wsE_len e, wsL_len l]
end
def manyX (e : Ex) : Int := if e.ok then (e.sz : Int) else 0
theorem imanyX_ok (e : Ex) (hs : e.sz ≤ 1000000000) : PureF Tryz.prog 12 [.agg e.cs] [.int .i64 (manyX e)] := by
  refine pureF_of Tryz.func12 rfl Tryz.ntmps12 (by simp) T_ ?_
  intro f0 B Q hQ
  refine g_ [1] ?_
  refine n_ ?_
  refine wpM_regionK [1,5] rfl fun Q1 hQ1 => ?_
  refine S_ ?_
  refine call_p (iexprOk_ok e (by omega)) Tryz.call11 rfl rfl rfl (by first | rfl | (simp -implicitDefEqProofs (disch := omega) only [go_sem] <;> rfl)) ?_
  simp -implicitDefEqProofs (disch := omega) only [go_sem, vis_ok]
  refine hQ1 _ _ (S_ ?_);clear hQ1 Q1
  refine c_ (fun hc0 => ?_) fun hc0 => ?_
  ·
    refine g_ [2] ?_
    refine e_ Tryz.results12 ?_
    first
    | exact True.intro
    | rw [manyX]
      revert hc0
      cases e.ok <;> simp
  refine n_ ?_
  refine wpM_regionK [2] rfl fun Q1 hQ1 => ?_
  simp -implicitDefEqProofs (disch := omega) only [go_sem, wsE_len]
  refine call_p (wordsOf_ok e (by omega) (by rw [vis_ok]; simpa using hc0)) Tryz.call32 rfl rfl rfl (by first | rfl | (simp -implicitDefEqProofs (disch := omega) only [go_sem] <;> rfl)) ?_
  simp -implicitDefEqProofs (disch := omega) only [go_sem, wsE_len]
  refine hQ1 _ _ (S_ ?_);clear hQ1 Q1
  refine e_ Tryz.results12 ?_
  first
  | exact True.intro
  | rw [manyX]
    revert hc0
    cases e.ok <;> simp
theorem slimN_cases (e : Ex) : (∃ n, slimN e = numX n) ∨ (∃ i, i < e.kids.length ∧ slimN e = e.kids.getD i default) ∨ slimN e = e := by
  unfold slimN
  split
  · exact .inl ⟨_, rfl⟩
  · split
    · rename_i h2
      have h2' : e.kids.length = 2 := by simp at h2; omega
      unfold slim2
      repeat' split
      all_goals first | exact .inl ⟨_, rfl⟩ | exact .inr (.inl ⟨0, by omega, rfl⟩) | exact .inr (.inl ⟨1, by omega, rfl⟩) | exact .inr (.inr rfl)
    · exact .inr (.inr rfl)
theorem numX_slim (n : Int) : (numX n).slim = numX n := by
  rw [Ex.slim_eq]; rfl
theorem slim_idem : ∀ (N : Nat) (e : Ex), e.sz ≤ N → e.slim.slim = e.slim := by
  intro N
  induction N with
  | zero => intro e h; have := e.sz_pos; omega
  | succ N ih =>
    intro e h
    have hk : ∀ x ∈ e.kids, x.slim.slim = x.slim := by
      intro x hx
      obtain ⟨i, hi, rfl⟩ := List.getElem_of_mem hx
      have hs := Ex.kid_sz (e := e) (k := i) hi
      rw [List.getD_eq_getElem?_getD, List.getElem?_eq_getElem hi] at hs
      simp only [Option.getD_some] at hs
      exact ih _ (by omega)
    have hl : Ex.slimL (Ex.slimL e.kids) = Ex.slimL e.kids := by
      rw [Ex.slimL_map, Ex.slimL_map, List.map_map]
      exact List.map_congr_left fun x hx => hk x hx
    rw [Ex.slim_node e]
    rcases slimN_cases e.node with ⟨n, hn⟩ | ⟨i, hi, hn⟩ | hn
    · rw [hn]; exact numX_slim n
    · rw [hn]
      have hi' : i < e.kids.length := by
        have e1 : e.node.kids.length = e.kids.length := by rw [show e.node.kids = e.kids.map Ex.slim from Ex.slimL_map _, List.length_map]
        omega
      have hx : e.node.kids.getD i default = e.kids[i].slim := by
        have : e.node.kids = e.kids.map Ex.slim := Ex.slimL_map _
        rw [this]
        simp [List.getD, hi']
      rw [hx]
      exact hk _ (List.getElem_mem hi')
    · rw [hn]
      have : e.node.slim = slimN e.node := by
        rw [Ex.slim_eq]
        congr 1
        show Ex.mk e.kind e.n e.a (Ex.slimL (Ex.slimL e.kids)) = Ex.mk e.kind e.n e.a (Ex.slimL e.kids)
        rw [hl]
      rw [this, hn]
theorem lawSlim_ok (code more : List Nat) (hcode : ∀ x ∈ code, x < 256) (hmore : ∀ x ∈ more, x < 256) : PureF Tryz.prog 3 [.rows 5 (u8s code), .rows 5 (u8s more)] [.bool true] := by
  refine pureF_of Tryz.func3 rfl Tryz.ntmps3 (by simp) T_ ?_
  intro f0 B Q hQ
  refine g_ [0,1] ?_
  refine gD_ [0,1,16] ?_
  refine c_ (fun hc0 => ?_) fun hc0 => ?_
  ·
    refine g_ [4] ?_
    exact e_ Tryz.results3 True.intro
  have hl2 : code.length ≤ 1099511627776 ∧ more.length ≤ 1099511627776 := by
    have := hc0
    simp at this
    omega
  refine n_ ?_
  refine wpM_regionK [1,5] rfl fun Q1 hQ1 => ?_
  refine S_ ?_
  refine call_fn (l := []) (first := []) (cap := []) (ps := [.rows 5 (u8s code)]) (drawSlimX_ok code hcode hl2.1) Tryz.call5 rfl rfl rfl G_ T_ ?_
  rintro out ⟨e, hsz, rfl⟩
  refine S_ ?_
  refine hQ1 _ _ (S_ ?_);clear hQ1 Q1
  refine n_ ?_
  have hz : (slimX e).sz ≤ 1000 := by
    have := e.slim_sz
    unfold slimX
    split
    · omega
    · decide
  refine wpM_regionK [1,5,6] rfl fun Q1 hQ1 => ?_
  refine S_ ?_
  refine cp_ (islimX_ok e (by omega)) Tryz.call6 ?_
  refine hQ1 _ _ (S_ ?_);clear hQ1 Q1
  refine n_ ?_
  refine dr_ mixed [1,5,6,25] 0 2 [B+1, B] [⟨[6],[0],[],[],false⟩,⟨[5],[1],[],[],false⟩,⟨[22],[],[],[],true⟩,⟨[21,23],[],[],[],true⟩,⟨[24],[],[],[],false⟩] [0,1,2,3,4] [[],[],[1],[0,1,2],[0,1,2,3]] 2 ?_
  intro O A K hO hA hK;simp only [atL_cons,atL_nil,Nat.reduceAdd,Nat.zero_add] at hO hA
  simp -implicitDefEqProofs (disch := omega) only [go_sem, same_self, hO, hA]
  refine loud_p (sslimX_ok e (by omega)) Tryz.call8 rfl rfl (by first | rfl | (simp -implicitDefEqProofs (disch := omega) only [go_sem] <;> rfl)) rfl ?_
  simp -implicitDefEqProofs (disch := omega) only [go_sem, same_self, hO, hA]
  refine loud_p (ialike_ok' (slimX e) (slimX e) (by omega)) Tryz.call7 rfl rfl (by first | rfl | (simp -implicitDefEqProofs (disch := omega) only [go_sem] <;> rfl)) rfl ?_
  simp -implicitDefEqProofs (disch := omega) only [go_sem, same_self, hO, hA]
  refine hK _ (S_ ?_);clear hK K hO hA O A
  refine c1_ ?_
  refine n_ ?_
  refine wpM_regionK [1,5,6,28] rfl fun Q1 hQ1 => ?_
  refine S_ ?_
  refine cp_ (exprOk_ok e (by omega)) Tryz.call9 ?_
  refine hQ1 _ _ (S_ ?_);clear hQ1 Q1
  refine c_ (fun hc2 => ?_) fun hc2 => ?_
  ·
    refine g_ [4] ?_
    refine e_ Tryz.results3 ?_
    first
    | exact True.intro
    | have hs0 : slimX e = noX := by rw [slimX, if_neg]; intro h; rw [h] at hc2; cases hc2
      rw [hs0]; rfl
  have hok : e.ok = true := by simpa using hc2
  have hsx : slimX e = e.slim := by rw [slimX, if_pos hok]
  have hok2 : (slimX e).ok = true := by rw [hsx]; exact slim_ok hok
  have hid : slimX (slimX e) = slimX e := by rw [slimX, if_pos hok2, hsx]; exact slim_idem _ e (Nat.le_refl _)
  refine n_ ?_
  refine wpM_regionK [5,6,8] rfl fun Q1 hQ1 => ?_
  refine S_ ?_
  refine call_fn (l := []) (first := []) (cap := []) (ps := [.rows 5 (u8s more)]) (drawExprOf_ok more hmore hl2.2) Tryz.call10 rfl rfl rfl G_ T_ ?_
  rintro out ⟨e9, m, hes9, hm, rfl⟩
  refine S_ ?_
  refine hQ1 _ _ (S_ ?_);clear hQ1 Q1
  refine n_ ?_
  refine dr_ mixed [4] 0 3 [B+1, B, B+3] [⟨[6],[0],[],[],false⟩,⟨[37],[],[],[],true⟩,⟨[38],[],[],[],false⟩,⟨[6,39],[0],[],[],false⟩,⟨[39,40],[],[],[],true⟩,⟨[5,39],[1],[],[],false⟩,⟨[39,42],[],[],[],true⟩,⟨[39,41,43],[],[],[],false⟩,⟨[39,44],[],[],[],false⟩,⟨[45],[],[],[],false⟩,⟨[6,46],[0],[],[],false⟩,⟨[8,46],[2],[],[],false⟩,⟨[46,47,48],[],[],[],true⟩,⟨[5,46],[1],[],[],false⟩,⟨[8,46],[2],[],[],false⟩,⟨[46,50,51],[],[],[],true⟩,⟨[46,49,52],[],[],[],false⟩,⟨[46,53],[],[],[],false⟩,⟨[54],[],[],[],false⟩,⟨[6,55],[0],[],[],false⟩,⟨[55,56],[],[],[],true⟩,⟨[6,55],[0],[],[],false⟩,⟨[55,57,58],[],[],[],true⟩,⟨[55,59],[],[],[],false⟩,⟨[60],[],[],[],false⟩] [0,1,2,3,5,4,6,7,8,9,10,11,13,14,12,15,16,17,18,19,21,20,22,23,24] [[],[0],[0,1],[0,1,2],[0,1,2,3],[0,1,2],[0,1,2,3,4,5],[0,1,2,3,4,5,6],[0,1,2,3,4,5,6,7],[0,1,2,3,4,5,6,7,8],[0,1,2,3,4,5,6,7,8,9],[0,1,2,3,4,5,6,7,8,9],[0,1,2,3,4,5,6,7,8,9,10,11],[0,1,2,3,4,5,6,7,8,9],[0,1,2,3,4,5,6,7,8,9],[0,1,2,3,4,5,6,7,8,9,10,11,12,13,14],[0,1,2,3,4,5,6,7,8,9,10,11,12,13,14,15],[0,1,2,3,4,5,6,7,8,9,10,11,12,13,14,15,16],[0,1,2,3,4,5,6,7,8,9,10,11,12,13,14,15,16,17],[0,1,2,3,4,5,6,7,8,9,10,11,12,13,14,15,16,17,18],[0,1,2,3,4,5,6,7,8,9,10,11,12,13,14,15,16,17,18,19],[0,1,2,3,4,5,6,7,8,9,10,11,12,13,14,15,16,17,18],[0,1,2,3,4,5,6,7,8,9,10,11,12,13,14,15,16,17,18,19,20,21],[0,1,2,3,4,5,6,7,8,9,10,11,12,13,14,15,16,17,18,19,20,21,22],[0,1,2,3,4,5,6,7,8,9,10,11,12,13,14,15,16,17,18,19,20,21,22,23]] 3 ?_
  intro O A K hO hA hK;simp only [atL_cons,atL_nil,Nat.reduceAdd,Nat.zero_add] at hO hA
  refine SE_ ?_
  refine lpE_ (iexprOk_ok (slimX e) (by omega)) Tryz.call11 ?_
  first | refine lg_ (fun hb => imanyX_ok (slimX e) (by omega)) Tryz.call12 ?_ | refine lpE_ (imanyX_ok (slimX e) (by omega)) Tryz.call12 ?_
  first | refine lg_ (fun hb => imanyX_ok e (by omega)) Tryz.call12 ?_ | refine lpE_ (imanyX_ok e (by omega)) Tryz.call12 ?_
  first | refine lg_ (fun hb => iof_ok (slimX e) m (by omega) hm) Tryz.call13 ?_ | refine lpE_ (iof_ok (slimX e) m (by omega) hm) Tryz.call13 ?_
  first | refine lg_ (fun hb => iof_ok e m (by omega) hm) Tryz.call13 ?_ | refine lpE_ (iof_ok e m (by omega) hm) Tryz.call13 ?_
  first | refine lg_ (fun hb => islimX_ok (slimX e) (by omega)) Tryz.call6 ?_ | refine lpE_ (islimX_ok (slimX e) (by omega)) Tryz.call6 ?_
  first | refine lg_ (fun hb => ialike_ok' (slimX (slimX e)) (slimX e) (by rw [hid]; omega)) Tryz.call7 ?_ | refine lpE_ (ialike_ok' (slimX (slimX e)) (slimX e) (by rw [hid]; omega)) Tryz.call7 ?_
  refine hK _ (S_ ?_);clear hK K hO hA O A
  refine e_ Tryz.results3 ?_
  first
  | exact True.intro
  | have h1 : iof (slimX e) m = iof e m := by
      simp only [iof, hok, hok2, Bool.and_true]
      split
      · rename_i hmo
        rw [hsx]
        have hf : formD 6 e = true := by simp only [Ex.ok, Bool.and_eq_true] at hok; exact hok.1
        exact slim_of hmo 6 e hf
      · rfl
    have h2 : manyX (slimX e) ≤ manyX e := by
      rw [manyX, manyX, if_pos hok, if_pos hok2, hsx]
      have := e.slim_sz
      omega
    rw [vis_ok, hok2, h1, hid, same_self]
    simpa using h2
end Go.Proofs.YtmicbfojofcigaaGreat
