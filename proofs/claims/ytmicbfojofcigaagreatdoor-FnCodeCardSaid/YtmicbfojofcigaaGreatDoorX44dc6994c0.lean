/- A part of a proof: lemmas and contracts of functions; the last text of the claim says what is proved. -/
import Derived.Test.YtmicbfojofcigaaGreatDoorX6d29ba7e3e
set_option linter.unusedSectionVars false
set_option linter.unusedSimpArgs false
set_option linter.unusedVariables false
namespace Go.Proofs.YtmicbfojofcigaaGreatDoor
open Go Sg
set_option maxRecDepth 100000
set_option linter.unusedSimpArgs false
set_option linter.unusedVariables false
set_option linter.unusedSectionVars false
set_option maxHeartbeats 4000000
variable [ErrL]
def PS.start (m : MM) (F : Int) : PS := ⟨List.replicate 12 0, 0, 0, F, m⟩
def runCok (m : MM) (p : List GI) (F : Int) : Bool := m.ok && okC p && decide (0 ≤ F) && decide (F ≤ 100)
def mexR (m : MM) (p : List GI) (F : Int) : PS × Bool := mex p ((PS.start m F).meas p + 1) (PS.start m F)
def runC (m : MM) (p : List GI) (F : Int) : MM × Int × Int := if runCok m p F then endO ((mexR m p F).1.m, (mexR m p F).1.F.toNat, (mexR m p F).2) else (noM, 2, 0)
theorem start_pcs (id : Nat) (m : MM) (F : Int) : pcs id (PS.start m F) = [.ptr id 0, .int .i64 0, .int .i64 0, .int .i64 0, .int .i64 0, .int .i64 0, .int .i64 0, .int .i64 0, .int .i64 0, .int .i64 0, .int .i64 0, .int .i64 0, .int .i64 0, .int .i64 0, .int .i64 0, .int .i64 F] := rfl
theorem start_in {m : MM} {p : List GI} {D : List Int} {F : Int} (hD : DOk p D) (hm : m.Six) (h0 : 0 ≤ F) (h1 : F ≤ 100) : (PS.start m F).In p D :=
  ⟨⟨rfl, hm⟩, Int.le_refl _, Int.natCast_nonneg _, hD.z, Int.le_refl _, by show (0 : Int) ≤ 12; omega, h0, h1⟩
theorem enter_act (i : GI) args w : (callFunc (actF i) args).run Tryz.prog w = .ok (.enter (actF i) args) w := by
  unfold actF
  split
  · exact Tryz.call124 args w
  · exact Tryz.call139 args w
theorem icodeRun_ok (m : MM) (p : List GI) (F : Int) (hm : m.Sm) (hs : p.length ≤ 1099511627776) : PureF Tryz.prog 23 [.agg m.cs, .rows 81 (insR p), .int .i64 F] [.agg (runC m p F).1.cs, .int .i64 (runC m p F).2.1, .int .i64 (runC m p F).2.2] := by
  refine pureF_of Tryz.func23 rfl Tryz.ntmps23 (by simp) T_ ?_
  intro f0 B Q hQ
  refine g_ [1,2,3,6] ?_
  refine n_ ?_
  refine wpM_regionK [1,2,6,9,10] rfl fun Q1 hQ1 => ?_
  refine S_ ?_
  refine call_fn (l := []) (first := []) (cap := []) (ps := [.agg m.cs]) (readMem_ok' m hm) Tryz.call42 rfl rfl rfl G_ T_ ?_
  rintro out ⟨x', pp, l2, ⟨⟩, hp, rfl⟩
  refine S_ ?_
  refine hQ1 _ _ (S_ ?_);clear hQ1 Q1
  refine n_ ?_
  refine wpM_regionK [1,2,6,9,33] rfl fun Q1 hQ1 => ?_
  refine SD_ ?_
  first | refine cg_ (fun hb => icodeOk_ok p hs) Tryz.call22 ?_ | refine cpD_ (icodeOk_ok p hs) Tryz.call22 ?_
  refine hQ1 _ _ (S_ ?_);clear hQ1 Q1
  refine c_ (fun hc0 => ?_) fun hc0 => ?_
  ·
    refine g_ [6,7,8] ?_
    have hcs : runC m p F = (noM, 2, 0) := by
      rw [runC, if_neg]
      intro hh
      simp only [runCok, Bool.and_eq_true, decide_eq_true_eq] at hh
      obtain ⟨⟨⟨h1, h2⟩, h3⟩, h4⟩ := hh
      rw [h1, h2, decide_eq_false (by omega : ¬ F < 0), decide_eq_false (by omega : ¬ F > 100)] at hc0
      cases hc0
    refine wpM_le [(6, .ptr (B + 1) 0), (7, .int .i64 2), (8, .int .i64 0)] [(B + 1, .cells 33 [.rows 3 [], .rows 3 [], .rows 3 []])] T_ T_ T_ ?_
    refine e_ Tryz.results23 ?_
    first
    | exact True.intro
    | rw [hcs]
      repeat' apply And.intro
      all_goals first | rfl | trivial
  simp only [Bool.or_eq_false_iff, Bool.not_eq_false', decide_eq_false_iff_not] at hc0
  obtain ⟨⟨⟨h1, h2⟩, h3⟩, h4⟩ := hc0
  have hok : runCok m p F = true := by
    simp only [runCok, Bool.and_eq_true, decide_eq_true_eq]
    exact ⟨⟨⟨h1, h2⟩, by omega⟩, by omega⟩
  have hcs : runC m p F = endO ((mexR m p F).1.m, (mexR m p F).1.F.toNat, (mexR m p F).2) := by rw [runC, if_pos hok]
  have hsix := MM.ok_six h1
  have hpp : pp = .ptr (B + 2) 0 ∧ l2 = m.flat := by
    rcases hp with ⟨_, h2, h3⟩ | ⟨h5, _⟩
    · exact ⟨h2, h3⟩
    · rw [h1] at h5; cases h5
  obtain ⟨rfl, rfl⟩ := hpp
  obtain ⟨D, hD⟩ := okC_D h2
  have hin := start_in (F := F) hD hsix (by omega) (by omega)
  have hlen := hD.len
  refine g_ [1,6,9,11] ?_
  refine n_ ?_
  refine wpM_regionK [6,9,11,12] rfl fun Q1 hQ1 => ?_
  refine S_ ?_
  refine cp_ (acts_ok p (by omega)) Tryz.call51 ?_
  refine hQ1 _ _ (S_ ?_);clear hQ1 Q1
  rw [← start_pcs (B + 2) m F]
  simp only [Nat.add_assoc, Nat.reduceAdd]
  have hR : mex p ((PS.start m F).meas p + 1) (PS.start m F) = mexR m p F := rfl
  generalize hx : mexR m p F = RR at *
  have hS0 : (PS.start m F).m = m := rfl
  generalize hS : PS.start m F = S0 at *
  rw [show ints m.flat = ints S0.m.flat from by rw [hS0]]
  refine n_ ?_
  refine wpM_loopS (fun q n s' => ∃ (S : PS) (g M : Nat), S.In p D ∧ S.meas p = n ∧ n < g ∧ mex p g S = RR ∧ q.M ≤ M ∧ s' = { q with env := q.env, l := [(B + 3, .cells 88 (pcs (B + 2) S)), (B + 2, .cells 122 (ints S.m.flat)), (B + 1, .cells 33 [.emp, .emp, .emp]), (B, .cells 33 [.rows 3 (rowsI m.i), .rows 3 (rowsI m.o), .rows 3 (rowsI m.v)])], M := M }) (S0.meas p) ?_ ?_
  ·
    refine .of' _ _ ⟨S0, _, _, hin, rfl, Nat.lt_succ_self _, hR, Nat.le_refl _, rfl⟩ ?_ ?_ ?_ <;> exact L_
  rintro n s' ⟨S, g, M, hi, hn, hng, hw, hM, rfl⟩
  clear hR
  try dsimp only at hM
  obtain ⟨g, rfl⟩ : ∃ g', g = g' + 1 := ⟨g - 1, by omega⟩
  simp only [mex] at hw
  have hH := hi.ok.H
  have hk0 := hi.k0
  have hk1 := hi.k1
  have hkk : ((S.k.toNat : Nat) : Int) = S.k := by omega
  try refine S_ ?_
  refine n_ ?_
  refine wpM_regionK [6,9,11,12,47] rfl fun Q1 hQ1 => ?_
  simp -implicitDefEqProofs (disch := omega) only [go_sem, pcs_len (B + 2) S hH, pcs_k (B + 2) S hH]
  refine hQ1 _ _ (S_ ?_);clear hQ1 Q1
  refine c_ (fun hc1 => ?_) fun hc1 => ?_
  ·
    have hai := act_in hD hi hc1
    have hat := hD.at' S.k.toNat (by omega)
    rw [if_pos hc1] at hw
    refine n_ ?_
    refine wpM_regionK [6,9,11,12,13] rfl fun Q1 hQ1 => ?_
    simp -implicitDefEqProofs (disch := omega) only [go_sem, pcs_len (B + 2) S hH, pcs_k (B + 2) S hH, hkk]
    refine hQ1 _ _ (S_ ?_);clear hQ1 Q1
    rw [actV_eq]
    refine n_ ?_
    refine wpM_regionK [6,9,11,12,13] rfl fun Q1 hQ1 => ?_
    simp -implicitDefEqProofs (disch := omega) only [go_sem, pcs_len (B + 2) S hH, pcs_k (B + 2) S hH, pcs_setk (B + 2) S hH, show IntKind.i64.wrap (S.k + 1) = S.k + 1 from wrap64 ⟨by omega, by omega⟩]
    refine hQ1 _ _ (S_ ?_);clear hQ1 Q1
    generalize hI : p.getD S.k.toNat default = i at *
    have hnx : ({ S with k := S.k + 1 } : PS) = S.nx := rfl
    have hnm : S.m = S.nx.m := rfl
    rw [hnx, hnm]
    refine n_ ?_
    refine wpM_regionK [6,9,11,12,65] rfl fun Q1 hQ1 => ?_
    refine S_ ?_
    refine call_fn (l := pfoot (B + 3) (B + 2) S.nx) (first := []) (cap := actCap i) (ps := [.ptr (B + 3) 0]) (doK (B + 3) (B + 2) (by omega) S.nx ⟨hH, hi.ok.m⟩ i S.k.toNat p.length (hI ▸ hat.ok) ?_ hi.n1 ?_ hi.n0 hi.F0 hi.F1) (enter_act i) rfl rfl T_ T_ T_ ?_
    · rw [← hI]; have := hat.tk; rw [hi.n] at this; exact this
    · rw [← hI]; have := hat.hi; unfold tD at this; rw [hi.n] at this; exact this
    rintro out rfl
    refine S_ ?_
    refine hQ1 _ _ (S_ ?_);clear hQ1 Q1
    refine c_ (fun hc2 => ?_) fun hc2 => ?_
    ·
      have hc2' : (S.nx.act i).2 = false := by simpa using hc2
      rw [if_neg (by rw [hc2']; simp)] at hw
      have hsx : (S.nx.act i).1.m.Six := by rw [hai.2 hc2']; exact hi.ok.m
      refine n_ ?_
      refine wpM_regionK [6,7,8] rfl fun Q1 hQ1 => ?_
      refine S_ ?_
      refine call_fn (l := mobj (B + 2) (S.nx.act i).1.m) (first := []) (cap := []) (ps := [.ptr (B + 2) 0, .int .i64 0, errV true]) (ended_ok (B + 2) (S.nx.act i).1.m hsx 0 true) Tryz.call44 rfl rfl rfl G_ T_ ?_
      rintro out ⟨x2, y2, z2, ⟨⟩, rfl⟩
      refine S_ ?_
      refine hQ1 _ _ (S_ ?_);clear hQ1 Q1
      refine wpM_frz [M, M + 1, M + 2] ((S.nx.act i).1.m.tb M (M + 1) (M + 2)) (by intro q hq; simp at hq; rcases hq with rfl | rfl | rfl <;> simp -implicitDefEqProofs (disch := omega) only [go_sem]) ((S.nx.act i).1.m.frz hsx T_ T_ T_) ?_
      simp -implicitDefEqProofs (disch := omega) only [go_sem, MM.tb]
      refine e_ Tryz.results23 ?_
      first
      | exact True.intro
      | rw [hcs, ← hw]
        repeat' apply And.intro
        all_goals first | rfl | trivial
    have hc2' : (S.nx.act i).2 = true := by simpa using hc2
    rw [if_pos hc2'] at hw
    obtain ⟨hin', hml⟩ := hai.1 hc2'
    refine n_ ?_
    refine .of' _ _ ⟨(S.nx.act i).1.meas p, by omega, (S.nx.act i).1, g, _, hin', rfl, by omega, hw, ?_, rfl⟩ ?_ ?_ ?_
    · exact M_
    all_goals exact L_
  rw [if_neg hc1] at hw
  refine n_ ?_
  refine wpM_regionK [6,7,8] rfl fun Q1 hQ1 => ?_
  simp -implicitDefEqProofs (disch := omega) only [go_sem, pcs_len (B + 2) S hH, pcs_F (B + 2) S hH]
  refine call_fn (l := mobj (B + 2) S.m) (first := []) (cap := []) (ps := [.ptr (B + 2) 0, .int .i64 S.F, errV false]) (ended_ok (B + 2) S.m hi.ok.m S.F false) Tryz.call44 rfl rfl rfl G_ T_ ?_
  rintro out ⟨x2, y2, z2, ⟨⟩, rfl⟩
  simp -implicitDefEqProofs (disch := omega) only [go_sem, pcs_len (B + 2) S hH, pcs_F (B + 2) S hH]
  refine hQ1 _ _ (S_ ?_);clear hQ1 Q1
  have hFn : ((S.F.toNat : Nat) : Int) = S.F := by have := hi.F0; omega
  refine wpM_frz [M, M + 1, M + 2] (S.m.tb M (M + 1) (M + 2)) (by intro q hq; simp at hq; rcases hq with rfl | rfl | rfl <;> simp -implicitDefEqProofs (disch := omega) only [go_sem]) (S.m.frz hi.ok.m T_ T_ T_) ?_
  simp -implicitDefEqProofs (disch := omega) only [go_sem, MM.tb]
  refine e_ Tryz.results23 ?_
  first
  | exact True.intro
  | rw [hcs, ← hw]
    simp only [endO, hFn]
    repeat' apply And.intro
    all_goals first | rfl | trivial
end Go.Proofs.YtmicbfojofcigaaGreatDoor
namespace Go.Proofs.YtmicbfojofcigaaGreatDoor
open Go Sg
set_option maxRecDepth 100000
set_option linter.unusedSimpArgs false
set_option linter.unusedVariables false
set_option linter.unusedSectionVars false
set_option maxHeartbeats 4000000
variable [ErrL]
def At (p : List GI) (k : Nat) (c : List GI) : Prop := ∃ a b, p = a ++ c ++ b ∧ a.length = k
theorem At.fst {p c d : List GI} {k : Nat} (h : At p k (c ++ d)) : At p k c := by
  obtain ⟨a, b, rfl, rfl⟩ := h
  exact ⟨a, d ++ b, by simp, rfl⟩
theorem At.snd {p c d : List GI} {k : Nat} (h : At p k (c ++ d)) : At p (k + c.length) d := by
  obtain ⟨a, b, rfl, rfl⟩ := h
  exact ⟨a ++ c, b, by simp, by simp⟩
theorem At.one {p : List GI} {i : GI} {k : Nat} (h : At p k [i]) : k < p.length ∧ p.getD k default = i := by
  obtain ⟨a, b, rfl, rfl⟩ := h
  refine ⟨by simp, by simp [List.getD]⟩
theorem At.len {p c : List GI} {k : Nat} (h : At p k c) : k + c.length ≤ p.length := by
  obtain ⟨a, b, rfl, rfl⟩ := h
  simp
theorem tellB_of {L : List Int} {k : Nat} {v : Int} (hk : k < L.length) (h : L.getD k 0 = -1 ∨ L.getD k 0 = v) : tellB L k v = true := by
  unfold tellB tellL
  rcases h with h | h
  · rw [if_pos (by rw [h]; rfl)]
    simp [List.getD, hk]
  · split
    · simp [List.getD, hk]
    · rw [h]; simp
theorem tellL_at {L : List Int} {k : Nat} {v : Int} (hk : k < L.length) (h : L.getD k 0 = -1 ∨ L.getD k 0 = v) : (tellL L k v).getD k 0 = v := eq_of_beq (tellB_of hk h)
theorem tellL_ne {L : List Int} {k j : Nat} {v : Int} (h : j ≠ k) : (tellL L k v).getD j 0 = L.getD j 0 := by
  unfold tellL
  split
  · simp only [List.getD, List.getElem?_set]; rw [if_neg (Ne.symm h)]
  · rfl
theorem stepI_ok {i : GI} {N k : Nat} {L : List Int} (hok : i.ok k N = true) (hk : k < N) (hl : L.length = N + 1) (hL : 0 ≤ L.getD k 0) (ht : i.takes ≤ L.getD k 0) (hi : tD i L k ≤ 12)
    (hg : i.goes = true → L.getD i.n.toNat 0 = -1 ∨ L.getD i.n.toNat 0 = tD i L k) (hf : i.follows = true → L.getD (k + 1) 0 = -1 ∨ L.getD (k + 1) 0 = tD i L k) :
    ∃ L', stepI i N L k = some L' ∧ L'.length = N + 1 ∧ (i.goes = true → L'.getD i.n.toNat 0 = tD i L k) ∧ (i.follows = true → L'.getD (k + 1) 0 = tD i L k) ∧ ∀ j, (i.goes = true → j ≠ i.n.toNat) → (i.follows = true → j ≠ k + 1) → L'.getD j 0 = L.getD j 0 := by
  have hb0 : bad0D i N L k = false := by
    simp only [bad0D, hok, Bool.not_true, Bool.false_or, Bool.or_eq_false_iff, decide_eq_false_iff_not, beq_eq_false_iff_ne]
    omega
  have gi := fun hg => goes_in (i := i) (k := k) (n := N) hk hok hg
  have hb1 : bad1D i L (tD i L k) = false := by
    simp only [bad1D, Bool.or_eq_false_iff, decide_eq_false_iff_not]
    refine ⟨by omega, ?_⟩
    cases hgo : i.goes with
    | false => rfl
    | true => rw [tellB_of (by rw [hl]; exact (gi hgo).2) (hg hgo)]; rfl
  have hL1 : L1D i L (tD i L k) = if i.goes then tellL L i.n.toNat (tD i L k) else L := by
    unfold L1D; rw [show decide (tD i L k > 12) = false by simp; omega]; simp
  have hf1 : i.follows = true → (L1D i L (tD i L k)).getD (k + 1) 0 = -1 ∨ (L1D i L (tD i L k)).getD (k + 1) 0 = tD i L k := by
    intro h
    rw [hL1]
    split
    · rename_i hgo
      by_cases e : k + 1 = i.n.toNat
      · right; rw [e]; exact tellL_at (by rw [hl]; exact (gi hgo).2) (hg hgo)
      · rw [tellL_ne e]; exact hf h
    · exact hf h
  have hlen1 : (L1D i L (tD i L k)).length = N + 1 := by rw [L1D_len, hl]
  have hb2 : bad2D i L k (tD i L k) = false := by
    simp only [bad2D, hb1, Bool.false_or]
    cases hfo : i.follows with
    | false => rfl
    | true => rw [tellB_of (by rw [hlen1]; omega) (hf1 hfo)]; rfl
  have hL2 : L2D i L k (tD i L k) = if i.follows then tellL (L1D i L (tD i L k)) (k + 1) (tD i L k) else L1D i L (tD i L k) := by
    unfold L2D; rw [hb1]; simp
  refine ⟨L2D i L k (tD i L k), by rw [stepI, if_neg (by rw [hb0]; simp), if_neg (by rw [hb2]; simp)], by rw [L2D_len, hl], fun h => ?_, fun h => ?_, fun j h1 h2 => ?_⟩
  · have e1 : (L1D i L (tD i L k)).getD i.n.toNat 0 = tD i L k := by rw [hL1, if_pos h]; exact tellL_at (by rw [hl]; exact (gi h).2) (hg h)
    rw [hL2]
    split
    · rename_i hfo
      by_cases e : i.n.toNat = k + 1
      · rw [e]; exact tellL_at (by rw [hlen1]; omega) (hf1 hfo)
      · rw [tellL_ne e]; exact e1
    · exact e1
  · rw [hL2, if_pos h]; exact tellL_at (by rw [hlen1]; omega) (hf1 h)
  · have e1 : (L1D i L (tD i L k)).getD j 0 = L.getD j 0 := by
      rw [hL1]; split
      · rename_i hgo; exact tellL_ne (h1 hgo)
      · rfl
    rw [hL2]; split
    · rename_i hfo; rw [tellL_ne (h2 hfo), e1]
    · exact e1
theorem run_one {p : List GI} {i : GI} {k : Nat} {L : List Int} (hp : At p k [i]) (hr : runD' p k = some L) (hl : L.length = p.length + 1) (hok : i.ok k p.length = true) (hL : 0 ≤ L.getD k 0) (ht : i.takes ≤ L.getD k 0) (hi : tD i L k ≤ 12)
    (hg : i.goes = true → L.getD i.n.toNat 0 = -1 ∨ L.getD i.n.toNat 0 = tD i L k) (hf : i.follows = true → L.getD (k + 1) 0 = -1 ∨ L.getD (k + 1) 0 = tD i L k) :
    ∃ L', runD' p (k + 1) = some L' ∧ L'.length = p.length + 1 ∧ (i.goes = true → L'.getD i.n.toNat 0 = tD i L k) ∧ (i.follows = true → L'.getD (k + 1) 0 = tD i L k) ∧ ∀ j, (i.goes = true → j ≠ i.n.toNat) → (i.follows = true → j ≠ k + 1) → L'.getD j 0 = L.getD j 0 := by
  obtain ⟨h1, h2⟩ := hp.one
  obtain ⟨L', a, b⟩ := stepI_ok (i := i) (N := p.length) (k := k) (L := L) hok h1 hl hL ht hi hg hf
  refine ⟨L', ?_, b⟩
  rw [runD', hr]
  show stepD p L k = _
  rw [stepD, h2]
  exact a
theorem form_inv2 {d : Nat} {e : Ex} (h : formD (d + 1) e = true) (k : Nat) (n : Int) : (lastI e).ok k n = true ∧ (lastI e).goes = false ∧ (lastI e).follows = true ∧ (lastI e).takes = e.kids.length ∧ (lastI e).gives = 1 ∧ e.kids.length ≤ 2 ∧ ∀ x ∈ e.kids, formD d x = true := by
  simp only [formD] at h
  split at h
  · cases h
  · rename_i h1
    split at h
    · cases h
    · rename_i h2
      split at h
      · cases h
      · rename_i h3
        have h1' : kidsN e.kind = (e.kids.length : Int) := by simpa using h1
        have hall := List.all_eq_true.1 h
        simp only [Bool.or_eq_true, Bool.and_eq_true, not_or, not_and, beq_iff_eq, bne_iff_ne, ne_eq, Bool.not_eq_true', Bool.not_eq_false, Decidable.not_not] at h2 h3
        by_cases q1 : e.kind = 1
        · have hk : e.kids.length = 0 := by have := h1'; rw [q1] at this; simp [kidsN] at this; omega
          refine ⟨?_, ?_, ?_, ?_, ?_, by omega, hall⟩
          · have := h2.1 q1
            simp [lastI, q1, GI.ok, isNum_cut, GI.noA, A0, this]
          all_goals simp [lastI, q1, GI.goes, GI.follows, GI.takes, GI.gives, hk]
        by_cases q2 : e.kind = 2
        · have hk : e.kids.length = 0 := by have := h1'; rw [q2] at this; simp [kidsN] at this; omega
          refine ⟨?_, ?_, ?_, ?_, ?_, by omega, hall⟩
          · have := h3.1 q2
            simp [lastI, q2, GI.ok, this]
          all_goals simp [lastI, q2, GI.goes, GI.follows, GI.takes, GI.gives, hk]
        by_cases q10 : e.kind = 10
        · have hk : e.kids.length = 1 := by have := h1'; rw [q10] at this; simp [kidsN] at this; omega
          refine ⟨?_, ?_, ?_, ?_, ?_, by omega, hall⟩
          · simp [lastI, q10, GI.ok, GI.noA, A0]
          all_goals simp [lastI, q10, GI.goes, GI.follows, GI.takes, GI.gives, hk]
        · have hr : 3 ≤ e.kind ∧ e.kind ≤ 9 := by
            unfold kidsN at h1'
            simp only [q1, q2, q10, beq_iff_eq, Bool.or_eq_true, or_self, if_false, Bool.and_eq_true, decide_eq_true_eq] at h1'
            split at h1'
            · omega
            · omega
          have hk : e.kids.length = 2 := by
            unfold kidsN at h1'
            simp only [q1, q2, q10, beq_iff_eq, Bool.or_eq_true, or_self, if_false, Bool.and_eq_true, decide_eq_true_eq] at h1'
            rw [if_pos (by omega)] at h1'
            omega
          refine ⟨?_, ?_, ?_, ?_, ?_, by omega, hall⟩
          · simp [lastI, q1, q2, q10, GI.ok, isTwo, GI.noA, A0]; omega
          all_goals simp [lastI, q1, q2, q10, GI.goes, GI.follows, GI.takes, GI.gives, hk]
theorem ex_run (p : List GI) : ∀ d : Nat, (∀ e : Ex, formD d e = true → ∀ (k : Nat) (n : Int) (L : List Int), At p k e.cd → runD' p k = some L → L.length = p.length + 1 → L.getD k 0 = n → 0 ≤ n → n + d ≤ 12 → (∀ j, k < j → j ≤ k + e.cd.length → L.getD j 0 = -1) →
      ∃ L', runD' p (k + e.cd.length) = some L' ∧ L'.length = p.length + 1 ∧ L'.getD (k + e.cd.length) 0 = n + 1 ∧ ∀ j, j ≤ k ∨ k + e.cd.length < j → L'.getD j 0 = L.getD j 0) ∧
    (∀ l : List Ex, (∀ x ∈ l, formD d x = true) → ∀ (k : Nat) (n : Int) (L : List Int), At p k (Ex.cdL l) → runD' p k = some L → L.length = p.length + 1 → L.getD k 0 = n → 0 ≤ n → n + l.length + d ≤ 13 → (∀ j, k < j → j ≤ k + (Ex.cdL l).length → L.getD j 0 = -1) →
      ∃ L', runD' p (k + (Ex.cdL l).length) = some L' ∧ L'.length = p.length + 1 ∧ L'.getD (k + (Ex.cdL l).length) 0 = n + l.length ∧ ∀ j, j ≤ k ∨ k + (Ex.cdL l).length < j → L'.getD j 0 = L.getD j 0) := by
  intro d
  have lst : ∀ d, (∀ e : Ex, formD d e = true → ∀ (k : Nat) (n : Int) (L : List Int), At p k e.cd → runD' p k = some L → L.length = p.length + 1 → L.getD k 0 = n → 0 ≤ n → n + d ≤ 12 → (∀ j, k < j → j ≤ k + e.cd.length → L.getD j 0 = -1) →
      ∃ L', runD' p (k + e.cd.length) = some L' ∧ L'.length = p.length + 1 ∧ L'.getD (k + e.cd.length) 0 = n + 1 ∧ ∀ j, j ≤ k ∨ k + e.cd.length < j → L'.getD j 0 = L.getD j 0) →
    (∀ l : List Ex, (∀ x ∈ l, formD d x = true) → ∀ (k : Nat) (n : Int) (L : List Int), At p k (Ex.cdL l) → runD' p k = some L → L.length = p.length + 1 → L.getD k 0 = n → 0 ≤ n → n + l.length + d ≤ 13 → (∀ j, k < j → j ≤ k + (Ex.cdL l).length → L.getD j 0 = -1) →
      ∃ L', runD' p (k + (Ex.cdL l).length) = some L' ∧ L'.length = p.length + 1 ∧ L'.getD (k + (Ex.cdL l).length) 0 = n + l.length ∧ ∀ j, j ≤ k ∨ k + (Ex.cdL l).length < j → L'.getD j 0 = L.getD j 0) := by
    intro d he l
    induction l with
    | nil =>
      intro _ k n L hp hr hl hn h0 h1 hj
      exact ⟨L, hr, hl, by simpa [Ex.cdL] using hn, fun _ _ => rfl⟩
    | cons e l ih =>
      intro hf k n L hp hr hl hn h0 h1 hj
      simp only [Ex.cdL, List.length_append, List.length_cons] at hp hj h1 ⊢
      obtain ⟨L1, a1, a2, a3, a4⟩ := he e (hf e (by simp)) k n L hp.fst hr hl hn h0 (by omega) (fun j g1 g2 => hj j g1 (by omega))
      obtain ⟨L2, b1, b2, b3, b4⟩ := ih (fun x hx => hf x (by simp [hx])) (k + e.cd.length) (n + 1) L1 hp.snd a1 a2 a3 (by omega) (by omega) (fun j g1 g2 => by rw [a4 j (.inr g1)]; exact hj j (by omega) (by omega))
      refine ⟨L2, by rw [← Nat.add_assoc]; exact b1, b2, by rw [← Nat.add_assoc, b3]; omega, fun j g => ?_⟩
      rw [b4 j (by omega), a4 j (by omega)]
  refine ⟨?_, lst d ?_⟩
  all_goals
    induction d with
    | zero => intro e h; simp [formD] at h
    | succ d ih =>
      intro e hf k n L hp hr hl hn h0 h1 hj
      obtain ⟨f1, f2, f3, f4, f5, f6, f7⟩ := form_inv2 hf (k + (Ex.cdL e.kids).length) p.length
      rw [Ex.cd_eq] at hp hj ⊢
      simp only [List.length_append, List.length_cons, List.length_nil] at hj ⊢
      obtain ⟨L1, a1, a2, a3, a4⟩ := lst d ih e.kids f7 k n L hp.fst hr hl hn h0 (by omega) (fun j g1 g2 => hj j g1 (by omega))
      have ht : tD (lastI e) L1 (k + (Ex.cdL e.kids).length) = n + 1 := by unfold tD; rw [a3, f4, f5]; omega
      obtain ⟨L2, b1, b2, b3, b4, b5⟩ := run_one hp.snd a1 a2 f1 (by rw [a3]; omega) (by rw [a3, f4]; omega) (by rw [ht]; omega) (fun h => by rw [f2] at h; cases h) (fun _ => .inl (by
        rw [a4 _ (.inr (by omega))]; exact hj _ (by omega) (by omega)))
      refine ⟨L2, by rw [← Nat.add_assoc]; exact b1, b2, ?_, fun j g => ?_⟩
      · have := b4 f3
        rw [ht] at this
        rw [← Nat.add_assoc, Nat.zero_add]; exact this
      · rw [b5 j (fun h => by rw [f2] at h; cases h) (fun _ => by omega), a4 j (by omega)]
def StR (p c : List GI) (k : Nat) : Prop := ∀ L, runD' p k = some L → L.length = p.length + 1 → L.getD k 0 = 0 → (∀ j, k < j → j < k + c.length → L.getD j 0 = -1) → (L.getD (k + c.length) 0 = -1 ∨ L.getD (k + c.length) 0 = 0) →
  ∃ L', runD' p (k + c.length) = some L' ∧ L'.length = p.length + 1 ∧ L'.getD (k + c.length) 0 = 0 ∧ ∀ j, j < k ∨ k + c.length < j ∨ j = k → L'.getD j 0 = L.getD j 0
theorem stR_list (p : List GI) (l : List Sm) (h : ∀ s ∈ l, ∀ k, At p k (s.cd k) → StR p (s.cd k) k) : ∀ k, At p k (Sm.cdL l k) → StR p (Sm.cdL l k) k := by
  induction l with
  | nil =>
    intro k _ L hr hl hz _ _
    exact ⟨L, hr, hl, by simpa [Sm.cdL] using hz, fun _ _ => rfl⟩
  | cons s l ih =>
    intro k hp L hr hl hz hj he
    simp only [Sm.cdL, List.length_append] at hp hj he ⊢
    generalize hc : (s.cd k) = c at *
    generalize hd : Sm.cdL l (k + c.length) = d at *
    have hs : StR p c k := hc ▸ h s (by simp) k (by rw [hc]; exact hp.fst)
    have ih' : StR p d (k + c.length) := hd ▸ ih (fun s hs => h s (by simp [hs])) (k + c.length) (by rw [hd]; exact hp.snd)
    have hend : L.getD (k + c.length) 0 = -1 ∨ L.getD (k + c.length) 0 = 0 := by
      by_cases h0 : d.length = 0
      · rw [h0, Nat.add_zero] at he; exact he
      · by_cases hc0 : c.length = 0
        · right; rw [hc0, Nat.add_zero]; exact hz
        · left; exact hj _ (by omega) (by omega)
    obtain ⟨L1, a1, a2, a3, a4⟩ := hs L hr hl hz (fun j g1 g2 => hj j g1 (by omega)) hend
    obtain ⟨L2, b1, b2, b3, b4⟩ := ih' L1 a1 a2 a3 (fun j g1 g2 => by rw [a4 j (by omega)]; exact hj j (by omega) (by omega)) (by
      by_cases h0 : d.length = 0
      · right; rw [h0, Nat.add_zero]; exact a3
      · rw [a4 _ (by omega), Nat.add_assoc]; exact he)
    refine ⟨L2, by rw [← Nat.add_assoc]; exact b1, b2, by rw [← Nat.add_assoc]; exact b3, fun j g => ?_⟩
    by_cases hjk : j = k + c.length
    · subst hjk
      rw [b4 _ (by omega)]
      by_cases hc0 : c.length = 0
      · rw [a4 _ (by omega)]
      · omega
    · rw [b4 j (by omega), a4 j (by omega)]
theorem ex_run' {p : List GI} {e : Ex} (he : e.ok = true) {k : Nat} {L : List Int} (hp : At p k e.cd) (hr : runD' p k = some L) (hl : L.length = p.length + 1) (hn : L.getD k 0 = 0) (hj : ∀ j, k < j → j ≤ k + e.cd.length → L.getD j 0 = -1) :
    ∃ L', runD' p (k + e.cd.length) = some L' ∧ L'.length = p.length + 1 ∧ L'.getD (k + e.cd.length) 0 = 1 ∧ ∀ j, j ≤ k ∨ k + e.cd.length < j → L'.getD j 0 = L.getD j 0 := by
  simp only [Ex.ok, Bool.and_eq_true] at he
  have := (ex_run p 6).1 e he.1 k 0 L hp hr hl hn (by omega) (by omega) hj
  simpa using this
theorem cd_pos (e : Ex) : 0 < e.cd.length := by rw [Ex.cd_len]; exact e.sz_pos
theorem sm_run (p : List GI) : ∀ (d : Nat) (l : List Sm), formS d l = true → ∀ k, At p k (Sm.cdL l k) → StR p (Sm.cdL l k) k := by
  intro d
  induction d with
  | zero =>
    intro l hf k hp
    simp only [formS, beq_iff_eq] at hf
    have : l = [] := List.eq_nil_of_length_eq_zero hf
    subst this
    exact stR_list p [] (fun s hs => by simp at hs) k hp
  | succ d ih =>
    intro l hf
    refine stR_list p l fun s hs k hp => ?_
    have hf := List.all_eq_true.1 hf s hs
    simp only [Bool.and_eq_true] at hf
    obtain ⟨⟨⟨hpl, hok⟩, hth⟩, hel⟩ := hf
    have hA := ih s.th hth
    have hB := ih s.el hel
    have hE := cd_pos s.e
    intro L hr hl hz hj he
    rw [Sm.cd_eq] at hp hj he ⊢
    unfold Sm.plain at hpl
    split
    ·
      rename_i q1
      rw [if_pos q1] at hp hj he
      simp only [q1, if_true, Bool.and_eq_true, bne_iff_ne, ne_eq] at hpl
      simp only [List.length_append, List.length_cons, List.length_nil, Nat.zero_add] at hj he ⊢
      obtain ⟨L1, a1, a2, a3, a4⟩ := ex_run' hok hp.fst hr hl hz (fun j g1 g2 => hj j g1 (by omega))
      have ht : tD ⟨3, 0, s.to'⟩ L1 (k + s.e.cd.length) = 0 := by unfold tD; rw [a3]; simp [GI.takes, GI.gives]
      obtain ⟨L2, b1, b2, b3, b4, b5⟩ := run_one hp.snd a1 a2 (by simp [GI.ok, hpl.1.1.1]; exact hpl.1.1.2) (by omega) (by rw [a3]; simp [GI.takes]) (by rw [ht]; omega) (fun h => by simp [GI.goes] at h) (fun _ => by rw [ht, a4 _ (.inr (by omega))]; exact he)
      refine ⟨L2, by rw [← Nat.add_assoc]; exact b1, b2, ?_, fun j g => ?_⟩
      · have := b4 rfl
        rw [ht] at this
        rw [← Nat.add_assoc]; exact this
      · rw [b5 j (fun h => by simp [GI.goes] at h) (fun _ => by omega), a4 j (by omega)]
    rename_i q1
    rw [if_neg q1] at hp hj he
    split
    ·
      rename_i q2
      rw [if_pos q2] at hp hj he
      generalize hAe : Sm.cdL s.th (k + s.e.cd.length + 1) = A at *
      generalize hBe : Sm.cdL s.el (k + s.e.cd.length + 1 + A.length + 1) = C at *
      have h6 := hp.fst.fst.fst.snd
      have hAp := hp.fst.fst.snd
      have h7 := hp.fst.snd
      have hBp := hp.snd
      have hEp := hp.fst.fst.fst.fst
      have hplen := hp.len
      simp only [List.length_append, List.length_cons, List.length_nil, Nat.zero_add, ← Nat.add_assoc] at h6 hAp h7 hBp hj he hplen ⊢
      generalize hEl : s.e.cd.length = e at *
      have hA' := hA (k + e + 1) (by rw [hAe]; exact hAp)
      have hB' := hB (k + e + 1 + A.length + 1) (by rw [hBe]; exact hBp)
      rw [hAe] at hA'
      rw [hBe] at hB'
      obtain ⟨L1, a1, a2, a3, a4⟩ := ex_run' hok hEp hr hl hz (fun j g1 g2 => hj j g1 (by omega))
      rw [hEl] at a1 a3 a4
      have ht : tD ⟨6, (k + e + 1 + A.length + 1 : Nat), A0⟩ L1 (k + e) = 0 := by unfold tD; rw [a3]; simp [GI.takes, GI.gives]
      have hnn : ((((k + e + 1 + A.length + 1 : Nat) : Int)).toNat) = k + e + 1 + A.length + 1 := by omega
      have e1 : ∀ j, k < j → j < k + e + 1 + A.length + 1 + C.length → k + e < j → L1.getD j 0 = -1 := fun j g1 g2 g3 => by rw [a4 _ (.inr g3)]; exact hj j g1 g2
      obtain ⟨L2, b1, b2, b3, b4, b5⟩ := run_one h6 a1 a2 (by simp [GI.ok, GI.noA, A0]; omega) (by omega) (by rw [a3]; simp [GI.takes]) (by rw [ht]; omega) (fun _ => by
          rw [ht]
          show L1.getD (((k + e + 1 + A.length + 1 : Nat) : Int)).toNat 0 = -1 ∨ _
          rw [hnn]
          by_cases h0 : C.length = 0
          · rw [a4 _ (.inr (by omega))]; rw [h0, Nat.add_zero] at he; exact he
          · left; exact e1 _ (by omega) (by omega) (by omega)) (fun _ => by
          left; exact e1 _ (by omega) (by omega) (by omega))
      have b3 := b3 rfl
      have b4 := b4 rfl
      rw [ht] at b3 b4
      change L2.getD (((k + e + 1 + A.length + 1 : Nat) : Int)).toNat 0 = 0 at b3
      have b5 : ∀ j, j ≠ k + e + 1 + A.length + 1 → j ≠ k + e + 1 → L2.getD j 0 = L1.getD j 0 := fun j g1 g2 => b5 j (fun _ => by show j ≠ (((k + e + 1 + A.length + 1 : Nat) : Int)).toNat; rw [hnn]; exact g1) (fun _ => g2)
      rw [hnn] at b3
      obtain ⟨L3, c1, c2, c3, c4⟩ := hA' L2 b1 b2 b4 (fun j g1 g2 => by rw [b5 j (by omega) (by omega)]; exact e1 j (by omega) (by omega) (by omega)) (by
        by_cases h0 : A.length = 0
        · right; rw [h0, Nat.add_zero]; exact b4
        · left; rw [b5 _ (by omega) (by omega)]; exact e1 _ (by omega) (by omega) (by omega))
      have hn3 : ((((k + e + 1 + A.length + 1 + C.length : Nat) : Int)).toNat) = k + e + 1 + A.length + 1 + C.length := by omega
      have ht3 : tD ⟨7, (k + e + 1 + A.length + 1 + C.length : Nat), A0⟩ L3 (k + e + 1 + A.length) = 0 := by unfold tD; rw [c3]; simp [GI.takes, GI.gives]
      have hend : L3.getD (k + e + 1 + A.length + 1 + C.length) 0 = -1 ∨ L3.getD (k + e + 1 + A.length + 1 + C.length) 0 = 0 := by
        rw [c4 _ (by omega)]
        by_cases h0 : C.length = 0
        · right; rw [h0, Nat.add_zero]; exact b3
        · rw [b5 _ (by omega) (by omega), a4 _ (.inr (by omega))]; exact he
      obtain ⟨L4, d1, d2, d3, d4, d5⟩ := run_one h7 c1 c2 (by simp [GI.ok, GI.noA, A0]; omega) (by omega) (by rw [c3]; simp [GI.takes]) (by rw [ht3]; omega) (fun _ => by
          rw [ht3]
          show L3.getD (((k + e + 1 + A.length + 1 + C.length : Nat) : Int)).toNat 0 = -1 ∨ _
          rw [hn3]; exact hend) (fun h => by simp [GI.follows] at h)
      have d3 := d3 rfl
      rw [ht3] at d3
      change L4.getD (((k + e + 1 + A.length + 1 + C.length : Nat) : Int)).toNat 0 = 0 at d3
      have d5 : ∀ j, j ≠ k + e + 1 + A.length + 1 + C.length → L4.getD j 0 = L3.getD j 0 := fun j g1 => d5 j (fun _ => by show j ≠ (((k + e + 1 + A.length + 1 + C.length : Nat) : Int)).toNat; rw [hn3]; exact g1) (fun h => by simp [GI.follows] at h)
      rw [hn3] at d3
      obtain ⟨L5, f1, f2, f3, f4⟩ := hB' L4 d1 d2 (by
          by_cases h0 : C.length = 0
          · rw [h0, Nat.add_zero] at d3; exact d3
          · rw [d5 _ (by omega), c4 _ (by omega)]; exact b3) (fun j g1 g2 => by rw [d5 j (by omega), c4 j (by omega), b5 j (by omega) (by omega)]; exact e1 j (by omega) (by omega) (by omega)) (.inr d3)
      refine ⟨L5, f1, f2, f3, fun j g => ?_⟩
      rw [f4 j (by omega), d5 j (by omega), c4 j (by omega), b5 j (by omega) (by omega), a4 j (by omega)]
    rename_i q2
    rw [if_neg q2] at hp hj he
    split
    ·
      rename_i q3
      rw [if_pos q3] at hp hj he
      generalize hAe : Sm.cdL s.th (k + s.e.cd.length + 1) = A at *
      have h6 := hp.fst.fst.snd
      have hAp := hp.fst.snd
      have h8 := hp.snd
      have hEp := hp.fst.fst.fst
      have hplen := hp.len
      simp only [List.length_append, List.length_cons, List.length_nil, Nat.zero_add, ← Nat.add_assoc] at h6 hAp h8 hj he hplen ⊢
      generalize hEl : s.e.cd.length = e at *
      have hA' := hA (k + e + 1) (by rw [hAe]; exact hAp)
      rw [hAe] at hA'
      obtain ⟨L1, a1, a2, a3, a4⟩ := ex_run' hok hEp hr hl hz (fun j g1 g2 => hj j g1 (by omega))
      rw [hEl] at a1 a3 a4
      have ht : tD ⟨6, (k + e + 1 + A.length + 1 : Nat), A0⟩ L1 (k + e) = 0 := by unfold tD; rw [a3]; simp [GI.takes, GI.gives]
      have hnn : ((((k + e + 1 + A.length + 1 : Nat) : Int)).toNat) = k + e + 1 + A.length + 1 := by omega
      have e1 : ∀ j, k + e < j → j < k + e + 1 + A.length + 1 → L1.getD j 0 = -1 := fun j g1 g2 => by rw [a4 _ (.inr g1)]; exact hj j (by omega) g2
      obtain ⟨L2, b1, b2, b3, b4, b5⟩ := run_one h6 a1 a2 (by simp [GI.ok, GI.noA, A0]; omega) (by omega) (by rw [a3]; simp [GI.takes]) (by rw [ht]; omega) (fun _ => by
          rw [ht]
          show L1.getD (((k + e + 1 + A.length + 1 : Nat) : Int)).toNat 0 = -1 ∨ _
          rw [hnn, a4 _ (.inr (by omega))]; exact he) (fun _ => by
          left; exact e1 _ (by omega) (by omega))
      have b3 := b3 rfl
      have b4 := b4 rfl
      rw [ht] at b3 b4
      change L2.getD (((k + e + 1 + A.length + 1 : Nat) : Int)).toNat 0 = 0 at b3
      have b5 : ∀ j, j ≠ k + e + 1 + A.length + 1 → j ≠ k + e + 1 → L2.getD j 0 = L1.getD j 0 := fun j g1 g2 => b5 j (fun _ => by show j ≠ (((k + e + 1 + A.length + 1 : Nat) : Int)).toNat; rw [hnn]; exact g1) (fun _ => g2)
      rw [hnn] at b3
      obtain ⟨L3, c1, c2, c3, c4⟩ := hA' L2 b1 b2 b4 (fun j g1 g2 => by rw [b5 j (by omega) (by omega)]; exact e1 j (by omega) (by omega)) (by
        by_cases h0 : A.length = 0
        · right; rw [h0, Nat.add_zero]; exact b4
        · left; rw [b5 _ (by omega) (by omega)]; exact e1 _ (by omega) (by omega))
      have hn3 : (((k : Nat) : Int)).toNat = k := by omega
      have ht3 : tD ⟨8, (k : Nat), A0⟩ L3 (k + e + 1 + A.length) = 0 := by unfold tD; rw [c3]; simp [GI.takes, GI.gives]
      have hk0 : L3.getD k 0 = 0 := by rw [c4 _ (by omega), b5 _ (by omega) (by omega), a4 _ (by omega)]; exact hz
      obtain ⟨L4, d1, d2, d3, d4, d5⟩ := run_one h8 c1 c2 (by simp [GI.ok, GI.noA, A0]; omega) (by omega) (by rw [c3]; simp [GI.takes]) (by rw [ht3]; omega) (fun _ => by
          rw [ht3]
          show L3.getD (((k : Nat) : Int)).toNat 0 = -1 ∨ _
          rw [hn3]; exact .inr hk0) (fun h => by simp [GI.follows] at h)
      have d3 := d3 rfl
      rw [ht3] at d3
      change L4.getD (((k : Nat) : Int)).toNat 0 = 0 at d3
      rw [hn3] at d3
      have d5 : ∀ j, j ≠ k → L4.getD j 0 = L3.getD j 0 := fun j g1 => d5 j (fun _ => by show j ≠ (((k : Nat) : Int)).toNat; rw [hn3]; exact g1) (fun h => by simp [GI.follows] at h)
      refine ⟨L4, d1, d2, ?_, fun j g => ?_⟩
      · rw [d5 _ (by omega), c4 _ (by omega)]; exact b3
      · by_cases hjk : j = k
        · subst hjk; rw [d3, hz]
        · rw [d5 j hjk, c4 j (by omega), b5 j (by omega) (by omega), a4 j (by omega)]
    · rename_i q3
      simp only [q1, q2, q3] at hpl
      simp at hpl
theorem okC_codeOf {l : List Sm} (h : okS l = true) (hn : (codeOf l).length ≤ 400) : okC (codeOf l) = true := by
  have hc : codeOf l = Sm.cdL l 0 := by rw [codeOf, if_pos h]
  have hf : formS 4 l = true := by simp only [okS, Bool.and_eq_true] at h; exact h.2
  rw [hc] at hn ⊢
  generalize hp : Sm.cdL l 0 = p at *
  have hat : At p 0 (Sm.cdL l 0) := ⟨[], [], by simp [hp], rfl⟩
  have hst := sm_run p 4 l hf 0 hat
  rw [hp] at hst
  have g1 : ∀ j, 0 < j → ((List.replicate (p.length + 1) (-1 : Int)).set 0 0).getD j 0 = if j < p.length + 1 then -1 else 0 := by
    intro j hj
    obtain ⟨j, rfl⟩ : ∃ i, j = i + 1 := ⟨j - 1, by omega⟩
    simp only [List.getD, List.getElem?_set, List.getElem?_replicate]
    rw [if_neg (by omega)]
    split <;> rfl
  obtain ⟨L, a1, a2, a3, a4⟩ := hst ((List.replicate (p.length + 1) (-1)).set 0 0) rfl (by simp) (by simp [List.getD]) (fun j g2 g3 => by rw [g1 j g2, if_pos (by omega)]) (by
    by_cases h0 : p.length = 0
    · right; rw [h0]; simp [List.getD]
    · left; rw [g1 _ (by omega), if_pos (by omega)])
  rw [Nat.zero_add] at a1 a3
  have hd : depthsF p = some L := by rw [depthsF, if_neg (by omega)]; exact a1
  rw [okC, depV, hd]
  simp only [a3, beq_self_eq_true]
end Go.Proofs.YtmicbfojofcigaaGreatDoor
namespace Go.Proofs.YtmicbfojofcigaaGreatDoor
open Go Sg
set_option maxRecDepth 100000
set_option linter.unusedSimpArgs false
set_option linter.unusedVariables false
set_option linter.unusedSectionVars false
set_option maxHeartbeats 4000000
variable [ErrL]
def Steps (p : List GI) (n : Nat) (S S' : PS) : Prop := ∀ g, mex p (g + n) S = mex p g S'
theorem Steps.refl (p : List GI) (S : PS) : Steps p 0 S S := fun g => rfl
theorem Steps.trans {p : List GI} {n n' : Nat} {S S' S'' : PS} (h : Steps p n S S') (h' : Steps p n' S' S'') : Steps p (n' + n) S S'' := fun g => by
  rw [← Nat.add_assoc, h, h']
theorem Steps.one {p : List GI} {i : GI} {k : Nat} {S : PS} (hp : At p k [i]) (hk : S.k = k) (h : (S.nx.act i).2 = true) : Steps p 1 S (S.nx.act i).1 := fun g => by
  obtain ⟨h1, h2⟩ := hp.one
  have e : p.getD S.k.toNat default = i := by rw [hk]; exact h2
  show mex p (g + 1) S = _
  rw [mex, if_pos (by omega), e, if_pos h]
structure Ev (p : List GI) (k' : Nat) (S : PS) (vs : List Int) (S' : PS) : Prop where
  ok : S'.Ok
  k : S'.k = k'
  n : S'.n = S.n + vs.length
  F : S'.F = S.F
  m : S'.m = S.m
  lo : ∀ j < S.n.toNat, S'.H.getD j 0 = S.H.getD j 0
  hi : ∀ i < vs.length, S'.H.getD (S.n.toNat + i) 0 = vs.getD i 0
theorem getD_set_eq (l : List Int) (k : Nat) (v : Int) (h : k < l.length) : (l.set k v).getD k 0 = v := by simp [List.getD, h]
theorem getD_set_ne' (l : List Int) (k j : Nat) (v : Int) (h : j ≠ k) : (l.set k v).getD j 0 = l.getD j 0 := by
  simp only [List.getD, List.getElem?_set]; rw [if_neg (Ne.symm h)]
theorem ev_last {p : List GI} {d : Nat} {e : Ex} (hf : formD (d + 1) e = true) {k : Nat} {S S1 : PS} (hp : At p k [lastI e]) (hn : 0 ≤ S.n) (hn1 : S.n < 12) (h : Ev p k S (Ex.ofL S.m e.kids) S1) : ∃ S', Steps p 1 S1 S' ∧ Ev p (k + 1) S [e.of S.m] S' := by
  obtain ⟨f1, f2, f3, f4, f5, f6, f7⟩ := form_inv2 hf k p.length
  have hlen : (Ex.ofL S.m e.kids).length = e.kids.length := by simp [Ex.ofL_map]
  obtain ⟨hok, hk, hnn, hF, hm, hlo, hhi⟩ := h
  have hH := hok.H
  rw [hlen] at hnn hhi
  have key : ∀ v, (S1.nx.act (lastI e)).2 = true → (S1.nx.act (lastI e)).1.H = S1.H.set S.n.toNat v → (S1.nx.act (lastI e)).1.n = S.n + 1 → (S1.nx.act (lastI e)).1.k = S1.k + 1 → (S1.nx.act (lastI e)).1.F = S1.F → (S1.nx.act (lastI e)).1.m = S1.m → v = e.of S.m →
      ∃ S', Steps p 1 S1 S' ∧ Ev p (k + 1) S [e.of S.m] S' := by
    intro v g1 g2 g3 g4 g5 g6 g7
    subst g7
    refine ⟨_, Steps.one hp hk g1, ⟨⟨by rw [g2]; simp [hH], by rw [g6]; exact hok.m⟩, by rw [g4, hk]; omega, by rw [g3]; rfl, by rw [g5, hF], by rw [g6, hm], fun j hj => ?_, fun i hi => ?_⟩⟩
    · rw [g2, getD_set_ne' _ _ _ _ (by omega)]; exact hlo j hj
    · have : i = 0 := by simpa using hi
      subst this
      rw [g2, Nat.add_zero, getD_set_eq _ _ _ (by omega)]; rfl
  simp only [formD] at hf
  have hkn : kidsN e.kind = (e.kids.length : Int) := by
    split at hf
    · cases hf
    · rename_i h1; simpa using h1
  rw [Ex.of_eq] at key
  rw [Ex.of_eq]
  by_cases q1 : e.kind = 1
  · have hk0 : e.kids.length = 0 := by have := hkn; rw [q1] at this; simp [kidsN] at this; omega
    refine key e.n ?_ ?_ ?_ ?_ ?_ ?_ ?_
    all_goals simp [lastI, q1, PS.act, PS.nx, PS.push]
    · rw [show S1.n = S.n by omega]
    · omega
  by_cases q2 : e.kind = 2
  · have hk0 : e.kids.length = 0 := by have := hkn; rw [q2] at this; simp [kidsN] at this; omega
    refine key (S.m.get e.a) ?_ ?_ ?_ ?_ ?_ ?_ ?_
    all_goals simp [lastI, q2, PS.act, PS.nx, PS.push, hm]
    · rw [show S1.n = S.n by omega]
    · omega
  by_cases q10 : e.kind = 10
  · have hk0 : e.kids.length = 1 := by have := hkn; rw [q10] at this; simp [kidsN] at this; omega
    have ht : S1.nx.top = (Ex.ofL S.m e.kids).getD 0 0 := by
      have := hhi 0 (by omega)
      rw [Nat.add_zero] at this
      rw [← this]
      show S1.H.getD (S1.n - 1).toNat 0 = _
      rw [show (S1.n - 1).toNat = S.n.toNat by omega]
    refine key (numIs (!(S1.nx.top != 0))) ?_ ?_ ?_ ?_ ?_ ?_ ?_
    · simp [lastI, q10, PS.act]
    · simp only [lastI, q10, PS.act, Int.reduceBEq, Bool.false_eq_true, if_false, if_true, PS.push, PS.pop, PS.nx]
      rw [show (S1.n - 1).toNat = S.n.toNat by omega]
    · simp only [lastI, q10, PS.act, Int.reduceBEq, Bool.false_eq_true, if_false, if_true, PS.push, PS.pop, PS.nx]
      omega
    · simp [lastI, q10, PS.act, PS.push, PS.pop, PS.nx]
    · simp [lastI, q10, PS.act, PS.push, PS.pop, PS.nx]
    · simp [lastI, q10, PS.act, PS.push, PS.pop, PS.nx]
    · rw [ht]; simp [q10]
  · have hk0 : e.kids.length = 2 := by
      have h1' := hkn
      unfold kidsN at h1'
      simp only [q1, q2, q10, beq_iff_eq, Bool.or_eq_true, or_self, if_false, Bool.and_eq_true, decide_eq_true_eq] at h1'
      split at h1'
      · omega
      · omega
    have ht : S1.nx.pop.top = (Ex.ofL S.m e.kids).getD 0 0 := by
      have := hhi 0 (by omega)
      rw [Nat.add_zero] at this
      rw [← this]
      show S1.H.getD (S1.n - 1 - 1).toNat 0 = _
      rw [show (S1.n - 1 - 1).toNat = S.n.toNat by omega]
    have ht2 : S1.nx.top = (Ex.ofL S.m e.kids).getD 1 0 := by
      have := hhi 1 (by omega)
      rw [← this]
      show S1.H.getD (S1.n - 1).toNat 0 = _
      rw [show (S1.n - 1).toNat = S.n.toNat + 1 by omega]
    refine key (two e.kind S1.nx.pop.top S1.nx.top) ?_ ?_ ?_ ?_ ?_ ?_ ?_
    · simp [lastI, q1, q2, q10, PS.act]
    · simp [lastI, q1, q2, q10, PS.act, PS.push]
      show S1.H.set (S1.n - 1 - 1).toNat _ = _
      rw [show (S1.n - 1 - 1).toNat = S.n.toNat by omega]
    · simp [lastI, q1, q2, q10, PS.act, PS.push, PS.pop, PS.nx]
      omega
    · simp [lastI, q1, q2, q10, PS.act, PS.push, PS.pop, PS.nx]
    · simp [lastI, q1, q2, q10, PS.act, PS.push, PS.pop, PS.nx]
    · simp [lastI, q1, q2, q10, PS.act, PS.push, PS.pop, PS.nx]
    · rw [ht, ht2]; simp [q1, q2, q10]
theorem ev_list {p : List GI} {d : Nat} (he : ∀ e : Ex, formD d e = true → ∀ (k : Nat) (S : PS), At p k e.cd → S.Ok → S.k = k → 0 ≤ S.n → S.n + d ≤ 12 → ∃ n S', Steps p n S S' ∧ Ev p (k + e.cd.length) S [e.of S.m] S') :
    ∀ l : List Ex, (∀ x ∈ l, formD d x = true) → ∀ (k : Nat) (S : PS), At p k (Ex.cdL l) → S.Ok → S.k = k → 0 ≤ S.n → S.n + l.length + d ≤ 13 → ∃ n S', Steps p n S S' ∧ Ev p (k + (Ex.cdL l).length) S (Ex.ofL S.m l) S' := by
  intro l
  induction l with
  | nil =>
    intro _ k S _ hok hk _ _
    exact ⟨0, S, Steps.refl p S, ⟨hok, by simpa [Ex.cdL] using hk, by simp [Ex.ofL], rfl, rfl, fun _ _ => rfl, fun i hi => by simp [Ex.ofL] at hi⟩⟩
  | cons e l ih =>
    intro hf k S hp hok hk hn0 hn
    simp only [Ex.cdL, List.length_append, List.length_cons] at hp hn ⊢
    obtain ⟨n1, S1, s1, v1⟩ := he e (hf e (by simp)) k S hp.fst hok hk hn0 (by omega)
    have hn1 := v1.n
    simp only [List.length_cons, List.length_nil] at hn1
    obtain ⟨n2, S2, s2, v2⟩ := ih (fun x hx => hf x (by simp [hx])) (k + e.cd.length) S1 hp.snd v1.ok v1.k (by omega) (by omega)
    refine ⟨_, S2, s1.trans s2, ⟨v2.ok, by rw [v2.k]; omega, ?_, by rw [v2.F, v1.F], by rw [v2.m, v1.m], fun j hj => ?_, fun i hi => ?_⟩⟩
    · rw [v2.n, hn1, v1.m]; simp only [Ex.ofL, List.length_cons]; omega
    · rw [v2.lo j (by omega), v1.lo j hj]
    · cases i with
      | zero =>
        have := v1.hi 0 (by simp)
        rw [v2.lo _ (by omega), this]; rfl
      | succ i =>
        have := v2.hi i (by rw [v1.m]; simpa [Ex.ofL] using hi)
        rw [show S.n.toNat + (i + 1) = S1.n.toNat + i by omega, this, v1.m]
        rfl
theorem ev_ok (p : List GI) : ∀ (d : Nat) (e : Ex), formD d e = true → ∀ (k : Nat) (S : PS), At p k e.cd → S.Ok → S.k = k → 0 ≤ S.n → S.n + d ≤ 12 → ∃ n S', Steps p n S S' ∧ Ev p (k + e.cd.length) S [e.of S.m] S' := by
  intro d
  induction d with
  | zero => intro e h; simp [formD] at h
  | succ d ih =>
    intro e hf k S hp hok hk hn0 hn
    obtain ⟨f1, f2, f3, f4, f5, f6, f7⟩ := form_inv2 hf k p.length
    rw [Ex.cd_eq] at hp ⊢
    obtain ⟨n1, S1, s1, v1⟩ := ev_list ih e.kids f7 k S hp.fst hok hk hn0 (by omega)
    obtain ⟨S2, s2, v2⟩ := ev_last hf hp.snd hn0 (by omega) v1
    refine ⟨_, S2, s1.trans s2, ?_⟩
    simpa [Nat.add_assoc] using v2
def Res (p : List GI) (k' : Nat) (S : PS) (R : MM × Nat × Bool) : Prop :=
  (R.2.2 = false → ∃ n S', Steps p n S S' ∧ S'.Ok ∧ S'.k = k' ∧ S'.n = 0 ∧ S'.F = R.2.1 ∧ S'.m = R.1) ∧ (R.2.2 = true → ∃ n S', (∀ g, mex p (g + n) S = (S', true)) ∧ S'.m = R.1)
theorem Res.pre {p : List GI} {k' n : Nat} {S S1 : PS} {R : MM × Nat × Bool} (h : Steps p n S S1) (hr : Res p k' S1 R) : Res p k' S R := by
  refine ⟨fun hb => ?_, fun hb => ?_⟩
  · obtain ⟨n2, S', a, b⟩ := hr.1 hb
    exact ⟨_, S', h.trans a, b⟩
  · obtain ⟨n2, S', a, b⟩ := hr.2 hb
    exact ⟨n2 + n, S', fun g => by rw [← Nat.add_assoc, h, a], b⟩
theorem Res.post {p : List GI} {k' k2 : Nat} {S : PS} {R : MM × Nat × Bool} (hr : Res p k' S R) (h : R.2.2 = false → ∀ S' : PS, S'.Ok → S'.k = k' → S'.n = 0 → S'.F = R.2.1 → S'.m = R.1 → Res p k2 S' R) : Res p k2 S R := by
  refine ⟨fun hb => ?_, hr.2⟩
  obtain ⟨n, S', a, b1, b2, b3, b4, b5⟩ := hr.1 hb
  exact ((h hb S' b1 b2 b3 b4 b5).pre a).1 hb
def Does (p : List GI) (c : List GI) (k : Nat) (f : MM → Nat → MM × Nat × Bool) : Prop := ∀ (S : PS) (F : Nat), S.Ok → S.k = k → S.n = 0 → S.F = F → Res p (k + c.length) S (f S.m F)
theorem does_list (p : List GI) (l : List Sm) (h : ∀ s ∈ l, ∀ k, At p k (s.cd k) → Does p (s.cd k) k s.ex) : ∀ k, At p k (Sm.cdL l k) → Does p (Sm.cdL l k) k (Sm.exL l) := by
  induction l with
  | nil =>
    intro k _ S F hok hk hn hF
    refine ⟨fun _ => ⟨0, S, Steps.refl p S, hok, by simpa [Sm.cdL] using hk, hn, by simpa [Sm.exL] using hF, by simp [Sm.exL]⟩, fun hb => by simp [Sm.exL] at hb⟩
  | cons s l ih =>
    intro k hp S F hok hk hn hF
    simp only [Sm.cdL, List.length_append] at hp ⊢
    have hs := h s (by simp) k hp.fst S F hok hk hn hF
    simp only [Sm.exL]
    split
    · rename_i hb
      exact ⟨fun h => (by rw [hb] at h; cases h), hs.2⟩
    · rename_i hb
      have hb : (s.ex S.m F).2.2 = false := by simpa using hb
      obtain ⟨n, S', a, b1, b2, b3, b4, b5⟩ := hs.1 hb
      have := ih (fun s hs => h s (by simp [hs])) (k + (s.cd k).length) hp.snd S' (s.ex S.m F).2.1 b1 b2 b3 b4
      rw [b5, Nat.add_assoc] at this
      exact this.pre a
theorem ev_top {p : List GI} {e : Ex} (he : e.ok = true) {k : Nat} {S : PS} (hp : At p k e.cd) (hok : S.Ok) (hk : S.k = k) (hn : S.n = 0) : ∃ n S', Steps p n S S' ∧ S'.Ok ∧ S'.k = ((k + e.cd.length : Nat) : Int) ∧ S'.n = 1 ∧ S'.F = S.F ∧ S'.m = S.m ∧ S'.nx.top = e.of S.m := by
  simp only [Ex.ok, Bool.and_eq_true] at he
  obtain ⟨n, S', a, v⟩ := ev_ok p 6 e he.1 k S hp hok hk (by omega) (by omega)
  have h1 := v.n
  simp only [List.length_cons, List.length_nil] at h1
  refine ⟨n, S', a, v.ok, v.k, by omega, v.F, v.m, ?_⟩
  have := v.hi 0 (by simp)
  rw [hn] at this
  show S'.H.getD (S'.n - 1).toNat 0 = _
  rw [show (S'.n - 1).toNat = 0 by omega]
  exact this
theorem Steps.one' {p : List GI} {i : GI} {k : Nat} {S S' : PS} (hp : At p k [i]) (hk : S.k = k) (h : S.nx.act i = (S', true)) : Steps p 1 S S' := by
  have := Steps.one hp hk (by rw [h])
  rw [h] at this; exact this
theorem act_skip (S : PS) (T : Int) : S.nx.act ⟨6, T, A0⟩ = (if S.nx.top == 0 then { S.nx.pop with k := T } else S.nx.pop, true) := by
  simp [PS.act]
theorem act_jump (S : PS) (T : Int) : S.nx.act ⟨7, T, A0⟩ = ({ S.nx with k := T }, true) := by simp [PS.act]
theorem act_back (S : PS) (T : Int) : S.nx.act ⟨8, T, A0⟩ = (if S.F == 0 then S.nx else { S.nx with F := S.F - 1, k := T }, S.F != 0) := by simp [PS.act, PS.nx]
theorem act_store (S : PS) (a : AD) : S.nx.act ⟨3, 0, a⟩ = ({ S.nx.pop with m := S.m.put a S.nx.top }, true) := by simp [PS.act, PS.nx]
theorem does_wh {p : List GI} {e : Ex} (he : e.ok = true) {A : List GI} {k : Nat} {b : MM → Nat → MM × Nat × Bool} (hble : ∀ m F, (b m F).2.1 ≤ F) (hE : At p k e.cd) (h6 : At p (k + e.cd.length) [⟨6, (k + e.cd.length + 1 + A.length + 1 : Nat), A0⟩]) (hA : Does p A (k + e.cd.length + 1) b) (h8 : At p (k + e.cd.length + 1 + A.length) [⟨8, (k : Nat), A0⟩]) :
    ∀ (g : Nat) (S : PS) (F : Nat), F < g → S.Ok → S.k = k → S.n = 0 → S.F = F → Res p (k + e.cd.length + 1 + A.length + 1) S (wh (fun m => e.of m != 0) b g S.m F) := by
  intro g
  induction g with
  | zero => intro S F h; omega
  | succ g ih =>
    intro S F hg hok hk hn hF
    obtain ⟨n1, S1, s1, v1, v2, v3, v4, v5, v6⟩ := ev_top he hE hok hk hn
    refine Res.pre s1 ?_
    have st := Steps.one' h6 v2 (act_skip S1 _)
    rw [v6] at st
    refine Res.pre st ?_
    simp only [wh]
    by_cases h0 : (e.of S.m == 0) = true
    ·
      have hc : ¬ (e.of S.m != 0) = true := by simpa [bne] using h0
      rw [if_pos h0, if_neg hc]
      refine ⟨fun _ => ⟨0, _, Steps.refl p _, ⟨v1.H, v1.m⟩, rfl, by show S1.n - 1 = 0; omega, by show S1.F = _; rw [v4, hF], v5⟩, fun hb => by cases hb⟩
    · have hc : (e.of S.m != 0) = true := by simpa [bne] using h0
      rw [if_neg h0, if_pos hc]
      have hb := hA S1.nx.pop F ⟨v1.H, v1.m⟩ (by show S1.k + 1 = _; omega) (by show S1.n - 1 = 0; omega) (by show S1.F = _; rw [v4, hF])
      rw [show S1.nx.pop.m = S.m from v5] at hb
      have hle := hble S.m F
      generalize b S.m F = R at *
      split
      · rename_i hbt
        exact ⟨fun h => (by rw [hbt] at h; cases h), hb.2⟩
      · rename_i hbf
        have hbf : R.2.2 = false := by simpa using hbf
        obtain ⟨n3, S3, a, b1, b2, b3, b4, b5⟩ := hb.1 hbf
        obtain ⟨i1, i2⟩ := h8.one
        have e3 : p.getD S3.k.toNat default = ⟨8, (k : Nat), A0⟩ := by rw [b2]; exact i2
        have e4 : S3.k < p.length := by rw [b2]; omega
        split
        · rename_i hF0
          have hS3F : (S3.F == 0) = true := by rw [b4, hF0]; rfl
          refine ⟨fun h => (by cases h), fun _ => ⟨1 + n3, S3.nx, fun g => ?_, b5⟩⟩
          rw [← Nat.add_assoc, a]
          show mex p (g + 1) S3 = _
          rw [mex, if_pos e4, e3, act_back]
          simp only [bne, hS3F, if_true, Bool.not_true, Bool.false_eq_true, if_false]
        · rename_i hF0
          have hS3F : (S3.F == 0) = false := by rw [b4]; simp; omega
          have st2 : Steps p 1 S3 { S3.nx with F := S3.F - 1, k := (k : Nat) } := Steps.one' h8 b2 (by rw [act_back]; simp only [bne, hS3F, Bool.false_eq_true, if_false, Bool.not_false])
          refine Res.pre (a.trans st2) ?_
          have := ih { S3.nx with F := S3.F - 1, k := (k : Nat) } (R.2.1 - 1) (by omega) ⟨b1.H, b1.m⟩ rfl b3 (by show S3.F - 1 = _; omega)
          rw [show ({ S3.nx with F := S3.F - 1, k := (k : Nat) } : PS).m = R.1 from b5] at this
          exact this
theorem sm_does (p : List GI) : ∀ (d : Nat) (l : List Sm), formS d l = true → ∀ k, At p k (Sm.cdL l k) → Does p (Sm.cdL l k) k (Sm.exL l) := by
  intro d
  induction d with
  | zero =>
    intro l hf k hp
    simp only [formS, beq_iff_eq] at hf
    have : l = [] := List.eq_nil_of_length_eq_zero hf
    subst this
    exact does_list p [] (fun s hs => by simp at hs) k hp
  | succ d ih =>
    intro l hf
    refine does_list p l fun s hs k hp => ?_
    have hf := List.all_eq_true.1 hf s hs
    simp only [Bool.and_eq_true] at hf
    obtain ⟨⟨⟨hpl, hok⟩, hth⟩, hel⟩ := hf
    have hA := ih s.th hth
    have hB := ih s.el hel
    intro S F hS hk hn hF
    rw [Sm.cd_eq] at hp ⊢
    rw [Sm.ex_eq]
    unfold Sm.plain at hpl
    split
    ·
      rename_i q1
      rw [if_pos q1] at hp
      obtain ⟨n1, S1, s1, v1, v2, v3, v4, v5, v6⟩ := ev_top hok hp.fst hS hk hn
      have st := Steps.one' hp.snd v2 (act_store S1 s.to')
      rw [v6, v5] at st
      refine Res.pre (s1.trans st) ⟨fun _ => ⟨0, _, Steps.refl p _, ⟨v1.H, MM.put_six hS.m _ _⟩, ?_, by show S1.n - 1 = 0; omega, by show S1.F = _; rw [v4, hF], rfl⟩, fun hb => by cases hb⟩
      show S1.k + 1 = _
      simp only [List.length_append, List.length_cons, List.length_nil]
      omega
    rename_i q1
    rw [if_neg q1] at hp
    by_cases q2 : (s.kind == 2) = true
    ·
      have q3 : ¬ (s.kind == 3) = true := by rw [eq_of_beq q2]; decide
      rw [if_pos q2, if_neg q3]
      rw [if_pos q2] at hp
      generalize hAe : Sm.cdL s.th (k + s.e.cd.length + 1) = A at *
      generalize hBe : Sm.cdL s.el (k + s.e.cd.length + 1 + A.length + 1) = C at *
      have h6 := hp.fst.fst.fst.snd
      have hAp := hp.fst.fst.snd
      have h7 := hp.fst.snd
      have hBp := hp.snd
      have hEp := hp.fst.fst.fst.fst
      simp only [List.length_append, List.length_cons, List.length_nil, Nat.zero_add, ← Nat.add_assoc] at h6 hAp h7 hBp ⊢
      have hA' := hA (k + s.e.cd.length + 1) (by rw [hAe]; exact hAp)
      have hB' := hB (k + s.e.cd.length + 1 + A.length + 1) (by rw [hBe]; exact hBp)
      rw [hAe] at hA'
      rw [hBe] at hB'
      obtain ⟨n1, S1, s1, v1, v2, v3, v4, v5, v6⟩ := ev_top hok hEp hS hk hn
      refine Res.pre s1 ?_
      have st := Steps.one' h6 v2 (act_skip S1 _)
      rw [v6] at st
      refine Res.pre st ?_
      by_cases h0 : (s.e.of S.m == 0) = true
      · have hc : ¬ (s.e.of S.m != 0) = true := by simpa [bne] using h0
        rw [if_pos h0, if_neg hc]
        have := hB' { S1.nx.pop with k := ((k + s.e.cd.length + 1 + A.length + 1 : Nat) : Int) } F ⟨v1.H, v1.m⟩ rfl (by show S1.n - 1 = 0; omega) (by show S1.F = _; rw [v4, hF])
        rw [show ({ S1.nx.pop with k := ((k + s.e.cd.length + 1 + A.length + 1 : Nat) : Int) } : PS).m = S.m from v5] at this
        exact this
      · have hc : (s.e.of S.m != 0) = true := by simpa [bne] using h0
        rw [if_neg h0, if_pos hc]
        have hb := hA' S1.nx.pop F ⟨v1.H, v1.m⟩ (by show S1.k + 1 = _; omega) (by show S1.n - 1 = 0; omega) (by show S1.F = _; rw [v4, hF])
        rw [show S1.nx.pop.m = S.m from v5] at hb
        refine hb.post fun hbf S3 b1 b2 b3 b4 b5 => ?_
        have st2 := Steps.one' h7 b2 (act_jump S3 _)
        refine Res.pre st2 ⟨fun _ => ⟨0, _, Steps.refl p _, ⟨b1.H, b1.m⟩, rfl, b3, b4, b5⟩, fun h => by rw [hbf] at h; cases h⟩
    · rw [if_neg q2]
      rw [if_neg q2] at hp
      by_cases q3 : (s.kind == 3) = true
      · rw [if_pos q3, if_pos q3]
        rw [if_pos q3] at hp
        generalize hAe : Sm.cdL s.th (k + s.e.cd.length + 1) = A at *
        have h6 := hp.fst.fst.snd
        have hAp := hp.fst.snd
        have h8 := hp.snd
        have hEp := hp.fst.fst.fst
        simp only [List.length_append, List.length_cons, List.length_nil, Nat.zero_add, ← Nat.add_assoc] at h6 hAp h8 ⊢
        have hA' := hA (k + s.e.cd.length + 1) (by rw [hAe]; exact hAp)
        rw [hAe] at hA'
        exact does_wh hok (fun m F => Sm.exL_le s.th m F) hEp h6 hA' h8 (F + 1) S F (Nat.lt_succ_self F) hS hk hn hF
      · simp only [q1, q2, q3] at hpl
        simp at hpl
theorem mex_gas {p : List GI} {D : List Int} (hD : DOk p D) : ∀ (g : Nat) (S : PS), S.In p D → S.meas p < g → ∀ g', S.meas p < g' → mex p g S = mex p g' S := by
  intro g
  induction g with
  | zero => intro S _ h; omega
  | succ g ih =>
    intro S hi h g' h'
    obtain ⟨g', rfl⟩ : ∃ n, g' = n + 1 := ⟨g' - 1, by omega⟩
    rw [mex, mex]
    split
    · rename_i hk
      obtain ⟨a, b⟩ := act_in hD hi hk
      split
      · rename_i hb
        obtain ⟨a1, a2⟩ := a hb
        exact ih _ a1 (by omega) g' (by omega)
      · rfl
    · rfl
theorem runC_codeOf (m : MM) (l : List Sm) (F : Int) (hl : okS l = true) (hc : okC (codeOf l) = true) : runC m (codeOf l) F = runS m l F := by
  have hcond : runCok m (codeOf l) F = runOk m l F := by simp only [runCok, runOk, hl, hc]
  rw [runC, runS, hcond]
  split
  · rename_i hr
    simp only [runOk, Bool.and_eq_true, decide_eq_true_eq] at hr
    obtain ⟨⟨⟨h1, h2⟩, h3⟩, h4⟩ := hr
    obtain ⟨D, hD⟩ := okC_D hc
    have hsix := MM.ok_six h1
    have hin := start_in (F := F) hD hsix h3 h4
    have hcd : codeOf l = Sm.cdL l 0 := by rw [codeOf, if_pos hl]
    have hf : formS 4 l = true := by simp only [okS, Bool.and_eq_true] at hl; exact hl.2
    have hdo := sm_does (codeOf l) 4 l hf 0 ⟨[], [], by simp [hcd], rfl⟩ (PS.start m F) F.toNat ⟨rfl, hsix⟩ rfl rfl (by show F = _; omega)
    rw [Nat.zero_add, ← hcd] at hdo
    rw [show (PS.start m F).m = m from rfl] at hdo
    generalize hR : Sm.exL l m F.toNat = R at *
    have hgas : ∀ n, (PS.start m F).meas (codeOf l) < n → mexR m (codeOf l) F = mex (codeOf l) n (PS.start m F) := fun n hn => mex_gas hD _ _ hin (Nat.lt_succ_self _) n hn
    cases hb : R.2.2
    · obtain ⟨n, S', a, b1, b2, b3, b4, b5⟩ := hdo.1 hb
      have e1 := hgas ((PS.start m F).meas (codeOf l) + 1 + n) (by omega)
      have a1 := a ((PS.start m F).meas (codeOf l) + 1)
      rw [a1] at e1
      rw [mex, if_neg (by omega)] at e1
      rw [e1]
      simp only [endO, hb, b5, b4, Int.toNat_natCast]
    · obtain ⟨n, S', a, b5⟩ := hdo.2 hb
      have e1 := hgas ((PS.start m F).meas (codeOf l) + 1 + n) (by omega)
      rw [a] at e1
      rw [e1]
      simp only [endO, hb, b5, if_true]
  · rfl
end Go.Proofs.YtmicbfojofcigaaGreatDoor
namespace Go.Proofs.YtmicbfojofcigaaGreatDoor
open Go Sg
set_option linter.unusedSectionVars false
variable [Glob]
set_option maxRecDepth 100000
set_option linter.unusedSimpArgs false
set_option linter.unusedVariables false
set_option maxHeartbeats 4000000
@[go_sem] theorem repd2 (z : List PV) : rep 2 z = z ++ z := by simp [rep, List.replicate_succ]
@[go_sem] theorem repd3 (z : List PV) : rep 3 z = z ++ (z ++ (z)) := by simp [rep, List.replicate_succ]
@[go_sem] theorem repd4 (z : List PV) : rep 4 z = z ++ (z ++ (z ++ (z))) := by simp [rep, List.replicate_succ]
@[go_sem] theorem repd6 (z : List PV) : rep 6 z = z ++ (z ++ (z ++ (z ++ (z ++ (z))))) := by simp [rep, List.replicate_succ]
@[go_sem] theorem repd7 (z : List PV) : rep 7 z = z ++ (z ++ (z ++ (z ++ (z ++ (z ++ (z)))))) := by simp [rep, List.replicate_succ]
@[go_sem] theorem repd10 (z : List PV) : rep 10 z = z ++ (z ++ (z ++ (z ++ (z ++ (z ++ (z ++ (z ++ (z ++ (z))))))))) := by simp [rep, List.replicate_succ]
def RdF (f : Nat) (args : List PV) (id : Nat) (bs : List Nat) (q K : Int) (R : PV → Prop) : Prop :=
  CallF Tryz.prog f (.ptr id 0 :: args) [(id, rdObj bs q)] 0 (fun _ o => ∃ v q', R v ∧ q ≤ q' ∧ q' ≤ q + K ∧ o = { rs := [v], u := [(id, some (rdObj bs q'))] })
theorem l2Addr_ok (id : Nat) (bs : List Nat) (q : Int) (hbs : Bs bs) (hq0 : 0 ≤ q) (hq : q + 2 ≤ 1000000000000) : RdF 108 [] id bs q 2 (fun v => ∃ a : AD, v = .agg a.cs) := by
  refine callF_of' Tryz.func108 rfl Tryz.ntmps108 (by simp) ?_
  intro f0 B ns Q hB hns hQ
  have hid : id < B := hB id (by simp [hasKey, lk])
  obtain rfl : ns = [] := List.eq_nil_of_length_eq_zero hns
  refine g_ [0,2] ?_
  refine n_ ?_
  refine wpM_regionK [2] rfl fun Q1 hQ1 => ?_
  refine S_ ?_
  refine call_fn (l := [(id, rdObj bs q)]) (first := []) (cap := []) (ps := [.ptr id 0, .int .i64 3]) (pick_ok id bs q 3 hbs (by omega) (by omega) (by omega)) Tryz.call58 rfl rfl rfl G_ T_ ?_
  rintro out ⟨k1, rfl, h1, h2, h3⟩
  refine S_ ?_
  refine call_fn (l := [(id, rdObj bs (q + 1))]) (first := []) (cap := []) (ps := [.ptr id 0, .int .i64 3]) (pick_ok id bs (q + 1) 3 hbs (by omega) (by omega) (by omega)) Tryz.call58 rfl rfl rfl G_ T_ ?_
  rintro out ⟨k2, rfl, h4, h5, h6⟩
  refine S_ ?_
  refine hQ1 _ _ (S_ ?_);clear hQ1 Q1
  refine wpM_ret ?_
  try refine S_ ?_
  refine hQ _ _ (ret0 [(id, some (rdObj bs (q + 1 + 1)))] rfl rfl rfl (by rw [Tryz.results108] <;> simp (maxSteps := 1000000) -implicitDefEqProofs (disch := omega) only [go_sem] <;> rfl) ⟨_, q + 1 + 1, ⟨⟨1 + k1, k2⟩, rfl⟩, by omega, by omega, rfl⟩ ?_ ?_ ?_ ?_)
  all_goals simp -implicitDefEqProofs (disch := omega) only [go_sem, rdObj, true_or, or_true]
theorem memOpen_ok : CallF Tryz.prog 111 [] [] 3 (fun ns o => ∃ x y z, ns = [x, y, z] ∧ o = { rs := [.agg (ocs x y z)], nw := (⟨List.replicate 6 0, List.replicate 6 0, List.replicate 6 0⟩ : MM).ol x y z }) := by
  refine callF_of' Tryz.func111 rfl Tryz.ntmps111 (by simp) ?_
  intro f0 B ns Q hB hns hQ
  obtain ⟨x, y, z, rfl⟩ : ∃ x y z, ns = [x, y, z] := by
    match ns, hns with
    | [x, y, z], _ => exact ⟨x, y, z, rfl⟩
  refine g_ [0] ?_
  refine n_ ?_
  refine dr_ mixed [0] 3 1 [B, B + 1, B + 2, B + 3] [⟨[],[],[],[1],false⟩,⟨[],[],[],[2],false⟩,⟨[],[],[],[3],false⟩,⟨[1,2,3],[],[],[],false⟩,⟨[0,4],[0],[0],[],false⟩] [0,1,2,3,4] [[],[],[],[0,1,2],[0,1,2,3]] 4 ?_
  intro O A K hO hA hK;simp only [atL_cons,atL_nil,Nat.reduceAdd,Nat.zero_add] at hO hA
  refine SO_ ?_
  refine hK _ (S_ ?_);clear hK K hO hA O A
  have e6 : [PV.int .i64 0, .int .i64 0, .int .i64 0, .int .i64 0, .int .i64 0, .int .i64 0] = ints (List.replicate 6 0) := rfl
  rw [e6]
  refine wpM_ret ?_
  try refine S_ ?_
  refine hQ _ _ (retK [B + 1, B + 2, B + 3] [] ((⟨List.replicate 6 0, List.replicate 6 0, List.replicate 6 0⟩ : MM).ol x y z) rfl rfl rfl (by rw [Tryz.results111] <;> simp (maxSteps := 1000000) -implicitDefEqProofs (disch := omega) only [go_sem] <;> rfl) ?_ ⟨x, y, z, rfl, rfl⟩ ?_ ?_ ?_ ?_ ?_ ?_)
  all_goals (first | (simp -implicitDefEqProofs (disch := omega) only [go_sem, List.nodup_cons, List.nodup_nil, true_or, or_true, List.mem_cons, List.not_mem_nil]; done) | (simp -implicitDefEqProofs (disch := omega) only [go_sem, List.nodup_cons, List.nodup_nil, true_or, or_true, List.mem_cons, List.not_mem_nil]; omega))
theorem l2Mem_ok (id : Nat) (bs : List Nat) (q : Int) (hbs : Bs bs) (hq0 : 0 ≤ q) (hq : q + 12 ≤ 1000000000000) : CallF Tryz.prog 78 [.ptr id 0] [(id, rdObj bs q)] 3 (fun ns o => ∃ x y z m q', ns = [x, y, z] ∧ MM.Six m ∧ q ≤ q' ∧ q' ≤ q + 12 ∧ o = { rs := [.agg (ocs x y z)], u := [(id, some (rdObj bs q'))], nw := m.ol x y z }) := by
  refine callF_of' Tryz.func78 rfl Tryz.ntmps78 (by simp) ?_
  intro f0 B ns Q hB hns hQ
  have hid : id < B := hB id (by simp [hasKey, lk])
  obtain ⟨x, y, z, rfl⟩ : ∃ x y z, ns = [x, y, z] := by
    match ns, hns with
    | [x, y, z], _ => exact ⟨x, y, z, rfl⟩
  refine g_ [0,2] ?_
  refine n_ ?_
  refine wpM_regionK [0,2,3] rfl fun Q1 hQ1 => ?_
  refine S_ ?_
  refine call_fn (l := []) (first := []) (cap := []) (ps := []) (memOpen_ok) Tryz.call111 rfl rfl rfl G_ T_ ?_
  rintro out ⟨x', y', z', ⟨⟩, rfl⟩
  refine S_ ?_
  refine hQ1 _ _ (S_ ?_);clear hQ1 Q1
  refine g_ [0,2,3,4] ?_
  refine n_ ?_
  refine wpM_loopS (fun s n s' => ∃ (i0 M0 : Nat) (m : MM) (q' : Int), i0 + n = 4 ∧ s.M ≤ M0 ∧ (MM.Six m ∧ q ≤ q' ∧ q' ≤ q + 3 * (i0 : Int)) ∧ s' = { s with env := setE 4 (.int .i64 (i0 : Nat)) s.env, l := setl id (rdObj bs q') (setl (B + 1) (.cells 3 (ints m.i)) (setl (B + 2) (.cells 3 (ints m.o)) (setl (B + 3) (.cells 3 (ints m.v)) s.l))), M := M0 }) (4) ?_ ?_
  ·
    refine .of' _ _ ⟨0, _, (⟨List.replicate 6 0, List.replicate 6 0, List.replicate 6 0⟩ : MM), q, by omega, Nat.le_refl _, ⟨⟨rfl, rfl, rfl⟩, by omega, by omega⟩, rfl⟩ ?_ ?_ ?_ <;> exact L_
  rintro n0 s' ⟨i0, M0, m, q', hi0, hM0, hv0, rfl⟩
  try dsimp only at hM0
  try refine S_ ?_
  refine g_ [0,2,3,4,7] ?_
  refine c_ (fun hc0 => ?_) fun hc0 => ?_
  ·
    have hl0 : i0 < 4 := by omega
    obtain ⟨hm6, hqa, hqb⟩ := hv0
    have e1 := hm6.i
    have e2 := hm6.o
    have e3 := hm6.v
    refine n_ ?_
    refine dr_ mixed [0,2,3,4] 1 3 [B + 4, B + 1, id, M0] [⟨[3],[],[],[],false⟩,⟨[10],[0],[],[],false⟩,⟨[4],[],[],[],false⟩,⟨[0],[],[],[],false⟩,⟨[],[],[],[3],false⟩,⟨[13,14],[2,3],[2],[],true⟩,⟨[11,12],[],[],[],false⟩,⟨[15,16],[1],[1],[],false⟩] [0,1,2,3,4,5,6,7] [[],[0],[],[],[],[3,4],[0,1,2,3,4,5],[0,1,2,3,4,5,6]] 4 (htbl := by simp; omega) (hnm := by simp) ?_
    intro O A K hO hA hK;simp only [atL_cons,atL_nil,Nat.reduceAdd,Nat.zero_add] at hO hA
    refine SO_ ?_
    refine loud_fn (first := []) (cap := []) (ps := [.ptr id 0, .sl 3 M0 0 7]) (l := [(id, rdObj bs (q')), (M0, .cells 3 (ints [0, 0, 1, 1, 2, 5, -1]))]) (num_ok id M0 bs (q') [0, 0, 1, 1, 2, 5, -1] 7 rfl (by omega) (by omega) (by omega) hbs (by omega) (by omega)) Tryz.call41 rfl rfl F_ (subG_spec (by simp -implicitDefEqProofs (disch := omega) only [go_sem, ints, List.map_cons, List.map_nil])) rfl ?_
    rintro out ⟨k1, rfl, hk1⟩
    refine ⟨rfl, ?_⟩
    refine SO_ ?_
    refine hK _ (S_ ?_);clear hK K hO hA O A
    refine n_ ?_
    refine dr_ mixed [0,2,3,4] 1 3 [B + 4, B + 2, id, M0 + 1] [⟨[3],[],[],[],false⟩,⟨[17],[0],[],[],false⟩,⟨[4],[],[],[],false⟩,⟨[0],[],[],[],false⟩,⟨[],[],[],[3],false⟩,⟨[20,21],[2,3],[2],[],true⟩,⟨[18,19],[],[],[],false⟩,⟨[22,23],[1],[1],[],false⟩] [0,1,2,3,4,5,6,7] [[],[0],[],[],[],[3,4],[0,1,2,3,4,5],[0,1,2,3,4,5,6]] 4 (htbl := by simp; omega) (hnm := by simp) ?_
    intro O A K hO hA hK;simp only [atL_cons,atL_nil,Nat.reduceAdd,Nat.zero_add] at hO hA
    refine SO_ ?_
    refine loud_fn (first := []) (cap := []) (ps := [.ptr id 0, .sl 3 (M0 + 1) 0 4]) (l := [(id, rdObj bs (q' + 1)), ((M0 + 1), .cells 3 (ints [0, 0, 1, 3]))]) (num_ok id (M0 + 1) bs (q' + 1) [0, 0, 1, 3] 4 rfl (by omega) (by omega) (by omega) hbs (by omega) (by omega)) Tryz.call41 rfl rfl F_ (subG_spec (by simp -implicitDefEqProofs (disch := omega) only [go_sem, ints, List.map_cons, List.map_nil])) rfl ?_
    rintro out ⟨k2, rfl, hk2⟩
    refine ⟨rfl, ?_⟩
    refine SO_ ?_
    refine hK _ (S_ ?_);clear hK K hO hA O A
    refine dr_ mixed [0,2,3,4] 1 3 [B + 4, B + 3, id, M0 + 2] [⟨[3],[],[],[],false⟩,⟨[24],[0],[],[],false⟩,⟨[4],[],[],[],false⟩,⟨[0],[],[],[],false⟩,⟨[],[],[],[3],false⟩,⟨[27,28],[2,3],[2],[],true⟩,⟨[25,26],[],[],[],false⟩,⟨[29,30],[1],[1],[],false⟩] [0,1,2,3,4,5,6,7] [[],[0],[],[],[],[3,4],[0,1,2,3,4,5],[0,1,2,3,4,5,6]] 4 (htbl := by simp; omega) (hnm := by simp) ?_
    intro O A K hO hA hK;simp only [atL_cons,atL_nil,Nat.reduceAdd,Nat.zero_add] at hO hA
    refine SO_ ?_
    refine loud_fn (first := []) (cap := []) (ps := [.ptr id 0, .sl 3 (M0 + 2) 0 6]) (l := [(id, rdObj bs (q' + 1 + 1)), ((M0 + 2), .cells 3 (ints [0, 0, 1, 2, 7, 1000000]))]) (num_ok id (M0 + 2) bs (q' + 1 + 1) [0, 0, 1, 2, 7, 1000000] 6 rfl (by omega) (by omega) (by omega) hbs (by omega) (by omega)) Tryz.call41 rfl rfl F_ (subG_spec (by simp -implicitDefEqProofs (disch := omega) only [go_sem, ints, List.map_cons, List.map_nil])) rfl ?_
    rintro out ⟨k3, rfl, hk3⟩
    refine ⟨rfl, ?_⟩
    refine SO_ ?_
    refine hK _ (S_ ?_);clear hK K hO hA O A
    refine g_ [0,2,3,4] ?_
    refine .of' _ _ ⟨n0 - 1, by omega, i0 + 1, _, ⟨m.i.set i0 k1, m.o.set i0 k2, m.v.set i0 k3⟩, q' + 1 + 1 + 1, by omega, M_, ?_, rfl⟩ L_ L_ L_
    exact ⟨⟨by simp [e1], by simp [e2], by simp [e3]⟩, by omega, by omega⟩
  refine g_ [2] ?_
  refine wpM_ret ?_
  try refine S_ ?_
  obtain ⟨hm6, hqa, hqb⟩ := hv0
  have e1 := hm6.i
  have e2 := hm6.o
  have e3 := hm6.v
  refine hQ _ _ (retK [B + 1, B + 2, B + 3] [(id, some (rdObj bs q'))] (m.ol x y z) rfl rfl rfl (by rw [Tryz.results78] <;> simp (maxSteps := 1000000) -implicitDefEqProofs (disch := omega) only [go_sem] <;> rfl) ?_ ⟨x, y, z, m, q', rfl, hm6, hqa, by omega, rfl⟩ ?_ ?_ ?_ ?_ ?_ ?_)
  all_goals (simp -implicitDefEqProofs (disch := omega) only [go_sem, rdObj, List.nodup_cons, List.nodup_nil, true_or, or_true, List.mem_cons, List.not_mem_nil] <;> omega)
theorem l2MemF_ok (id : Nat) (bs : List Nat) (q : Int) (hbs : Bs bs) (hq0 : 0 ≤ q) (hq : q + 12 ≤ 1000000000000) : RdF 78 [] id bs q 12 (fun v => ∃ m : MM, m.Six ∧ v = .agg m.cs) := by
  refine callF_of' Tryz.func78 rfl Tryz.ntmps78 (by simp) ?_
  intro f0 B ns Q hB hns hQ
  have hid : id < B := hB id (by simp [hasKey, lk])
  obtain rfl : ns = [] := List.eq_nil_of_length_eq_zero hns
  refine g_ [0,2] ?_
  refine n_ ?_
  refine wpM_regionK [0,2,3] rfl fun Q1 hQ1 => ?_
  refine S_ ?_
  refine call_fn (l := []) (first := []) (cap := []) (ps := []) (memOpen_ok) Tryz.call111 rfl rfl rfl G_ T_ ?_
  rintro out ⟨x', y', z', ⟨⟩, rfl⟩
  refine S_ ?_
  refine hQ1 _ _ (S_ ?_);clear hQ1 Q1
  refine g_ [0,2,3,4] ?_
  refine n_ ?_
  refine wpM_loopS (fun s n s' => ∃ (i0 M0 : Nat) (m : MM) (q' : Int), i0 + n = 4 ∧ s.M ≤ M0 ∧ (MM.Six m ∧ q ≤ q' ∧ q' ≤ q + 3 * (i0 : Int)) ∧ s' = { s with env := setE 4 (.int .i64 (i0 : Nat)) s.env, l := setl id (rdObj bs q') (setl (B + 1) (.cells 3 (ints m.i)) (setl (B + 2) (.cells 3 (ints m.o)) (setl (B + 3) (.cells 3 (ints m.v)) s.l))), M := M0 }) (4) ?_ ?_
  ·
    refine .of' _ _ ⟨0, _, (⟨List.replicate 6 0, List.replicate 6 0, List.replicate 6 0⟩ : MM), q, by omega, Nat.le_refl _, ⟨⟨rfl, rfl, rfl⟩, by omega, by omega⟩, rfl⟩ ?_ ?_ ?_ <;> exact L_
  rintro n0 s' ⟨i0, M0, m, q', hi0, hM0, hv0, rfl⟩
  try dsimp only at hM0
  try refine S_ ?_
  refine g_ [0,2,3,4,7] ?_
  refine c_ (fun hc0 => ?_) fun hc0 => ?_
  ·
    have hl0 : i0 < 4 := by omega
    obtain ⟨hm6, hqa, hqb⟩ := hv0
    have e1 := hm6.i
    have e2 := hm6.o
    have e3 := hm6.v
    refine n_ ?_
    refine dr_ mixed [0,2,3,4] 1 3 [B + 4, B + 1, id, M0] [⟨[3],[],[],[],false⟩,⟨[10],[0],[],[],false⟩,⟨[4],[],[],[],false⟩,⟨[0],[],[],[],false⟩,⟨[],[],[],[3],false⟩,⟨[13,14],[2,3],[2],[],true⟩,⟨[11,12],[],[],[],false⟩,⟨[15,16],[1],[1],[],false⟩] [0,1,2,3,4,5,6,7] [[],[0],[],[],[],[3,4],[0,1,2,3,4,5],[0,1,2,3,4,5,6]] 4 (htbl := by simp; omega) (hnm := by simp) ?_
    intro O A K hO hA hK;simp only [atL_cons,atL_nil,Nat.reduceAdd,Nat.zero_add] at hO hA
    refine SO_ ?_
    refine loud_fn (first := []) (cap := []) (ps := [.ptr id 0, .sl 3 M0 0 7]) (l := [(id, rdObj bs (q')), (M0, .cells 3 (ints [0, 0, 1, 1, 2, 5, -1]))]) (num_ok id M0 bs (q') [0, 0, 1, 1, 2, 5, -1] 7 rfl (by omega) (by omega) (by omega) hbs (by omega) (by omega)) Tryz.call41 rfl rfl F_ (subG_spec (by simp -implicitDefEqProofs (disch := omega) only [go_sem, ints, List.map_cons, List.map_nil])) rfl ?_
    rintro out ⟨k1, rfl, hk1⟩
    refine ⟨rfl, ?_⟩
    refine SO_ ?_
    refine hK _ (S_ ?_);clear hK K hO hA O A
    refine n_ ?_
    refine dr_ mixed [0,2,3,4] 1 3 [B + 4, B + 2, id, M0 + 1] [⟨[3],[],[],[],false⟩,⟨[17],[0],[],[],false⟩,⟨[4],[],[],[],false⟩,⟨[0],[],[],[],false⟩,⟨[],[],[],[3],false⟩,⟨[20,21],[2,3],[2],[],true⟩,⟨[18,19],[],[],[],false⟩,⟨[22,23],[1],[1],[],false⟩] [0,1,2,3,4,5,6,7] [[],[0],[],[],[],[3,4],[0,1,2,3,4,5],[0,1,2,3,4,5,6]] 4 (htbl := by simp; omega) (hnm := by simp) ?_
    intro O A K hO hA hK;simp only [atL_cons,atL_nil,Nat.reduceAdd,Nat.zero_add] at hO hA
    refine SO_ ?_
    refine loud_fn (first := []) (cap := []) (ps := [.ptr id 0, .sl 3 (M0 + 1) 0 4]) (l := [(id, rdObj bs (q' + 1)), ((M0 + 1), .cells 3 (ints [0, 0, 1, 3]))]) (num_ok id (M0 + 1) bs (q' + 1) [0, 0, 1, 3] 4 rfl (by omega) (by omega) (by omega) hbs (by omega) (by omega)) Tryz.call41 rfl rfl F_ (subG_spec (by simp -implicitDefEqProofs (disch := omega) only [go_sem, ints, List.map_cons, List.map_nil])) rfl ?_
    rintro out ⟨k2, rfl, hk2⟩
    refine ⟨rfl, ?_⟩
    refine SO_ ?_
    refine hK _ (S_ ?_);clear hK K hO hA O A
    refine dr_ mixed [0,2,3,4] 1 3 [B + 4, B + 3, id, M0 + 2] [⟨[3],[],[],[],false⟩,⟨[24],[0],[],[],false⟩,⟨[4],[],[],[],false⟩,⟨[0],[],[],[],false⟩,⟨[],[],[],[3],false⟩,⟨[27,28],[2,3],[2],[],true⟩,⟨[25,26],[],[],[],false⟩,⟨[29,30],[1],[1],[],false⟩] [0,1,2,3,4,5,6,7] [[],[0],[],[],[],[3,4],[0,1,2,3,4,5],[0,1,2,3,4,5,6]] 4 (htbl := by simp; omega) (hnm := by simp) ?_
    intro O A K hO hA hK;simp only [atL_cons,atL_nil,Nat.reduceAdd,Nat.zero_add] at hO hA
    refine SO_ ?_
    refine loud_fn (first := []) (cap := []) (ps := [.ptr id 0, .sl 3 (M0 + 2) 0 6]) (l := [(id, rdObj bs (q' + 1 + 1)), ((M0 + 2), .cells 3 (ints [0, 0, 1, 2, 7, 1000000]))]) (num_ok id (M0 + 2) bs (q' + 1 + 1) [0, 0, 1, 2, 7, 1000000] 6 rfl (by omega) (by omega) (by omega) hbs (by omega) (by omega)) Tryz.call41 rfl rfl F_ (subG_spec (by simp -implicitDefEqProofs (disch := omega) only [go_sem, ints, List.map_cons, List.map_nil])) rfl ?_
    rintro out ⟨k3, rfl, hk3⟩
    refine ⟨rfl, ?_⟩
    refine SO_ ?_
    refine hK _ (S_ ?_);clear hK K hO hA O A
    refine g_ [0,2,3,4] ?_
    refine .of' _ _ ⟨n0 - 1, by omega, i0 + 1, _, ⟨m.i.set i0 k1, m.o.set i0 k2, m.v.set i0 k3⟩, q' + 1 + 1 + 1, by omega, M_, ?_, rfl⟩ L_ L_ L_
    exact ⟨⟨by simp [e1], by simp [e2], by simp [e3]⟩, by omega, by omega⟩
  refine n_ ?_
  obtain ⟨hm6, hqa, hqb⟩ := hv0
  refine wpM_frz [B + 1, B + 2, B + 3] (m.tb (B + 1) (B + 2) (B + 3)) (by intro q hq; simp at hq; rcases hq with rfl | rfl | rfl <;> simp -implicitDefEqProofs (disch := omega) only [go_sem]) (m.frz hm6 T_ T_ T_) ?_
  simp -implicitDefEqProofs (disch := omega) only [go_sem, MM.tb, rdObj]
  refine g_ [2] ?_
  refine wpM_ret ?_
  try refine S_ ?_
  refine hQ _ _ (ret0 [(id, some (rdObj bs q'))] rfl rfl rfl (by rw [Tryz.results78] <;> simp (maxSteps := 1000000) -implicitDefEqProofs (disch := omega) only [go_sem] <;> rfl) ⟨_, q', ⟨m, hm6, rfl⟩, hqa, by omega, rfl⟩ ?_ ?_ ?_ ?_)
  all_goals simp -implicitDefEqProofs (disch := omega) only [go_sem, rdObj, true_or, or_true]
def tb3 (x na : Nat) (a : List Int) (y nb : Nat) (b : List Int) (z nc : Nat) (c : List Int) : List (TypeId × Nat × Nat × Nat × List (List PV)) := [(3, x, 0, na, rowsI (a.take na)), (3, y, 0, nb, rowsI (b.take nb)), (3, z, 0, nc, rowsI (c.take nc))]
theorem rowsOf_intsP {f : Nat → Option AObj} {id n : Nat} {T : TypeId} {l : List Int} (h : f id = some (.cells T (ints l))) (hn : n ≤ l.length) : RowsOf Tryz.prog f 3 id 0 n (rowsI (l.take n)) := by
  refine ⟨by rw [cellsOf3]; omega, by simp [rowsI]; omega, ?_, T, _, h, ?_, ?_⟩
  · intro c hc
    simp only [rowsI, List.mem_map] at hc
    obtain ⟨x, _, rfl⟩ := hc
    rw [cellsOf3]; exact ⟨rfl, rfl⟩
  · rw [cellsOf3]; simp [ints]; omega
  · rw [cellsOf3, rowsI_flat]; simp [ints, List.map_take]
theorem frz3 {f : Nat → Option AObj} {x y z na nb nc : Nat} {a b c : List Int} (hx : f x = some (.cells 3 (ints a))) (hy : f y = some (.cells 3 (ints b))) (hz : f z = some (.cells 3 (ints c))) (ha : na ≤ a.length) (hb : nb ≤ b.length) (hc : nc ≤ c.length) :
    ∀ q ∈ tb3 x na a y nb b z nc c, q.2.1 ∈ [x, y, z] ∧ RowsOf Tryz.prog f q.1 q.2.1 q.2.2.1 q.2.2.2.1 q.2.2.2.2 := by
  intro q hq
  simp only [tb3, List.mem_cons, List.not_mem_nil, or_false] at hq
  rcases hq with rfl | rfl | rfl
  · exact ⟨by simp, rowsOf_intsP hx ha⟩
  · exact ⟨by simp, rowsOf_intsP hy hb⟩
  · exact ⟨by simp, rowsOf_intsP hz hc⟩
theorem l2MemBent_ok (id : Nat) (bs : List Nat) (q : Int) (hbs : Bs bs) (hq0 : 0 ≤ q) (hq : q + 13 ≤ 1000000000000) : RdF 40 [] id bs q 13 (fun v => ∃ m : MM, m.Sm ∧ v = .agg m.cs) := by
  refine callF_of' Tryz.func40 rfl Tryz.ntmps40 (by simp) ?_
  intro f0 B ns Q hB hns hQ
  have hid : id < B := hB id (by simp [hasKey, lk])
  obtain rfl : ns = [] := List.eq_nil_of_length_eq_zero hns
  refine g_ [0,2] ?_
  refine n_ ?_
  refine wpM_regionK [0,2,3] rfl fun Q1 hQ1 => ?_
  refine S_ ?_
  refine call_fn (l := [(id, rdObj bs q)]) (first := []) (cap := []) (ps := [.ptr id 0]) (l2Mem_ok id bs q hbs hq0 (by omega)) Tryz.call78 rfl rfl rfl G_ T_ ?_
  rintro out ⟨x', y', z', m, q', ⟨⟩, hm6, hqa, hqb, rfl⟩
  refine S_ ?_
  have e1 := hm6.i
  have e2 := hm6.o
  have e3 := hm6.v
  refine hQ1 _ _ (S_ ?_);clear hQ1 Q1
  refine n_ ?_
  refine wpM_regionK [2,3,7] rfl fun Q1 hQ1 => ?_
  refine S_ ?_
  refine call_fn (l := [(id, rdObj bs q')]) (first := []) (cap := []) (ps := [.ptr id 0, .int .i64 30]) (pick_ok id bs q' 30 hbs (by omega) (by omega) (by omega)) Tryz.call58 rfl rfl rfl G_ T_ ?_
  rintro out ⟨k1, rfl, h1, h2, h3⟩
  refine S_ ?_
  refine hQ1 _ _ (S_ ?_);clear hQ1 Q1
  refine g_ [2,3,7,8] ?_
  refine c_ (fun hc0 => ?_) fun hc0 => ?_
  ·
    refine g_ [2,3] ?_
    refine wpM_frz [B + 1, B + 2, B + 3] (tb3 (B + 1) 2 m.i (B + 2) 6 m.o (B + 3) 6 m.v) (by intro q hq; simp at hq; rcases hq with rfl | rfl | rfl <;> simp -implicitDefEqProofs (disch := omega) only [go_sem]) (frz3 T_ T_ T_ (by omega) (by omega) (by omega)) ?_
    simp -implicitDefEqProofs (disch := omega) only [go_sem, tb3, rdObj]
    refine g_ [2] ?_
    refine wpM_ret ?_
    try refine S_ ?_
    refine hQ _ _ (ret0 [(id, some (rdObj bs (q' + 1)))] rfl rfl rfl (by rw [Tryz.results40] <;> simp (maxSteps := 1000000) -implicitDefEqProofs (disch := omega) only [go_sem] <;> rfl) ⟨_, q' + 1, ⟨⟨_, _, _⟩, ⟨?_, ?_, ?_⟩, rfl⟩, by omega, by omega, rfl⟩ ?_ ?_ ?_ ?_)
    all_goals (first | (simp -implicitDefEqProofs (disch := omega) only [go_sem, rdObj, true_or, or_true]; done) | (simp only [List.length_take, List.length_set, List.length_append, List.length_cons, List.length_nil]; omega))
  refine g_ [2,3,7,14] ?_
  refine c_ (fun hc1 => ?_) fun hc1 => ?_
  ·
    refine g_ [2,3] ?_
    refine wpM_frz [B + 1, B + 2, B + 3] (tb3 (B + 1) 6 m.i (B + 2) 6 m.o (B + 3) 6 (m.v.set 0 1000001)) (by intro q hq; simp at hq; rcases hq with rfl | rfl | rfl <;> simp -implicitDefEqProofs (disch := omega) only [go_sem]) (frz3 T_ T_ T_ (by omega) (by omega) (by simp; omega)) ?_
    simp -implicitDefEqProofs (disch := omega) only [go_sem, tb3, rdObj]
    refine g_ [2] ?_
    refine wpM_ret ?_
    try refine S_ ?_
    refine hQ _ _ (ret0 [(id, some (rdObj bs (q' + 1)))] rfl rfl rfl (by rw [Tryz.results40] <;> simp (maxSteps := 1000000) -implicitDefEqProofs (disch := omega) only [go_sem] <;> rfl) ⟨_, q' + 1, ⟨⟨_, _, _⟩, ⟨?_, ?_, ?_⟩, rfl⟩, by omega, by omega, rfl⟩ ?_ ?_ ?_ ?_)
    all_goals (first | (simp -implicitDefEqProofs (disch := omega) only [go_sem, rdObj, true_or, or_true]; done) | (simp only [List.length_take, List.length_set, List.length_append, List.length_cons, List.length_nil]; omega))
  refine g_ [2,3,19] ?_
  refine c_ (fun hc2 => ?_) fun hc2 => ?_
  ·
    refine g_ [2,3] ?_
    refine wpM_frz [B + 1, B + 6, B + 3] (tb3 (B + 1) 6 m.i (B + 6) 7 (m.o ++ [0]) (B + 3) 6 m.v) (by intro q hq; simp at hq; rcases hq with rfl | rfl | rfl <;> simp -implicitDefEqProofs (disch := omega) only [go_sem]) (frz3 T_ T_ T_ (by omega) (by simp; omega) (by omega)) ?_
    simp -implicitDefEqProofs (disch := omega) only [go_sem, tb3, rdObj]
    refine g_ [2] ?_
    refine wpM_ret ?_
    try refine S_ ?_
    refine hQ _ _ (ret0 [(id, some (rdObj bs (q' + 1)))] rfl rfl rfl (by rw [Tryz.results40] <;> simp (maxSteps := 1000000) -implicitDefEqProofs (disch := omega) only [go_sem] <;> rfl) ⟨_, q' + 1, ⟨⟨_, _, _⟩, ⟨?_, ?_, ?_⟩, rfl⟩, by omega, by omega, rfl⟩ ?_ ?_ ?_ ?_)
    all_goals (first | (simp -implicitDefEqProofs (disch := omega) only [go_sem, rdObj, true_or, or_true]; done) | (simp only [List.length_take, List.length_set, List.length_append, List.length_cons, List.length_nil]; omega))
  refine wpM_frz [B + 1, B + 2, B + 3] (tb3 (B + 1) 6 m.i (B + 2) 6 m.o (B + 3) 6 m.v) (by intro q hq; simp at hq; rcases hq with rfl | rfl | rfl <;> simp -implicitDefEqProofs (disch := omega) only [go_sem]) (frz3 T_ T_ T_ (by omega) (by omega) (by omega)) ?_
  simp -implicitDefEqProofs (disch := omega) only [go_sem, tb3, rdObj]
  refine g_ [2] ?_
  refine wpM_ret ?_
  try refine S_ ?_
  refine hQ _ _ (ret0 [(id, some (rdObj bs (q' + 1)))] rfl rfl rfl (by rw [Tryz.results40] <;> simp (maxSteps := 1000000) -implicitDefEqProofs (disch := omega) only [go_sem] <;> rfl) ⟨_, q' + 1, ⟨⟨_, _, _⟩, ⟨?_, ?_, ?_⟩, rfl⟩, by omega, by omega, rfl⟩ ?_ ?_ ?_ ?_)
  all_goals (first | (simp -implicitDefEqProofs (disch := omega) only [go_sem, rdObj, true_or, or_true]; done) | (simp only [List.length_take, List.length_set, List.length_append, List.length_cons, List.length_nil]; omega))
theorem l2AddrBent_ok (id : Nat) (bs : List Nat) (q : Int) (hbs : Bs bs) (hq0 : 0 ≤ q) (hq : q + 4 ≤ 1000000000000) : RdF 75 [] id bs q 4 (fun v => ∃ a : AD, v = .agg a.cs) := by
  refine callF_of' Tryz.func75 rfl Tryz.ntmps75 (by simp) ?_
  intro f0 B ns Q hB hns hQ
  have hid : id < B := hB id (by simp [hasKey, lk])
  obtain rfl : ns = [] := List.eq_nil_of_length_eq_zero hns
  refine g_ [0,2] ?_
  refine n_ ?_
  refine wpM_regionK [0,2,3] rfl fun Q1 hQ1 => ?_
  refine S_ ?_
  refine call_fn (l := [(id, rdObj bs q)]) (first := []) (cap := []) (ps := [.ptr id 0]) (l2Addr_ok id bs q hbs hq0 (by omega)) Tryz.call108 rfl rfl rfl G_ T_ ?_
  rintro out ⟨_, q', ⟨a, rfl⟩, hqa, hqb, rfl⟩
  refine S_ ?_
  refine hQ1 _ _ (S_ ?_);clear hQ1 Q1
  refine n_ ?_
  refine wpM_regionK [0,2,3,7] rfl fun Q1 hQ1 => ?_
  refine S_ ?_
  refine call_fn (l := [(id, rdObj bs q')]) (first := []) (cap := []) (ps := [.ptr id 0, .int .i64 16]) (pick_ok id bs q' 16 hbs (by omega) (by omega) (by omega)) Tryz.call58 rfl rfl rfl G_ T_ ?_
  rintro out ⟨k1, rfl, h1, h2, h3⟩
  refine S_ ?_
  refine hQ1 _ _ (S_ ?_);clear hQ1 Q1
  refine g_ [0,2,3,7,8] ?_
  refine c_ (fun hc0 => ?_) fun hc0 => ?_
  ·
    refine wpM_regionK [2,3] rfl fun Q1 hQ1 => ?_
    refine S_ ?_
    refine call_fn (l := [(id, rdObj bs (q' + 1)), (B + 2, .cells 3 (ints [0, 4, -1]))]) (first := []) (cap := []) (ps := [.ptr id 0, .sl 3 (B + 2) 0 3]) (num_ok id (B + 2) bs (q' + 1) [0, 4, -1] 3 rfl (by omega) (by omega) (by omega) hbs (by omega) (by omega)) Tryz.call41 rfl rfl rfl G_ (by simp -implicitDefEqProofs (disch := omega) only [go_sem, ints, List.map_cons, List.map_nil]) ?_
    rintro out ⟨k2, rfl, h4⟩
    refine S_ ?_
    refine hQ1 _ _ (S_ ?_);clear hQ1 Q1
    refine g_ [2] ?_
    refine wpM_ret ?_
    try refine S_ ?_
    first
    | refine hQ _ _ (ret0 [(id, some (rdObj bs (q' + 1 + 1)))] rfl rfl rfl (by rw [Tryz.results75] <;> simp (maxSteps := 1000000) -implicitDefEqProofs (disch := omega) only [go_sem] <;> rfl) ⟨_, q' + 1 + 1, ⟨⟨_, _⟩, rfl⟩, by omega, by omega, rfl⟩ ?_ ?_ ?_ ?_) <;> (simp -implicitDefEqProofs (disch := omega) only [go_sem, rdObj, true_or, or_true]; done)
    | refine hQ _ _ (ret0 [(id, some (rdObj bs (q' + 1)))] rfl rfl rfl (by rw [Tryz.results75] <;> simp (maxSteps := 1000000) -implicitDefEqProofs (disch := omega) only [go_sem] <;> rfl) ⟨_, q' + 1, ⟨⟨_, _⟩, rfl⟩, by omega, by omega, rfl⟩ ?_ ?_ ?_ ?_) <;> (simp -implicitDefEqProofs (disch := omega) only [go_sem, rdObj, true_or, or_true]; done)
  refine g_ [0,2,3,14] ?_
  refine c_ (fun hc1 => ?_) fun hc1 => ?_
  ·
    refine wpM_regionK [2,3] rfl fun Q1 hQ1 => ?_
    refine S_ ?_
    refine call_fn (l := [(id, rdObj bs (q' + 1)), (B + 2, .cells 3 (ints [-1, 6, 5]))]) (first := []) (cap := []) (ps := [.ptr id 0, .sl 3 (B + 2) 0 3]) (num_ok id (B + 2) bs (q' + 1) [-1, 6, 5] 3 rfl (by omega) (by omega) (by omega) hbs (by omega) (by omega)) Tryz.call41 rfl rfl rfl G_ (by simp -implicitDefEqProofs (disch := omega) only [go_sem, ints, List.map_cons, List.map_nil]) ?_
    rintro out ⟨k2, rfl, h4⟩
    refine S_ ?_
    refine hQ1 _ _ (S_ ?_);clear hQ1 Q1
    refine g_ [2] ?_
    refine wpM_ret ?_
    try refine S_ ?_
    first
    | refine hQ _ _ (ret0 [(id, some (rdObj bs (q' + 1 + 1)))] rfl rfl rfl (by rw [Tryz.results75] <;> simp (maxSteps := 1000000) -implicitDefEqProofs (disch := omega) only [go_sem] <;> rfl) ⟨_, q' + 1 + 1, ⟨⟨_, _⟩, rfl⟩, by omega, by omega, rfl⟩ ?_ ?_ ?_ ?_) <;> (simp -implicitDefEqProofs (disch := omega) only [go_sem, rdObj, true_or, or_true]; done)
    | refine hQ _ _ (ret0 [(id, some (rdObj bs (q' + 1)))] rfl rfl rfl (by rw [Tryz.results75] <;> simp (maxSteps := 1000000) -implicitDefEqProofs (disch := omega) only [go_sem] <;> rfl) ⟨_, q' + 1, ⟨⟨_, _⟩, rfl⟩, by omega, by omega, rfl⟩ ?_ ?_ ?_ ?_) <;> (simp -implicitDefEqProofs (disch := omega) only [go_sem, rdObj, true_or, or_true]; done)
  refine g_ [2] ?_
  refine wpM_ret ?_
  try refine S_ ?_
  first
  | refine hQ _ _ (ret0 [(id, some (rdObj bs (q' + 1 + 1)))] rfl rfl rfl (by rw [Tryz.results75] <;> simp (maxSteps := 1000000) -implicitDefEqProofs (disch := omega) only [go_sem] <;> rfl) ⟨_, q' + 1 + 1, ⟨⟨_, _⟩, rfl⟩, by omega, by omega, rfl⟩ ?_ ?_ ?_ ?_) <;> (simp -implicitDefEqProofs (disch := omega) only [go_sem, rdObj, true_or, or_true]; done)
  | refine hQ _ _ (ret0 [(id, some (rdObj bs (q' + 1)))] rfl rfl rfl (by rw [Tryz.results75] <;> simp (maxSteps := 1000000) -implicitDefEqProofs (disch := omega) only [go_sem] <;> rfl) ⟨_, q' + 1, ⟨⟨_, _⟩, rfl⟩, by omega, by omega, rfl⟩ ?_ ?_ ?_ ?_) <;> (simp -implicitDefEqProofs (disch := omega) only [go_sem, rdObj, true_or, or_true]; done)
end Go.Proofs.YtmicbfojofcigaaGreatDoor
namespace Go.Proofs.YtmicbfojofcigaaGreatDoor
open Go Sg
set_option linter.unusedSectionVars false
variable [Glob]
set_option maxRecDepth 100000
set_option linter.unusedSimpArgs false
set_option linter.unusedVariables false
set_option maxHeartbeats 4000000
def exc (l : List Ex) : List PV := (Ex.csL l).flatten
@[go_sem] theorem exc_len (l : List Ex) : (exc l).length = l.length * 5 := by
  induction l with
  | nil => rfl
  | cons e l ih => simp only [exc, Ex.csL, List.flatten_cons, List.length_append, Ex.cs_eq, List.length_cons, List.length_nil] at ih ⊢; omega
theorem exc_app (l : List Ex) (e : Ex) : exc l ++ e.cs = exc (l ++ [e]) := by
  simp [exc, Ex.csL_map]
theorem exc_one (e : Ex) : e.cs = exc [e] := by simp [exc, Ex.csL]
theorem csL_idsL (p : Nat → Prop) (e : Ex) : PV.idsL p e.cs = True := by rw [Ex.cs_eq]; simp [PV.idsL, PV.ids]
theorem idsL_app (p : Nat → Prop) (a b : List PV) : PV.idsL p (a ++ b) = (PV.idsL p a ∧ PV.idsL p b) := by
  induction a with
  | nil => simp [PV.idsL]
  | cons x a ih => simp only [List.cons_append, PV.idsL, ih, and_assoc]
@[go_sem] theorem exc_ids (p : Nat → Prop) (l : List Ex) : PV.idsL p (exc l) = True := by
  induction l with
  | nil => simp [exc, Ex.csL, PV.idsL]
  | cons e l ih => simp only [exc, Ex.csL, List.flatten_cons] at ih ⊢; rw [idsL_app, ih, csL_idsL]; simp
theorem renL_app (p : Nat → Nat) (a b : List PV) : PV.renL p (a ++ b) = PV.renL p a ++ PV.renL p b := by
  induction a with
  | nil => simp [PV.renL]
  | cons x a ih => simp only [List.cons_append, PV.renL, ih]
@[go_sem] theorem exc_ren (p : Nat → Nat) (l : List Ex) : PV.renL p (exc l) = exc l := by
  induction l with
  | nil => simp [exc, Ex.csL, PV.renL]
  | cons e l ih =>
    simp only [exc, Ex.csL, List.flatten_cons] at ih ⊢; rw [renL_app, ih]
    congr 1; rw [Ex.cs_eq]; simp [PV.renL, PV.ren]
theorem subL_app (θ : TypeId → Nat → Nat → Nat → Option PV) (a b : List PV) : PV.subL θ (a ++ b) = PV.subL θ a ++ PV.subL θ b := by
  induction a with
  | nil => simp [PV.subL]
  | cons x a ih => simp only [List.cons_append, PV.subL, ih]
@[go_sem] theorem exc_sub (θ : TypeId → Nat → Nat → Nat → Option PV) (l : List Ex) : PV.subL θ (exc l) = exc l := by
  induction l with
  | nil => simp [exc, Ex.csL, PV.subL]
  | cons e l ih => simp only [exc, Ex.csL, List.flatten_cons] at ih ⊢; rw [subL_app, ih, sub_flatE]
theorem rowsOf_exc {f : Nat → Option AObj} {id : Nat} {T : TypeId} {l : List Ex} (h : f id = some (.cells T (exc l))) : RowsOf Tryz.prog f 50 id 0 l.length (Ex.csL l) := by
  refine ⟨by rw [cellsOf50]; omega, by rw [Ex.csL_len], ?_, T, _, h, ?_, ?_⟩
  · intro c hc
    rw [Ex.csL_map, List.mem_map] at hc
    obtain ⟨x, _, rfl⟩ := hc
    rw [cellsOf50, Ex.cs_eq]; exact ⟨rfl, rfl⟩
  · rw [cellsOf50, exc_len]; omega
  · rw [cellsOf50, List.drop_zero, List.take_of_length_le (by rw [exc_len]; omega)]; rfl
theorem Ex.szL_app (l : List Ex) (e : Ex) : Ex.szL (l ++ [e]) = Ex.szL l + e.sz := by
  induction l with
  | nil => simp [Ex.szL]
  | cons x l ih => simp only [List.cons_append, Ex.szL, ih]; omega
@[go_sem] theorem Ex.mk_kind (k n : Int) (a : AD) (l : List Ex) : (Ex.mk k n a l).kind = k := rfl
@[go_sem] theorem Ex.mk_n (k n : Int) (a : AD) (l : List Ex) : (Ex.mk k n a l).n = n := rfl
@[go_sem] theorem Ex.mk_a (k n : Int) (a : AD) (l : List Ex) : (Ex.mk k n a l).a = a := rfl
@[go_sem] theorem Ex.mk_kids (k n : Int) (a : AD) (l : List Ex) : (Ex.mk k n a l).kids = l := rfl
@[go_sem] theorem Ex.csL_nil : Ex.csL [] = [] := rfl
def eb : Nat → Int
  | 0 => 4
  | d + 1 => 4 + 2 * eb d
def es : Nat → Nat
  | 0 => 1
  | d + 1 => 1 + 2 * es d
theorem eb_pos : ∀ d, 4 ≤ eb d
  | 0 => by simp [eb]
  | d + 1 => by have := eb_pos d; simp only [eb]; omega
theorem es_pos : ∀ d, 1 ≤ es d
  | 0 => by simp [es]
  | d + 1 => by have := es_pos d; simp only [es]; omega
def ExprD (d : Nat) (id : Nat) (bs : List Nat) (q dep : Int) : Prop := RdF 77 [.int .i64 dep] id bs q (eb d) (fun v => ∃ e : Ex, e.sz ≤ es d ∧ v = .agg e.cs)
theorem expr_leaf (d : Nat) (id : Nat) (bs : List Nat) (q dep : Int) (hbs : Bs bs) (hq0 : 0 ≤ q) (hq : q + eb d ≤ 1000000000000) (hd : decide (dep ≤ 1) = true) : ExprD d id bs q dep := by
  have hb4 := eb_pos d
  have hs1 := es_pos d
  refine callF_of' Tryz.func77 rfl Tryz.ntmps77 (by simp) ?_
  intro f0 B ns Q hB hns hQ
  have hid : id < B := hB id (by simp [hasKey, lk])
  obtain rfl : ns = [] := List.eq_nil_of_length_eq_zero hns
  refine g_ [0,1,4] ?_
  refine n_ ?_
  refine wpM_regionK [0,1,4,13] rfl fun Q1 hQ1 => ?_
  simp -implicitDefEqProofs (disch := omega) only [go_sem, hd]
  refine hQ1 _ _ (S_ ?_);clear hQ1 Q1
  refine c1_ ?_
  refine n_ ?_
  refine wpM_regionK [0,4,16] rfl fun Q1 hQ1 => ?_
  refine S_ ?_
  refine call_fn (l := [(id, rdObj bs q)]) (first := []) (cap := []) (ps := [.ptr id 0, .int .i64 3]) (pick_ok id bs q 3 hbs (by omega) (by omega) (by omega)) Tryz.call58 rfl rfl rfl G_ T_ ?_
  rintro out ⟨k1, rfl, h1, h2, h3⟩
  refine S_ ?_
  refine hQ1 _ _ (S_ ?_);clear hQ1 Q1
  refine c_ (fun hc1 => ?_) fun hc1 => ?_
  ·
    refine n_ ?_
    refine wpM_regionK [4] rfl fun Q1 hQ1 => ?_
    refine S_ ?_
    refine call_fn (l := [(id, rdObj bs (q + 1)), (B + 1, .cells 3 (ints [0, 1, 2, 3, -1, 5, 1000000]))]) (first := []) (cap := []) (ps := [.ptr id 0, .sl 3 (B + 1) 0 7]) (num_ok id (B + 1) bs (q + 1) [0, 1, 2, 3, -1, 5, 1000000] 7 rfl (by omega) (by omega) (by omega) hbs (by omega) (by omega)) Tryz.call41 rfl rfl rfl G_ (by simp -implicitDefEqProofs (disch := omega) only [go_sem, ints, List.map_cons, List.map_nil]) ?_
    rintro out ⟨k2, rfl, h4⟩
    refine S_ ?_
    refine hQ1 _ _ (S_ ?_);clear hQ1 Q1
    refine wpM_le [(4, .ptr B 0)] [(B, .cells 50 (Ex.mk 1 k2 ⟨0, 0⟩ []).cs), (id, rdObj bs (q + 1 + 1))] T_ T_ T_ ?_
    refine wpM_ret ?_
    try refine S_ ?_
    first
    | refine hQ _ _ (ret0 [(id, some (rdObj bs (q + 1 + 1)))] rfl rfl rfl (by rw [Tryz.results77] <;> simp (maxSteps := 1000000) -implicitDefEqProofs (disch := omega) only [go_sem] <;> rfl) ⟨_, q + 1 + 1, ⟨Ex.mk 1 k2 ⟨0, 0⟩ [], by simpa [Ex.sz, Ex.szL] using hs1, rfl⟩, by omega, by omega, rfl⟩ ?_ ?_ ?_ ?_) <;> (simp -implicitDefEqProofs (disch := omega) only [go_sem, rdObj, true_or, or_true]; done)
    | refine hQ _ _ (ret0 [(id, some (rdObj bs q'))] rfl rfl rfl (by rw [Tryz.results77] <;> simp (maxSteps := 1000000) -implicitDefEqProofs (disch := omega) only [go_sem] <;> rfl) ⟨_, q', ⟨Ex.mk 2 0 a [], by simpa [Ex.sz, Ex.szL] using hs1, rfl⟩, by omega, by omega, rfl⟩ ?_ ?_ ?_ ?_) <;> (simp -implicitDefEqProofs (disch := omega) only [go_sem, rdObj, true_or, or_true]; done)
  refine n_ ?_
  refine wpM_regionK [4] rfl fun Q1 hQ1 => ?_
  refine S_ ?_
  refine call_fn (l := [(id, rdObj bs (q + 1))]) (first := []) (cap := []) (ps := [.ptr id 0]) (l2Addr_ok id bs (q + 1) hbs (by omega) (by omega)) Tryz.call108 rfl rfl rfl G_ T_ ?_
  rintro out ⟨_, q', ⟨a, rfl⟩, hqa, hqb, rfl⟩
  refine S_ ?_
  refine hQ1 _ _ (S_ ?_);clear hQ1 Q1
  refine wpM_le [(4, .ptr B 0)] [(B, .cells 50 (Ex.mk 2 0 a []).cs), (id, rdObj bs q')] T_ T_ T_ ?_
  refine wpM_ret ?_
  try refine S_ ?_
  first
  | refine hQ _ _ (ret0 [(id, some (rdObj bs (q + 1 + 1)))] rfl rfl rfl (by rw [Tryz.results77] <;> simp (maxSteps := 1000000) -implicitDefEqProofs (disch := omega) only [go_sem] <;> rfl) ⟨_, q + 1 + 1, ⟨Ex.mk 1 k2 ⟨0, 0⟩ [], by simpa [Ex.sz, Ex.szL] using hs1, rfl⟩, by omega, by omega, rfl⟩ ?_ ?_ ?_ ?_) <;> (simp -implicitDefEqProofs (disch := omega) only [go_sem, rdObj, true_or, or_true]; done)
  | refine hQ _ _ (ret0 [(id, some (rdObj bs q'))] rfl rfl rfl (by rw [Tryz.results77] <;> simp (maxSteps := 1000000) -implicitDefEqProofs (disch := omega) only [go_sem] <;> rfl) ⟨_, q', ⟨Ex.mk 2 0 a [], by simpa [Ex.sz, Ex.szL] using hs1, rfl⟩, by omega, by omega, rfl⟩ ?_ ?_ ?_ ?_) <;> (simp -implicitDefEqProofs (disch := omega) only [go_sem, rdObj, true_or, or_true]; done)
theorem expr_node (d : Nat) (id : Nat) (bs : List Nat) (q dep : Int) (hbs : Bs bs) (hq0 : 0 ≤ q) (hq : q + eb (d + 1) ≤ 1000000000000) (hd : decide (dep ≤ 1) = false) (hdep : dep ≤ 1000000)
    (ih : ∀ q', 0 ≤ q' → q' + eb d ≤ 1000000000000 → ExprD d id bs q' (dep - 1)) : ExprD (d + 1) id bs q dep := by
  have hb4 := eb_pos d
  have hs1 := es_pos d
  have hb5 : eb (d + 1) = 4 + 2 * eb d := rfl
  have hdep1 : 1 < dep := by simpa using hd
  have hs5 : es (d + 1) = 1 + 2 * es d := rfl
  refine callF_of' Tryz.func77 rfl Tryz.ntmps77 (by simp) ?_
  intro f0 B ns Q hB hns hQ
  have hid : id < B := hB id (by simp [hasKey, lk])
  obtain rfl : ns = [] := List.eq_nil_of_length_eq_zero hns
  refine g_ [0,1,4] ?_
  refine n_ ?_
  refine wpM_regionK [0,1,4,13] rfl fun Q1 hQ1 => ?_
  simp -implicitDefEqProofs (disch := omega) only [go_sem, hd]
  refine call_fn (l := [(id, rdObj bs q)]) (first := []) (cap := []) (ps := [.ptr id 0, .int .i64 4]) (pick_ok id bs q 4 hbs (by omega) (by omega) (by omega)) Tryz.call58 rfl rfl rfl G_ T_ ?_
  rintro out ⟨k0, rfl, h01, h02, h03⟩
  simp -implicitDefEqProofs (disch := omega) only [go_sem, hd]
  refine hQ1 _ _ (S_ ?_);clear hQ1 Q1
  refine c_ (fun hc0 => ?_) fun hc0 => ?_
  ·
    refine n_ ?_
    refine wpM_regionK [0,4,16] rfl fun Q1 hQ1 => ?_
    refine S_ ?_
    refine call_fn (l := [(id, rdObj bs (q + 1))]) (first := []) (cap := []) (ps := [.ptr id 0, .int .i64 3]) (pick_ok id bs (q + 1) 3 hbs (by omega) (by omega) (by omega)) Tryz.call58 rfl rfl rfl G_ T_ ?_
    rintro out ⟨k1, rfl, h1, h2, h3⟩
    refine S_ ?_
    refine hQ1 _ _ (S_ ?_);clear hQ1 Q1
    refine c_ (fun hc1 => ?_) fun hc1 => ?_
    ·
      refine n_ ?_
      refine wpM_regionK [4] rfl fun Q1 hQ1 => ?_
      refine S_ ?_
      refine call_fn (l := [(id, rdObj bs (q + 1 + 1)), (B + 1, .cells 3 (ints [0, 1, 2, 3, -1, 5, 1000000]))]) (first := []) (cap := []) (ps := [.ptr id 0, .sl 3 (B + 1) 0 7]) (num_ok id (B + 1) bs (q + 1 + 1) [0, 1, 2, 3, -1, 5, 1000000] 7 rfl (by omega) (by omega) (by omega) hbs (by omega) (by omega)) Tryz.call41 rfl rfl rfl G_ (by simp -implicitDefEqProofs (disch := omega) only [go_sem, ints, List.map_cons, List.map_nil]) ?_
      rintro out ⟨k2, rfl, h4⟩
      refine S_ ?_
      refine hQ1 _ _ (S_ ?_);clear hQ1 Q1
      refine wpM_le [(4, .ptr B 0)] [(B, .cells 50 (Ex.mk 1 k2 ⟨0, 0⟩ []).cs), (id, rdObj bs (q + 1 + 1 + 1))] T_ T_ T_ ?_
      refine wpM_ret ?_
      try refine S_ ?_
      first
      | refine hQ _ _ (ret0 [(id, some (rdObj bs (q + 1 + 1 + 1)))] rfl rfl rfl (by rw [Tryz.results77] <;> simp (maxSteps := 1000000) -implicitDefEqProofs (disch := omega) only [go_sem] <;> rfl) ⟨_, q + 1 + 1 + 1, ⟨Ex.mk 1 k2 ⟨0, 0⟩ [], by simp only [Ex.sz, Ex.szL]; omega, rfl⟩, by omega, by omega, rfl⟩ ?_ ?_ ?_ ?_) <;> (simp -implicitDefEqProofs (disch := omega) only [go_sem, rdObj, true_or, or_true]; done)
      | refine hQ _ _ (ret0 [(id, some (rdObj bs q'))] rfl rfl rfl (by rw [Tryz.results77] <;> simp (maxSteps := 1000000) -implicitDefEqProofs (disch := omega) only [go_sem] <;> rfl) ⟨_, q', ⟨Ex.mk 2 0 a [], by simp only [Ex.sz, Ex.szL]; omega, rfl⟩, by omega, by omega, rfl⟩ ?_ ?_ ?_ ?_) <;> (simp -implicitDefEqProofs (disch := omega) only [go_sem, rdObj, true_or, or_true]; done)
      | refine hQ _ _ (ret0 [(id, some (rdObj bs q'))] rfl rfl rfl (by rw [Tryz.results77] <;> simp (maxSteps := 1000000) -implicitDefEqProofs (disch := omega) only [go_sem] <;> rfl) ⟨_, q', ⟨Ex.mk k5 0 ⟨0, 0⟩ l, by (have : Ex.szL l ≤ 2 * es d := (by rcases hr with h | h <;> rw [h] at hsz <;> omega)); simp only [Ex.sz]; omega, rfl⟩, by omega, by omega, rfl⟩ ?_ ?_ ?_ ?_) <;> (simp -implicitDefEqProofs (disch := omega) only [go_sem, rdObj, true_or, or_true]; done)
    refine n_ ?_
    refine wpM_regionK [4] rfl fun Q1 hQ1 => ?_
    refine S_ ?_
    refine call_fn (l := [(id, rdObj bs (q + 1 + 1))]) (first := []) (cap := []) (ps := [.ptr id 0]) (l2Addr_ok id bs (q + 1 + 1) hbs (by omega) (by omega)) Tryz.call108 rfl rfl rfl G_ T_ ?_
    rintro out ⟨_, q', ⟨a, rfl⟩, hqa, hqb, rfl⟩
    refine S_ ?_
    refine hQ1 _ _ (S_ ?_);clear hQ1 Q1
    refine wpM_le [(4, .ptr B 0)] [(B, .cells 50 (Ex.mk 2 0 a []).cs), (id, rdObj bs q')] T_ T_ T_ ?_
    refine wpM_ret ?_
    try refine S_ ?_
    first
    | refine hQ _ _ (ret0 [(id, some (rdObj bs (q + 1 + 1 + 1)))] rfl rfl rfl (by rw [Tryz.results77] <;> simp (maxSteps := 1000000) -implicitDefEqProofs (disch := omega) only [go_sem] <;> rfl) ⟨_, q + 1 + 1 + 1, ⟨Ex.mk 1 k2 ⟨0, 0⟩ [], by simp only [Ex.sz, Ex.szL]; omega, rfl⟩, by omega, by omega, rfl⟩ ?_ ?_ ?_ ?_) <;> (simp -implicitDefEqProofs (disch := omega) only [go_sem, rdObj, true_or, or_true]; done)
    | refine hQ _ _ (ret0 [(id, some (rdObj bs q'))] rfl rfl rfl (by rw [Tryz.results77] <;> simp (maxSteps := 1000000) -implicitDefEqProofs (disch := omega) only [go_sem] <;> rfl) ⟨_, q', ⟨Ex.mk 2 0 a [], by simp only [Ex.sz, Ex.szL]; omega, rfl⟩, by omega, by omega, rfl⟩ ?_ ?_ ?_ ?_) <;> (simp -implicitDefEqProofs (disch := omega) only [go_sem, rdObj, true_or, or_true]; done)
    | refine hQ _ _ (ret0 [(id, some (rdObj bs q'))] rfl rfl rfl (by rw [Tryz.results77] <;> simp (maxSteps := 1000000) -implicitDefEqProofs (disch := omega) only [go_sem] <;> rfl) ⟨_, q', ⟨Ex.mk k5 0 ⟨0, 0⟩ l, by (have : Ex.szL l ≤ 2 * es d := (by rcases hr with h | h <;> rw [h] at hsz <;> omega)); simp only [Ex.sz]; omega, rfl⟩, by omega, by omega, rfl⟩ ?_ ?_ ?_ ?_) <;> (simp -implicitDefEqProofs (disch := omega) only [go_sem, rdObj, true_or, or_true]; done)
  refine n_ ?_
  refine wpM_regionK [0,1,4,5] rfl fun Q1 hQ1 => ?_
  refine S_ ?_
  refine call_fn (l := [(id, rdObj bs (q + 1)), (B + 1, .cells 3 (ints [3, 3, 4, 5, 6, 6, 7, 8, 9, 10]))]) (first := []) (cap := []) (ps := [.ptr id 0, .sl 3 (B + 1) 0 10]) (num_ok id (B + 1) bs (q + 1) [3, 3, 4, 5, 6, 6, 7, 8, 9, 10] 10 rfl (by omega) (by omega) (by omega) hbs (by omega) (by omega)) Tryz.call41 rfl rfl rfl G_ (by simp -implicitDefEqProofs (disch := omega) only [go_sem, ints, List.map_cons, List.map_nil]) ?_
  rintro out ⟨k5, rfl, h5⟩
  refine S_ ?_
  refine hQ1 _ _ (S_ ?_);clear hQ1 Q1
  refine n_ ?_
  refine wpM_regionK [0,1,4,5,6] rfl fun Q1 hQ1 => ?_
  refine S_ ?_
  refine cp_ (l3Kids_ok k5) Tryz.call110 ?_
  refine hQ1 _ _ (S_ ?_);clear hQ1 Q1
  obtain ⟨n, hkn, hn1, hn2⟩ : ∃ n : Nat, kidsN k5 = (n : Int) ∧ 1 ≤ n ∧ n ≤ 2 := by
    simp only [List.mem_cons, List.not_mem_nil, or_false] at h5
    rcases h5 with rfl | rfl | rfl | rfl | rfl | rfl | rfl | rfl | rfl | rfl <;> first | exact ⟨2, rfl, by omega, by omega⟩ | exact ⟨1, rfl, by omega, by omega⟩
  rw [hkn]
  refine n_ ?_
  refine wpM_loopS (fun s r s' => (r = n ∧ s' = s) ∨ ∃ (M0 y : Nat) (l : List Ex) (q' : Int), 0 < l.length ∧ l.length + r = n ∧ s.M ≤ y ∧ y < M0 ∧ Ex.szL l ≤ l.length * es d ∧ q + 2 ≤ q' ∧ q' ≤ q + 2 + (l.length : Int) * eb d ∧ s' = { s with env := setE 6 (.int .i64 (r : Nat)) s.env, l := (y, .cells 50 (exc l)) :: setl (B + 2) (.cells 50 [.int .i64 k5, .int .i64 0, .int .i64 0, .int .i64 0, .sl 50 y 0 l.length]) (setl id (rdObj bs q') s.l), M := M0 }) (n) ?_ ?_
  ·
    refine .of' _ _ (.inl ⟨rfl, rfl⟩) ?_ ?_ ?_ <;> exact L_
  rintro r s' (⟨rfl, rfl⟩ | ⟨M0, y, l, q', hl0, hlr, hy, hyM, hsz, hqa, hqb, rfl⟩)
  ·
    try refine S_ ?_
    refine g_ [0,1,4,5,6,32] ?_
    refine c_ (fun hc2 => ?_) fun hc2 => ?_
    ·
      skip
      refine n_ ?_
      refine dr_ mixed [0,1,4,5,6] 2 2 [B + 2, id, B + 3, B + 4] [⟨[5],[],[],[],false⟩,⟨[35],[0],[],[],false⟩,⟨[0],[],[],[],false⟩,⟨[1],[],[],[],false⟩,⟨[38],[],[],[],false⟩,⟨[37,39],[1],[1],[],true⟩,⟨[40],[],[],[2],false⟩,⟨[36,41],[2],[],[3],false⟩,⟨[5],[],[],[],false⟩,⟨[42,43],[0],[0],[],false⟩] [0,1,2,3,4,5,6,7,8,9] [[],[0],[],[],[3],[2,3,4],[2,3,4,5],[0,1,2,3,4,5,6],[0,1,2,3,4,5,6,7],[0,1,2,3,4,5,6,7,8]] 4 (htbl := by simp; omega) (hnm := by simp) ?_
      intro O A K hO hA hK;simp only [atL_cons,atL_nil,Nat.reduceAdd,Nat.zero_add] at hO hA
      refine SO_ ?_
      refine loud_fn (first := []) (cap := []) (ps := [.ptr id 0, .int .i64 (dep - 1)]) (l := [(id, rdObj bs (q + 1 + 1))]) (ih (q + 1 + 1) (by omega) (by omega)) Tryz.call77 rfl rfl F_ (subG_spec T_) rfl ?_
      rintro out ⟨_, q', ⟨e, hes, rfl⟩, hqa, hqb, rfl⟩
      refine ⟨rfl, ?_⟩
      refine SO_ ?_
      refine hK _ (S_ ?_);clear hK K hO hA O A
      refine g_ [0,1,4,5,6] ?_
      have e1 : [PV.int .i64 e.kind, .int .i64 e.n, .int .i64 e.a.kind, .int .i64 e.a.at', .rows 50 (Ex.csL e.kids)] = exc [e] := by rw [← exc_one, Ex.cs_eq]
      rw [e1, show ((r : Int) - 1) = ((r - 1 : Nat) : Int) by omega]
      refine .of' _ _ ⟨r - 1, by omega, .inr ⟨_, B + 4, [e], q', by simp, by simp; omega, ?_, ?_, by simp [Ex.szL]; omega, by omega, by simp; omega, rfl⟩⟩ ?_ ?_ ?_
      · first | omega | (simp -implicitDefEqProofs (disch := omega) only [go_sem]; done) | (simp -implicitDefEqProofs (disch := omega) only [go_sem]; omega)
      · first | omega | (simp -implicitDefEqProofs (disch := omega) only [go_sem]; done) | (simp -implicitDefEqProofs (disch := omega) only [go_sem]; omega)
      all_goals exact L_
    exfalso; omega
  dsimp only at hy
  have hr : l.length = 1 ∨ l.length = 2 := by omega
  have hqb2 : q' ≤ q + 2 + 2 * eb d := by rcases hr with h | h <;> rw [h] at hqb <;> omega
  try refine S_ ?_
  refine g_ [0,1,4,5,6,32] ?_
  refine c_ (fun hc2 => ?_) fun hc2 => ?_
  ·
    have hr1 : l.length = 1 := by omega
    have hqb3 : q' ≤ q + 2 + eb d := by rw [hr1] at hqb; omega
    refine n_ ?_
    refine dr_ mixed [0,1,4,5,6] 2 3 [B + 2, id, y, M0, M0 + 1] [⟨[5],[],[],[],false⟩,⟨[35],[0],[],[],false⟩,⟨[0],[],[],[],false⟩,⟨[1],[],[],[],false⟩,⟨[38],[],[],[],false⟩,⟨[37,39],[1],[1],[],true⟩,⟨[40],[],[],[3],false⟩,⟨[36,41],[2,3],[2],[4],false⟩,⟨[5],[],[],[],false⟩,⟨[42,43],[0],[0],[],false⟩] [0,1,2,3,4,5,6,7,8,9] [[],[0],[],[],[3],[2,3,4],[2,3,4,5],[0,1,2,3,4,5,6],[0,1,2,3,4,5,6,7],[0,1,2,3,4,5,6,7,8]] 5 (htbl := by simp; omega) (hnm := by simp) ?_
    intro O A K hO hA hK;simp only [atL_cons,atL_nil,Nat.reduceAdd,Nat.zero_add] at hO hA
    refine SO_ ?_
    refine loud_fn (first := []) (cap := []) (ps := [.ptr id 0, .int .i64 (dep - 1)]) (l := [(id, rdObj bs q')]) (ih q' (by omega) (by omega)) Tryz.call77 rfl rfl F_ (subG_spec T_) rfl ?_
    rintro out ⟨_, q2, ⟨e, hes, rfl⟩, hqc, hqd, rfl⟩
    refine ⟨rfl, ?_⟩
    refine SO_ ?_
    refine hK _ (S_ ?_);clear hK K hO hA O A
    refine g_ [0,1,4,5,6] ?_
    have e1 : exc l ++ [PV.int .i64 e.kind, .int .i64 e.n, .int .i64 e.a.kind, .int .i64 e.a.at', .rows 50 (Ex.csL e.kids)] = exc (l ++ [e]) := by rw [← exc_app, Ex.cs_eq e]
    rw [e1, show ((r : Int) - 1) = ((r - 1 : Nat) : Int) by omega]
    refine .of' _ _ ⟨r - 1, by omega, .inr ⟨_, M0 + 1, l ++ [e], q2, by simp, by simp; omega, ?_, ?_, by rw [Ex.szL_app, List.length_append, hr1]; rw [hr1] at hsz; simp; omega, by omega, by rw [List.length_append, hr1]; simp; omega, rfl⟩⟩ ?_ ?_ ?_
    · first | omega | (simp -implicitDefEqProofs (disch := omega) only [go_sem]; done) | (simp -implicitDefEqProofs (disch := omega) only [go_sem]; omega)
    · first | omega | (simp -implicitDefEqProofs (disch := omega) only [go_sem]; done) | (simp -implicitDefEqProofs (disch := omega) only [go_sem]; omega)
    all_goals exact L_
  refine n_ ?_
  have hr0 : r = 0 := by omega
  refine wpM_frz [y] [(50, y, 0, l.length, Ex.csL l)] (by intro q hq; simp at hq; subst hq; simp -implicitDefEqProofs (disch := omega) only [go_sem]) (by intro q hq; simp only [List.mem_cons, List.not_mem_nil, or_false] at hq; subst hq; exact ⟨by simp, rowsOf_exc (T := 50) T_⟩) ?_
  simp -implicitDefEqProofs (disch := omega) only [go_sem, rdObj]
  refine g_ [4] ?_
  refine wpM_ret ?_
  try refine S_ ?_
  first
  | refine hQ _ _ (ret0 [(id, some (rdObj bs (q + 1 + 1 + 1)))] rfl rfl rfl (by rw [Tryz.results77] <;> simp (maxSteps := 1000000) -implicitDefEqProofs (disch := omega) only [go_sem] <;> rfl) ⟨_, q + 1 + 1 + 1, ⟨Ex.mk 1 k2 ⟨0, 0⟩ [], by simp only [Ex.sz, Ex.szL]; omega, rfl⟩, by omega, by omega, rfl⟩ ?_ ?_ ?_ ?_) <;> (simp -implicitDefEqProofs (disch := omega) only [go_sem, rdObj, true_or, or_true]; done)
  | refine hQ _ _ (ret0 [(id, some (rdObj bs q'))] rfl rfl rfl (by rw [Tryz.results77] <;> simp (maxSteps := 1000000) -implicitDefEqProofs (disch := omega) only [go_sem] <;> rfl) ⟨_, q', ⟨Ex.mk 2 0 a [], by simp only [Ex.sz, Ex.szL]; omega, rfl⟩, by omega, by omega, rfl⟩ ?_ ?_ ?_ ?_) <;> (simp -implicitDefEqProofs (disch := omega) only [go_sem, rdObj, true_or, or_true]; done)
  | refine hQ _ _ (ret0 [(id, some (rdObj bs q'))] rfl rfl rfl (by rw [Tryz.results77] <;> simp (maxSteps := 1000000) -implicitDefEqProofs (disch := omega) only [go_sem] <;> rfl) ⟨_, q', ⟨Ex.mk k5 0 ⟨0, 0⟩ l, by (have : Ex.szL l ≤ 2 * es d := (by rcases hr with h | h <;> rw [h] at hsz <;> omega)); simp only [Ex.sz]; omega, rfl⟩, by omega, by omega, rfl⟩ ?_ ?_ ?_ ?_) <;> (simp -implicitDefEqProofs (disch := omega) only [go_sem, rdObj, true_or, or_true]; done)
theorem l3Expr_ok (id : Nat) (bs : List Nat) (hbs : Bs bs) (d : Nat) : ∀ (q dep : Int), 0 ≤ q → q + eb d ≤ 1000000000000 → dep ≤ (d : Int) + 1 → dep ≤ 1000000 → ExprD d id bs q dep := by
  induction d with
  | zero => intro q dep h1 h2 h3 h4; exact expr_leaf 0 id bs q dep hbs h1 h2 (by simp; omega)
  | succ d ih =>
    intro q dep h1 h2 h3 h4
    by_cases hd : dep ≤ 1
    · exact expr_leaf (d + 1) id bs q dep hbs h1 h2 (by simp [hd])
    · exact expr_node d id bs q dep hbs h1 h2 (by simp [hd]) h4 (fun q' g1 g2 => ih q' (dep - 1) g1 g2 (by omega) (by omega))
end Go.Proofs.YtmicbfojofcigaaGreatDoor
namespace Go.Proofs.YtmicbfojofcigaaGreatDoor
open Go Sg
set_option linter.unusedSectionVars false
variable [Glob]
set_option maxRecDepth 100000
set_option linter.unusedSimpArgs false
set_option linter.unusedVariables false
set_option maxHeartbeats 4000000
theorem l3Copy_ok : ∀ (N : Nat) (e : Ex), e.sz ≤ N → e.sz ≤ 1099511627776 → PureF Tryz.prog 66 [.agg e.cs] [.agg e.cs] := by
  intro N
  induction N with
  | zero => intro e h; have := e.sz_pos; omega
  | succ N ih =>
    intro e hN hs
    have hlen := e.kids_len
    refine pureF_of Tryz.func66 rfl Tryz.ntmps66 (by simp) T_ ?_
    intro f0 B Q hQ
    refine g_ [1,2] ?_
    refine g_ [1,2,3] ?_
    refine g_ [1,2,3,4] ?_
    refine n_ ?_
    refine wpM_loopS (fun s r s' => (r = e.kids.length ∧ s' = s) ∨ ∃ (i0 M0 y : Nat), 0 < i0 ∧ i0 + r = e.kids.length ∧ s.M ≤ y ∧ y < M0 ∧ s' = { s with env := setE 4 (.int .i64 (i0 : Nat)) s.env, l := (y, .cells 50 (exc (e.kids.take i0))) :: setl (B + 2) (.cells 50 [.int .i64 e.kind, .int .i64 e.n, .int .i64 e.a.kind, .int .i64 e.a.at', .sl 50 y 0 i0]) s.l, M := M0 }) (e.kids.length) ?_ ?_
    ·
      refine .of' _ _ (.inl ⟨rfl, rfl⟩) ?_ ?_ ?_ <;> exact L_
    rintro r s' (⟨rfl, rfl⟩ | ⟨i0, M0, y, hi0, hir, hy, hyM, rfl⟩)
    ·
      try refine S_ ?_
      refine g_ [1,2,3,4,16] ?_
      refine c_ (fun hc0 => ?_) fun hc0 => ?_
      ·
        have hks := Ex.kid_sz (e := e) (k := 0) (by omega)
        refine n_ ?_
        refine dr_ mixed [1,2,3,4] 2 2 [B + 2, B, B + 3, B + 4] [⟨[3],[],[],[],false⟩,⟨[19],[0],[],[],false⟩,⟨[1],[],[],[],false⟩,⟨[21],[1],[],[],false⟩,⟨[4],[],[],[],false⟩,⟨[22,23],[],[],[],false⟩,⟨[24],[],[],[],false⟩,⟨[25],[],[],[],true⟩,⟨[26],[],[],[2],false⟩,⟨[20,27],[2],[],[3],false⟩,⟨[3],[],[],[],false⟩,⟨[28,29],[0],[0],[],false⟩] [0,1,2,3,4,5,6,7,8,9,10,11] [[],[0],[],[2],[],[2,3,4],[2,3,4,5],[2,3,4,5,6],[2,3,4,5,6,7],[0,1,2,3,4,5,6,7,8],[0,1,2,3,4,5,6,7,8,9],[0,1,2,3,4,5,6,7,8,9,10]] 4 ?_
        intro O A K hO hA hK;simp only [atL_cons,atL_nil,Nat.reduceAdd,Nat.zero_add] at hO hA
        simp -implicitDefEqProofs (disch := omega) only [go_sem, exc_len, hO, hA]
        refine loud_p (ih (e.kids.getD 0 default) (by omega) (by omega)) Tryz.call66 rfl rfl (by first | rfl | (simp -implicitDefEqProofs (disch := omega) only [go_sem] <;> rfl)) rfl ?_
        simp -implicitDefEqProofs (disch := omega) only [go_sem, exc_len, hO, hA]
        refine hK _ (S_ ?_);clear hK K hO hA O A
        refine g_ [1,2,3,4] ?_
        have e1 : [PV.int .i64 (e.kids.getD 0 default).kind, .int .i64 (e.kids.getD 0 default).n, .int .i64 (e.kids.getD 0 default).a.kind, .int .i64 (e.kids.getD 0 default).a.at', .rows 50 (Ex.csL (e.kids.getD 0 default).kids)] = exc (e.kids.take 1) := by
          have this0 : e.kids.getD 0 default = e.kids[0] := by simp [List.getD, show 0 < e.kids.length by omega]
          rw [List.take_succ_eq_append_getElem (by omega), List.take_zero, List.nil_append, ← exc_one, ← this0, Ex.cs_eq]
        rw [e1]
        refine .of' _ _ ⟨e.kids.length - 1, by omega, .inr ⟨1, _, B + 4, by omega, by omega, ?_, ?_, rfl⟩⟩ ?_ ?_ ?_
        · first | omega | (simp -implicitDefEqProofs (disch := omega) only [go_sem]; done) | (simp -implicitDefEqProofs (disch := omega) only [go_sem]; omega)
        · first | omega | (simp -implicitDefEqProofs (disch := omega) only [go_sem]; done) | (simp -implicitDefEqProofs (disch := omega) only [go_sem]; omega)
        all_goals exact L_
      refine n_ ?_
      have hk0 : e.kids = [] := List.eq_nil_of_length_eq_zero (by omega)
      refine wpM_le [(2, .ptr (B + 1) 0), (3, .ptr (B + 2) 0)] [(B + 2, .cells 50 e.cs), (B + 1, .cells 50 [.int .i64 0, .int .i64 0, .int .i64 0, .int .i64 0, .emp])] (by simp -implicitDefEqProofs (disch := omega) only [go_sem, hk0]) (by simp -implicitDefEqProofs (disch := omega) only [go_sem, hk0]) T_ ?_
      refine g_ [2] ?_
      refine e_ Tryz.results66 ?_
      first
      | exact True.intro
      | rfl
    dsimp only at hy
    try refine S_ ?_
    refine g_ [1,2,3,4,16] ?_
    refine c_ (fun hc0 => ?_) fun hc0 => ?_
    ·
      have hks := Ex.kid_sz (e := e) (k := i0) (by omega)
      have htl : (e.kids.take i0).length = i0 := by simp; omega
      refine n_ ?_
      refine dr_ mixed [1,2,3,4] 2 3 [B + 2, B, y, M0, M0 + 1] [⟨[3],[],[],[],false⟩,⟨[19],[0],[],[],false⟩,⟨[1],[],[],[],false⟩,⟨[21],[1],[],[],false⟩,⟨[4],[],[],[],false⟩,⟨[22,23],[],[],[],false⟩,⟨[24],[],[],[],false⟩,⟨[25],[],[],[],true⟩,⟨[26],[],[],[3],false⟩,⟨[20,27],[2,3],[2],[4],false⟩,⟨[3],[],[],[],false⟩,⟨[28,29],[0],[0],[],false⟩] [0,1,2,3,4,5,6,7,8,9,10,11] [[],[0],[],[2],[],[2,3,4],[2,3,4,5],[2,3,4,5,6],[2,3,4,5,6,7],[0,1,2,3,4,5,6,7,8],[0,1,2,3,4,5,6,7,8,9],[0,1,2,3,4,5,6,7,8,9,10]] 5 (htbl := by simp; omega) (hnm := by simp) ?_
      intro O A K hO hA hK;simp only [atL_cons,atL_nil,Nat.reduceAdd,Nat.zero_add] at hO hA
      simp -implicitDefEqProofs (disch := omega) only [go_sem, htl, hO, hA]
      refine loud_p (ih (e.kids.getD i0 default) (by omega) (by omega)) Tryz.call66 rfl rfl (by first | rfl | (simp -implicitDefEqProofs (disch := omega) only [go_sem] <;> rfl)) rfl ?_
      simp -implicitDefEqProofs (disch := omega) only [go_sem, htl, hO, hA]
      refine hK _ (S_ ?_);clear hK K hO hA O A
      refine g_ [1,2,3,4] ?_
      have e1 : exc (e.kids.take i0) ++ [.int .i64 (e.kids.getD i0 default).kind, .int .i64 (e.kids.getD i0 default).n, .int .i64 (e.kids.getD i0 default).a.kind, .int .i64 (e.kids.getD i0 default).a.at', .rows 50 (Ex.csL (e.kids.getD i0 default).kids)] = exc (e.kids.take (i0 + 1)) := by
        rw [List.take_succ_eq_append_getElem (by omega), ← exc_app, Ex.cs_eq]
        have : e.kids.getD i0 default = e.kids[i0] := by simp [List.getD, show i0 < e.kids.length by omega]
        rw [this]
      rw [e1]
      refine .of' _ _ ⟨r - 1, by omega, .inr ⟨i0 + 1, _, M0 + 1, by omega, by omega, ?_, ?_, rfl⟩⟩ ?_ ?_ ?_
      · first | omega | (simp -implicitDefEqProofs (disch := omega) only [go_sem]; done) | (simp -implicitDefEqProofs (disch := omega) only [go_sem]; omega)
      · first | omega | (simp -implicitDefEqProofs (disch := omega) only [go_sem]; done) | (simp -implicitDefEqProofs (disch := omega) only [go_sem]; omega)
      all_goals exact L_
    refine n_ ?_
    have hie : i0 = e.kids.length := by omega
    have htl : e.kids.take i0 = e.kids := by rw [hie, List.take_of_length_le (Nat.le_refl _)]
    rw [htl]
    refine wpM_frz [y] [(50, y, 0, i0, Ex.csL e.kids)] (by intro q hq; simp at hq; subst hq; simp -implicitDefEqProofs (disch := omega) only [go_sem]) (by intro q hq; simp only [List.mem_cons, List.not_mem_nil, or_false] at hq; subst hq; rw [hie]; exact ⟨by simp, rowsOf_exc (T := 50) T_⟩) ?_
    simp -implicitDefEqProofs (disch := omega) only [go_sem]
    refine g_ [2] ?_
    refine e_ Tryz.results66 ?_
    first
    | exact True.intro
    | rfl
theorem l3Some_ok (id : Nat) (bs : List Nat) (q : Int) (hbs : Bs bs) (hq0 : 0 ≤ q) (hq : q + 153 ≤ 1000000000000) : RdF 109 [] id bs q 153 (fun v => ∃ e : Ex, e.sz ≤ 31 ∧ v = .agg e.cs) := by
  refine callF_of' Tryz.func109 rfl Tryz.ntmps109 (by simp) ?_
  intro f0 B ns Q hB hns hQ
  have hid : id < B := hB id (by simp [hasKey, lk])
  obtain rfl : ns = [] := List.eq_nil_of_length_eq_zero hns
  have b4 : eb 4 = 124 := rfl
  have b2 : eb 2 = 28 := rfl
  have s4 : es 4 = 31 := rfl
  have s2 : es 2 = 7 := rfl
  refine g_ [0,2] ?_
  refine n_ ?_
  refine wpM_regionK [0,2,3] rfl fun Q1 hQ1 => ?_
  refine S_ ?_
  refine call_fn (l := [(id, rdObj bs q)]) (first := []) (cap := []) (ps := [.ptr id 0, .int .i64 4]) (pick_ok id bs q 4 hbs (by omega) (by omega) (by omega)) Tryz.call58 rfl rfl rfl G_ T_ ?_
  rintro out ⟨k1, rfl, h1, h2, h3⟩
  refine S_ ?_
  refine call_fn (l := [(id, rdObj bs (q + 1))]) (first := []) (cap := []) (ps := [.ptr id 0, .int .i64 (1 + k1)]) (l3Expr_ok id bs hbs 4 (q + 1) (1 + k1) (by omega) (by omega) (by omega) (by omega)) Tryz.call77 rfl rfl rfl G_ T_ ?_
  rintro out ⟨_, q', ⟨e, hes, rfl⟩, hqa, hqb, rfl⟩
  refine S_ ?_
  refine hQ1 _ _ (S_ ?_);clear hQ1 Q1
  refine n_ ?_
  refine wpM_regionK [0,2,3,11] rfl fun Q1 hQ1 => ?_
  refine S_ ?_
  refine cp_ (exprOk_ok e (by omega)) Tryz.call72 ?_
  refine hQ1 _ _ (S_ ?_);clear hQ1 Q1
  refine c_ (fun hc0 => ?_) fun hc0 => ?_
  ·
    refine n_ ?_
    refine wpM_regionK [2] rfl fun Q1 hQ1 => ?_
    refine S_ ?_
    refine call_fn (l := [(id, rdObj bs q')]) (first := []) (cap := []) (ps := [.ptr id 0, .int .i64 2]) (l3Expr_ok id bs hbs 2 q' 2 (by omega) (by omega) (by omega) (by omega)) Tryz.call77 rfl rfl rfl G_ T_ ?_
    rintro out ⟨_, q2, ⟨e2, hes2, rfl⟩, hqc, hqd, rfl⟩
    refine S_ ?_
    refine hQ1 _ _ (S_ ?_);clear hQ1 Q1
    refine wpM_ret ?_
    try refine S_ ?_
    first
    | refine hQ _ _ (ret0 [(id, some (rdObj bs q2))] rfl rfl rfl (by rw [Tryz.results109] <;> simp (maxSteps := 1000000) -implicitDefEqProofs (disch := omega) only [go_sem] <;> rfl) ⟨_, q2, ⟨e2, by omega, rfl⟩, by omega, by omega, rfl⟩ ?_ ?_ ?_ ?_) <;> (simp -implicitDefEqProofs (disch := omega) only [go_sem, rdObj, true_or, or_true]; done)
    | refine hQ _ _ (ret0 [(id, some (rdObj bs q'))] rfl rfl rfl (by rw [Tryz.results109] <;> simp (maxSteps := 1000000) -implicitDefEqProofs (disch := omega) only [go_sem] <;> rfl) ⟨_, q', ⟨e, by omega, rfl⟩, by omega, by omega, rfl⟩ ?_ ?_ ?_ ?_) <;> (simp -implicitDefEqProofs (disch := omega) only [go_sem, rdObj, true_or, or_true]; done)
  refine g_ [2] ?_
  refine wpM_ret ?_
  try refine S_ ?_
  first
  | refine hQ _ _ (ret0 [(id, some (rdObj bs q2))] rfl rfl rfl (by rw [Tryz.results109] <;> simp (maxSteps := 1000000) -implicitDefEqProofs (disch := omega) only [go_sem] <;> rfl) ⟨_, q2, ⟨e2, by omega, rfl⟩, by omega, by omega, rfl⟩ ?_ ?_ ?_ ?_) <;> (simp -implicitDefEqProofs (disch := omega) only [go_sem, rdObj, true_or, or_true]; done)
  | refine hQ _ _ (ret0 [(id, some (rdObj bs q'))] rfl rfl rfl (by rw [Tryz.results109] <;> simp (maxSteps := 1000000) -implicitDefEqProofs (disch := omega) only [go_sem] <;> rfl) ⟨_, q', ⟨e, by omega, rfl⟩, by omega, by omega, rfl⟩ ?_ ?_ ?_ ?_) <;> (simp -implicitDefEqProofs (disch := omega) only [go_sem, rdObj, true_or, or_true]; done)
theorem l3Bent_ok (id : Nat) (bs : List Nat) (q : Int) (hbs : Bs bs) (hq0 : 0 ≤ q) (hq : q + 158 ≤ 1000000000000) : RdF 76 [] id bs q 158 (fun v => ∃ e : Ex, e.sz ≤ 1000 ∧ v = .agg e.cs) := by
  refine callF_of' Tryz.func76 rfl Tryz.ntmps76 (by simp) ?_
  intro f0 B ns Q hB hns hQ
  have hid : id < B := hB id (by simp [hasKey, lk])
  obtain rfl : ns = [] := List.eq_nil_of_length_eq_zero hns
  refine g_ [0,2] ?_
  refine n_ ?_
  refine wpM_regionK [0,2,3] rfl fun Q1 hQ1 => ?_
  refine S_ ?_
  refine call_fn (l := [(id, rdObj bs q)]) (first := []) (cap := []) (ps := [.ptr id 0]) (l3Some_ok id bs q hbs (by omega) (by omega)) Tryz.call109 rfl rfl rfl G_ T_ ?_
  rintro out ⟨_, q', ⟨e, hes, rfl⟩, hqa, hqb, rfl⟩
  refine S_ ?_
  refine hQ1 _ _ (S_ ?_);clear hQ1 Q1
  refine n_ ?_
  refine wpM_regionK [0,2,3,9] rfl fun Q1 hQ1 => ?_
  refine S_ ?_
  refine call_fn (l := [(id, rdObj bs q')]) (first := []) (cap := []) (ps := [.ptr id 0, .int .i64 60]) (pick_ok id bs q' 60 hbs (by omega) (by omega) (by omega)) Tryz.call58 rfl rfl rfl G_ T_ ?_
  rintro out ⟨k1, rfl, h1, h2, h3⟩
  refine S_ ?_
  refine hQ1 _ _ (S_ ?_);clear hQ1 Q1
  refine g_ [0,2,3,9,10] ?_
  refine c_ (fun hc0 => ?_) fun hc0 => ?_
  ·
    refine wpM_regionK [2,3] rfl fun Q1 hQ1 => ?_
    refine S_ ?_
    refine call_fn (l := [(id, rdObj bs (q' + 1)), (B + 2, .cells 3 (ints [0, 11, 3, 10]))]) (first := []) (cap := []) (ps := [.ptr id 0, .sl 3 (B + 2) 0 4]) (num_ok id (B + 2) bs (q' + 1) [0, 11, 3, 10] 4 rfl (by omega) (by omega) (by omega) hbs (by omega) (by omega)) Tryz.call41 rfl rfl rfl G_ (by simp -implicitDefEqProofs (disch := omega) only [go_sem, ints, List.map_cons, List.map_nil]) ?_
    rintro out ⟨k2, rfl, h4⟩
    refine S_ ?_
    refine hQ1 _ _ (S_ ?_);clear hQ1 Q1
    refine g_ [2] ?_
    refine wpM_ret ?_
    try refine S_ ?_
    first
    | refine hQ _ _ (ret0 [(id, some (rdObj bs (q' + 1 + 1)))] rfl rfl rfl (by rw [Tryz.results76] <;> simp (maxSteps := 1000000) -implicitDefEqProofs (disch := omega) only [go_sem] <;> rfl) ⟨_, q' + 1 + 1, ⟨Ex.mk k2 e.n e.a e.kids, by rw [Ex.sz_eq] at hes; simp only [Ex.sz]; omega, by first | rfl | (rw [Ex.cs_eq]; done)⟩, by omega, by omega, rfl⟩ ?_ ?_ ?_ ?_) <;> (simp -implicitDefEqProofs (disch := omega) only [go_sem, rdObj, true_or, or_true]; done)
    | refine hQ _ _ (ret0 [(id, some (rdObj bs (q' + 1 + 1)))] rfl rfl rfl (by rw [Tryz.results76] <;> simp (maxSteps := 1000000) -implicitDefEqProofs (disch := omega) only [go_sem] <;> rfl) ⟨_, q' + 1 + 1, ⟨Ex.mk e.kind k3 e.a e.kids, by rw [Ex.sz_eq] at hes; simp only [Ex.sz]; omega, by first | rfl | (rw [Ex.cs_eq]; done)⟩, by omega, by omega, rfl⟩ ?_ ?_ ?_ ?_) <;> (simp -implicitDefEqProofs (disch := omega) only [go_sem, rdObj, true_or, or_true]; done)
    | refine hQ _ _ (ret0 [(id, some (rdObj bs (q2)))] rfl rfl rfl (by rw [Tryz.results76] <;> simp (maxSteps := 1000000) -implicitDefEqProofs (disch := omega) only [go_sem] <;> rfl) ⟨_, q2, ⟨Ex.mk e.kind e.n a e.kids, by rw [Ex.sz_eq] at hes; simp only [Ex.sz]; omega, by first | rfl | (rw [Ex.cs_eq]; done)⟩, by omega, by omega, rfl⟩ ?_ ?_ ?_ ?_) <;> (simp -implicitDefEqProofs (disch := omega) only [go_sem, rdObj, true_or, or_true]; done)
    | refine hQ _ _ (ret0 [(id, some (rdObj bs (q' + 1)))] rfl rfl rfl (by rw [Tryz.results76] <;> simp (maxSteps := 1000000) -implicitDefEqProofs (disch := omega) only [go_sem] <;> rfl) ⟨_, q' + 1, ⟨e0, by omega, by first | rfl | (rw [Ex.cs_eq]; done)⟩, by omega, by omega, rfl⟩ ?_ ?_ ?_ ?_) <;> (simp -implicitDefEqProofs (disch := omega) only [go_sem, rdObj, true_or, or_true]; done)
    | refine hQ _ _ (ret0 [(id, some (rdObj bs (q' + 1)))] rfl rfl rfl (by rw [Tryz.results76] <;> simp (maxSteps := 1000000) -implicitDefEqProofs (disch := omega) only [go_sem] <;> rfl) ⟨_, q' + 1, ⟨e0, by (have h4 : i1 = 4 := by omega); subst h4; omega, by first | rfl | (rw [Ex.cs_eq]; done)⟩, by omega, by omega, rfl⟩ ?_ ?_ ?_ ?_) <;> (simp -implicitDefEqProofs (disch := omega) only [go_sem, rdObj, true_or, or_true]; done)
    | refine hQ _ _ (ret0 [(id, some (rdObj bs (q' + 1)))] rfl rfl rfl (by rw [Tryz.results76] <;> simp (maxSteps := 1000000) -implicitDefEqProofs (disch := omega) only [go_sem] <;> rfl) ⟨_, q' + 1, ⟨e, by omega, by first | rfl | (rw [Ex.cs_eq]; done)⟩, by omega, by omega, rfl⟩ ?_ ?_ ?_ ?_) <;> (simp -implicitDefEqProofs (disch := omega) only [go_sem, rdObj, true_or, or_true]; done)
  refine g_ [0,2,3,9,16] ?_
  refine c_ (fun hc1 => ?_) fun hc1 => ?_
  ·
    refine wpM_regionK [2,3] rfl fun Q1 hQ1 => ?_
    refine S_ ?_
    refine call_fn (l := [(id, rdObj bs (q' + 1)), (B + 2, .cells 3 (ints [1, 1000001]))]) (first := []) (cap := []) (ps := [.ptr id 0, .sl 3 (B + 2) 0 2]) (num_ok id (B + 2) bs (q' + 1) [1, 1000001] 2 rfl (by omega) (by omega) (by omega) hbs (by omega) (by omega)) Tryz.call41 rfl rfl rfl G_ (by simp -implicitDefEqProofs (disch := omega) only [go_sem, ints, List.map_cons, List.map_nil]) ?_
    rintro out ⟨k3, rfl, h4⟩
    refine S_ ?_
    refine hQ1 _ _ (S_ ?_);clear hQ1 Q1
    refine g_ [2] ?_
    refine wpM_ret ?_
    try refine S_ ?_
    first
    | refine hQ _ _ (ret0 [(id, some (rdObj bs (q' + 1 + 1)))] rfl rfl rfl (by rw [Tryz.results76] <;> simp (maxSteps := 1000000) -implicitDefEqProofs (disch := omega) only [go_sem] <;> rfl) ⟨_, q' + 1 + 1, ⟨Ex.mk k2 e.n e.a e.kids, by rw [Ex.sz_eq] at hes; simp only [Ex.sz]; omega, by first | rfl | (rw [Ex.cs_eq]; done)⟩, by omega, by omega, rfl⟩ ?_ ?_ ?_ ?_) <;> (simp -implicitDefEqProofs (disch := omega) only [go_sem, rdObj, true_or, or_true]; done)
    | refine hQ _ _ (ret0 [(id, some (rdObj bs (q' + 1 + 1)))] rfl rfl rfl (by rw [Tryz.results76] <;> simp (maxSteps := 1000000) -implicitDefEqProofs (disch := omega) only [go_sem] <;> rfl) ⟨_, q' + 1 + 1, ⟨Ex.mk e.kind k3 e.a e.kids, by rw [Ex.sz_eq] at hes; simp only [Ex.sz]; omega, by first | rfl | (rw [Ex.cs_eq]; done)⟩, by omega, by omega, rfl⟩ ?_ ?_ ?_ ?_) <;> (simp -implicitDefEqProofs (disch := omega) only [go_sem, rdObj, true_or, or_true]; done)
    | refine hQ _ _ (ret0 [(id, some (rdObj bs (q2)))] rfl rfl rfl (by rw [Tryz.results76] <;> simp (maxSteps := 1000000) -implicitDefEqProofs (disch := omega) only [go_sem] <;> rfl) ⟨_, q2, ⟨Ex.mk e.kind e.n a e.kids, by rw [Ex.sz_eq] at hes; simp only [Ex.sz]; omega, by first | rfl | (rw [Ex.cs_eq]; done)⟩, by omega, by omega, rfl⟩ ?_ ?_ ?_ ?_) <;> (simp -implicitDefEqProofs (disch := omega) only [go_sem, rdObj, true_or, or_true]; done)
    | refine hQ _ _ (ret0 [(id, some (rdObj bs (q' + 1)))] rfl rfl rfl (by rw [Tryz.results76] <;> simp (maxSteps := 1000000) -implicitDefEqProofs (disch := omega) only [go_sem] <;> rfl) ⟨_, q' + 1, ⟨e0, by omega, by first | rfl | (rw [Ex.cs_eq]; done)⟩, by omega, by omega, rfl⟩ ?_ ?_ ?_ ?_) <;> (simp -implicitDefEqProofs (disch := omega) only [go_sem, rdObj, true_or, or_true]; done)
    | refine hQ _ _ (ret0 [(id, some (rdObj bs (q' + 1)))] rfl rfl rfl (by rw [Tryz.results76] <;> simp (maxSteps := 1000000) -implicitDefEqProofs (disch := omega) only [go_sem] <;> rfl) ⟨_, q' + 1, ⟨e0, by (have h4 : i1 = 4 := by omega); subst h4; omega, by first | rfl | (rw [Ex.cs_eq]; done)⟩, by omega, by omega, rfl⟩ ?_ ?_ ?_ ?_) <;> (simp -implicitDefEqProofs (disch := omega) only [go_sem, rdObj, true_or, or_true]; done)
    | refine hQ _ _ (ret0 [(id, some (rdObj bs (q' + 1)))] rfl rfl rfl (by rw [Tryz.results76] <;> simp (maxSteps := 1000000) -implicitDefEqProofs (disch := omega) only [go_sem] <;> rfl) ⟨_, q' + 1, ⟨e, by omega, by first | rfl | (rw [Ex.cs_eq]; done)⟩, by omega, by omega, rfl⟩ ?_ ?_ ?_ ?_) <;> (simp -implicitDefEqProofs (disch := omega) only [go_sem, rdObj, true_or, or_true]; done)
  refine g_ [0,2,3,9,22] ?_
  refine c_ (fun hc2 => ?_) fun hc2 => ?_
  ·
    refine wpM_regionK [2,3] rfl fun Q1 hQ1 => ?_
    refine S_ ?_
    refine call_fn (l := [(id, rdObj bs (q' + 1))]) (first := []) (cap := []) (ps := [.ptr id 0]) (l2AddrBent_ok id bs (q' + 1) hbs (by omega) (by omega)) Tryz.call75 rfl rfl rfl G_ T_ ?_
    rintro out ⟨_, q2, ⟨a, rfl⟩, hqc, hqd, rfl⟩
    refine S_ ?_
    refine hQ1 _ _ (S_ ?_);clear hQ1 Q1
    refine g_ [2] ?_
    refine wpM_ret ?_
    try refine S_ ?_
    first
    | refine hQ _ _ (ret0 [(id, some (rdObj bs (q' + 1 + 1)))] rfl rfl rfl (by rw [Tryz.results76] <;> simp (maxSteps := 1000000) -implicitDefEqProofs (disch := omega) only [go_sem] <;> rfl) ⟨_, q' + 1 + 1, ⟨Ex.mk k2 e.n e.a e.kids, by rw [Ex.sz_eq] at hes; simp only [Ex.sz]; omega, by first | rfl | (rw [Ex.cs_eq]; done)⟩, by omega, by omega, rfl⟩ ?_ ?_ ?_ ?_) <;> (simp -implicitDefEqProofs (disch := omega) only [go_sem, rdObj, true_or, or_true]; done)
    | refine hQ _ _ (ret0 [(id, some (rdObj bs (q' + 1 + 1)))] rfl rfl rfl (by rw [Tryz.results76] <;> simp (maxSteps := 1000000) -implicitDefEqProofs (disch := omega) only [go_sem] <;> rfl) ⟨_, q' + 1 + 1, ⟨Ex.mk e.kind k3 e.a e.kids, by rw [Ex.sz_eq] at hes; simp only [Ex.sz]; omega, by first | rfl | (rw [Ex.cs_eq]; done)⟩, by omega, by omega, rfl⟩ ?_ ?_ ?_ ?_) <;> (simp -implicitDefEqProofs (disch := omega) only [go_sem, rdObj, true_or, or_true]; done)
    | refine hQ _ _ (ret0 [(id, some (rdObj bs (q2)))] rfl rfl rfl (by rw [Tryz.results76] <;> simp (maxSteps := 1000000) -implicitDefEqProofs (disch := omega) only [go_sem] <;> rfl) ⟨_, q2, ⟨Ex.mk e.kind e.n a e.kids, by rw [Ex.sz_eq] at hes; simp only [Ex.sz]; omega, by first | rfl | (rw [Ex.cs_eq]; done)⟩, by omega, by omega, rfl⟩ ?_ ?_ ?_ ?_) <;> (simp -implicitDefEqProofs (disch := omega) only [go_sem, rdObj, true_or, or_true]; done)
    | refine hQ _ _ (ret0 [(id, some (rdObj bs (q' + 1)))] rfl rfl rfl (by rw [Tryz.results76] <;> simp (maxSteps := 1000000) -implicitDefEqProofs (disch := omega) only [go_sem] <;> rfl) ⟨_, q' + 1, ⟨e0, by omega, by first | rfl | (rw [Ex.cs_eq]; done)⟩, by omega, by omega, rfl⟩ ?_ ?_ ?_ ?_) <;> (simp -implicitDefEqProofs (disch := omega) only [go_sem, rdObj, true_or, or_true]; done)
    | refine hQ _ _ (ret0 [(id, some (rdObj bs (q' + 1)))] rfl rfl rfl (by rw [Tryz.results76] <;> simp (maxSteps := 1000000) -implicitDefEqProofs (disch := omega) only [go_sem] <;> rfl) ⟨_, q' + 1, ⟨e0, by (have h4 : i1 = 4 := by omega); subst h4; omega, by first | rfl | (rw [Ex.cs_eq]; done)⟩, by omega, by omega, rfl⟩ ?_ ?_ ?_ ?_) <;> (simp -implicitDefEqProofs (disch := omega) only [go_sem, rdObj, true_or, or_true]; done)
    | refine hQ _ _ (ret0 [(id, some (rdObj bs (q' + 1)))] rfl rfl rfl (by rw [Tryz.results76] <;> simp (maxSteps := 1000000) -implicitDefEqProofs (disch := omega) only [go_sem] <;> rfl) ⟨_, q' + 1, ⟨e, by omega, by first | rfl | (rw [Ex.cs_eq]; done)⟩, by omega, by omega, rfl⟩ ?_ ?_ ?_ ?_) <;> (simp -implicitDefEqProofs (disch := omega) only [go_sem, rdObj, true_or, or_true]; done)
  refine g_ [2,3,9,27] ?_
  refine c_ (fun hc3 => ?_) fun hc3 => ?_
  ·
    refine g_ [2,3,4] ?_
    refine n_ ?_
    refine wpM_loopS (fun s n s' => ∃ (i0 M0 : Nat) (e0 : Ex), i0 + n = 6 ∧ s.M ≤ M0 ∧ (e0.sz ≤ 31 + i0) ∧ s' = { s with env := setE 4 (.int .i64 (i0 : Nat)) s.env, l := setl (B + 1) (.cells 50 e0.cs) s.l, M := M0 }) (6) ?_ ?_
    ·
      refine .of' _ _ ⟨0, _, e, by omega, Nat.le_refl _, by omega, rfl⟩ ?_ ?_ ?_ <;> exact L_
    rintro n0 s' ⟨i0, M0, e0, hi0, hM0, hv0, rfl⟩
    try dsimp only at hM0
    try refine S_ ?_
    refine g_ [2,3,4,30] ?_
    refine c_ (fun hc4 => ?_) fun hc4 => ?_
    ·
      have hl0 : i0 < 6 := by omega
      refine g_ [2,3,4] ?_
      refine wpM_frz [M0] [(50, M0, 0, 1, Ex.csL [e0])] (by intro q hq; simp at hq; subst hq; simp -implicitDefEqProofs (disch := omega) only [go_sem]) (by intro q hq; simp only [List.mem_cons, List.not_mem_nil, or_false] at hq; subst hq; exact ⟨by simp, rowsOf_exc (T := 50) (l := [e0]) (by rw [← exc_one, Ex.cs_eq]; simp -implicitDefEqProofs (disch := omega) only [go_sem])⟩) ?_
      simp -implicitDefEqProofs (disch := omega) only [go_sem, rdObj]
      refine g_ [2,3,4] ?_
      refine .of' _ _ ⟨n0 - 1, by omega, i0 + 1, _, Ex.mk 10 0 ⟨0, 0⟩ [e0], by omega, M_, ?_, rfl⟩ L_ L_ L_
      simp only [Ex.sz, Ex.szL]; omega
    refine g_ [2] ?_
    refine wpM_ret ?_
    try refine S_ ?_
    first
    | refine hQ _ _ (ret0 [(id, some (rdObj bs (q' + 1 + 1)))] rfl rfl rfl (by rw [Tryz.results76] <;> simp (maxSteps := 1000000) -implicitDefEqProofs (disch := omega) only [go_sem] <;> rfl) ⟨_, q' + 1 + 1, ⟨Ex.mk k2 e.n e.a e.kids, by rw [Ex.sz_eq] at hes; simp only [Ex.sz]; omega, by first | rfl | (rw [Ex.cs_eq]; done)⟩, by omega, by omega, rfl⟩ ?_ ?_ ?_ ?_) <;> (simp -implicitDefEqProofs (disch := omega) only [go_sem, rdObj, true_or, or_true]; done)
    | refine hQ _ _ (ret0 [(id, some (rdObj bs (q' + 1 + 1)))] rfl rfl rfl (by rw [Tryz.results76] <;> simp (maxSteps := 1000000) -implicitDefEqProofs (disch := omega) only [go_sem] <;> rfl) ⟨_, q' + 1 + 1, ⟨Ex.mk e.kind k3 e.a e.kids, by rw [Ex.sz_eq] at hes; simp only [Ex.sz]; omega, by first | rfl | (rw [Ex.cs_eq]; done)⟩, by omega, by omega, rfl⟩ ?_ ?_ ?_ ?_) <;> (simp -implicitDefEqProofs (disch := omega) only [go_sem, rdObj, true_or, or_true]; done)
    | refine hQ _ _ (ret0 [(id, some (rdObj bs (q2)))] rfl rfl rfl (by rw [Tryz.results76] <;> simp (maxSteps := 1000000) -implicitDefEqProofs (disch := omega) only [go_sem] <;> rfl) ⟨_, q2, ⟨Ex.mk e.kind e.n a e.kids, by rw [Ex.sz_eq] at hes; simp only [Ex.sz]; omega, by first | rfl | (rw [Ex.cs_eq]; done)⟩, by omega, by omega, rfl⟩ ?_ ?_ ?_ ?_) <;> (simp -implicitDefEqProofs (disch := omega) only [go_sem, rdObj, true_or, or_true]; done)
    | refine hQ _ _ (ret0 [(id, some (rdObj bs (q' + 1)))] rfl rfl rfl (by rw [Tryz.results76] <;> simp (maxSteps := 1000000) -implicitDefEqProofs (disch := omega) only [go_sem] <;> rfl) ⟨_, q' + 1, ⟨e0, by omega, by first | rfl | (rw [Ex.cs_eq]; done)⟩, by omega, by omega, rfl⟩ ?_ ?_ ?_ ?_) <;> (simp -implicitDefEqProofs (disch := omega) only [go_sem, rdObj, true_or, or_true]; done)
    | refine hQ _ _ (ret0 [(id, some (rdObj bs (q' + 1)))] rfl rfl rfl (by rw [Tryz.results76] <;> simp (maxSteps := 1000000) -implicitDefEqProofs (disch := omega) only [go_sem] <;> rfl) ⟨_, q' + 1, ⟨e0, by (have h4 : i1 = 4 := by omega); subst h4; omega, by first | rfl | (rw [Ex.cs_eq]; done)⟩, by omega, by omega, rfl⟩ ?_ ?_ ?_ ?_) <;> (simp -implicitDefEqProofs (disch := omega) only [go_sem, rdObj, true_or, or_true]; done)
    | refine hQ _ _ (ret0 [(id, some (rdObj bs (q' + 1)))] rfl rfl rfl (by rw [Tryz.results76] <;> simp (maxSteps := 1000000) -implicitDefEqProofs (disch := omega) only [go_sem] <;> rfl) ⟨_, q' + 1, ⟨e, by omega, by first | rfl | (rw [Ex.cs_eq]; done)⟩, by omega, by omega, rfl⟩ ?_ ?_ ?_ ?_) <;> (simp -implicitDefEqProofs (disch := omega) only [go_sem, rdObj, true_or, or_true]; done)
  refine g_ [2,3,36] ?_
  refine c_ (fun hc5 => ?_) fun hc5 => ?_
  ·
    refine g_ [2,3,5] ?_
    refine n_ ?_
    refine wpM_loopS (fun s n s' => ∃ (i1 M1 : Nat) (e0 : Ex), i1 + n = 4 ∧ s.M ≤ M1 ∧ (e0.sz + 1 ≤ 32 * 2 ^ i1) ∧ s' = { s with env := setE 5 (.int .i64 (i1 : Nat)) s.env, l := setl (B + 1) (.cells 50 e0.cs) s.l, M := M1 }) (4) ?_ ?_
    ·
      refine .of' _ _ ⟨0, _, e, by omega, Nat.le_refl _, by simp; omega, rfl⟩ ?_ ?_ ?_ <;> exact L_
    rintro n1 s' ⟨i1, M1, e0, hi1, hM1, hv1, rfl⟩
    try dsimp only at hM1
    try refine S_ ?_
    refine g_ [2,3,5,39] ?_
    refine c_ (fun hc6 => ?_) fun hc6 => ?_
    ·
      have hl1 : i1 < 4 := by omega
      have hp2 : 2 ^ i1 ≤ 8 := by
        have : i1 = 0 ∨ i1 = 1 ∨ i1 = 2 ∨ i1 = 3 := by omega
        rcases this with rfl | rfl | rfl | rfl <;> simp
      have hsz : e0.sz ≤ 1000 := by omega
      refine n_ ?_
      refine dr_ mixed [2,3,5] 1 1 [B + 1, M1] [⟨[3],[0],[],[],false⟩,⟨[3],[0],[],[],false⟩,⟨[43],[],[],[],true⟩,⟨[42,44],[],[],[1],false⟩,⟨[45],[],[],[],false⟩,⟨[3,46],[0],[0],[],false⟩] [0,1,2,3,4,5] [[],[],[1],[0,1,2],[0,1,2,3],[0,1,2,3,4]] 2 (htbl := by simp; omega) (hnm := by simp) ?_
      intro O A K hO hA hK;simp only [atL_cons,atL_nil,Nat.reduceAdd,Nat.zero_add] at hO hA
      refine SO_ ?_
      refine lp_ (l3Copy_ok e0.sz e0 (Nat.le_refl _) (by omega)) Tryz.call66 ?_
      refine hK _ (S_ ?_);clear hK K hO hA O A
      refine wpM_frz [M1] [(50, M1, 0, 2, Ex.csL [e0, e0])] (by intro q hq; simp at hq; subst hq; simp -implicitDefEqProofs (disch := omega) only [go_sem]) (by intro q hq; simp only [List.mem_cons, List.not_mem_nil, or_false] at hq; subst hq; exact ⟨by simp, rowsOf_exc (T := 50) (l := [e0, e0]) (by rw [show [e0, e0] = [e0] ++ [e0] from rfl, ← exc_app, ← exc_one, Ex.cs_eq]; simp -implicitDefEqProofs (disch := omega) only [go_sem])⟩) ?_
      simp -implicitDefEqProofs (disch := omega) only [go_sem, rdObj]
      refine g_ [2,3,5] ?_
      refine .of' _ _ ⟨n1 - 1, by omega, i1 + 1, _, Ex.mk 3 0 ⟨0, 0⟩ [e0, e0], by omega, M_, ?_, rfl⟩ L_ L_ L_
      simp only [Ex.sz, Ex.szL, Nat.pow_succ]; omega
    refine g_ [2] ?_
    refine wpM_ret ?_
    try refine S_ ?_
    first
    | refine hQ _ _ (ret0 [(id, some (rdObj bs (q' + 1 + 1)))] rfl rfl rfl (by rw [Tryz.results76] <;> simp (maxSteps := 1000000) -implicitDefEqProofs (disch := omega) only [go_sem] <;> rfl) ⟨_, q' + 1 + 1, ⟨Ex.mk k2 e.n e.a e.kids, by rw [Ex.sz_eq] at hes; simp only [Ex.sz]; omega, by first | rfl | (rw [Ex.cs_eq]; done)⟩, by omega, by omega, rfl⟩ ?_ ?_ ?_ ?_) <;> (simp -implicitDefEqProofs (disch := omega) only [go_sem, rdObj, true_or, or_true]; done)
    | refine hQ _ _ (ret0 [(id, some (rdObj bs (q' + 1 + 1)))] rfl rfl rfl (by rw [Tryz.results76] <;> simp (maxSteps := 1000000) -implicitDefEqProofs (disch := omega) only [go_sem] <;> rfl) ⟨_, q' + 1 + 1, ⟨Ex.mk e.kind k3 e.a e.kids, by rw [Ex.sz_eq] at hes; simp only [Ex.sz]; omega, by first | rfl | (rw [Ex.cs_eq]; done)⟩, by omega, by omega, rfl⟩ ?_ ?_ ?_ ?_) <;> (simp -implicitDefEqProofs (disch := omega) only [go_sem, rdObj, true_or, or_true]; done)
    | refine hQ _ _ (ret0 [(id, some (rdObj bs (q2)))] rfl rfl rfl (by rw [Tryz.results76] <;> simp (maxSteps := 1000000) -implicitDefEqProofs (disch := omega) only [go_sem] <;> rfl) ⟨_, q2, ⟨Ex.mk e.kind e.n a e.kids, by rw [Ex.sz_eq] at hes; simp only [Ex.sz]; omega, by first | rfl | (rw [Ex.cs_eq]; done)⟩, by omega, by omega, rfl⟩ ?_ ?_ ?_ ?_) <;> (simp -implicitDefEqProofs (disch := omega) only [go_sem, rdObj, true_or, or_true]; done)
    | refine hQ _ _ (ret0 [(id, some (rdObj bs (q' + 1)))] rfl rfl rfl (by rw [Tryz.results76] <;> simp (maxSteps := 1000000) -implicitDefEqProofs (disch := omega) only [go_sem] <;> rfl) ⟨_, q' + 1, ⟨e0, by omega, by first | rfl | (rw [Ex.cs_eq]; done)⟩, by omega, by omega, rfl⟩ ?_ ?_ ?_ ?_) <;> (simp -implicitDefEqProofs (disch := omega) only [go_sem, rdObj, true_or, or_true]; done)
    | refine hQ _ _ (ret0 [(id, some (rdObj bs (q' + 1)))] rfl rfl rfl (by rw [Tryz.results76] <;> simp (maxSteps := 1000000) -implicitDefEqProofs (disch := omega) only [go_sem] <;> rfl) ⟨_, q' + 1, ⟨e0, by (have h4 : i1 = 4 := by omega); subst h4; omega, by first | rfl | (rw [Ex.cs_eq]; done)⟩, by omega, by omega, rfl⟩ ?_ ?_ ?_ ?_) <;> (simp -implicitDefEqProofs (disch := omega) only [go_sem, rdObj, true_or, or_true]; done)
    | refine hQ _ _ (ret0 [(id, some (rdObj bs (q' + 1)))] rfl rfl rfl (by rw [Tryz.results76] <;> simp (maxSteps := 1000000) -implicitDefEqProofs (disch := omega) only [go_sem] <;> rfl) ⟨_, q' + 1, ⟨e, by omega, by first | rfl | (rw [Ex.cs_eq]; done)⟩, by omega, by omega, rfl⟩ ?_ ?_ ?_ ?_) <;> (simp -implicitDefEqProofs (disch := omega) only [go_sem, rdObj, true_or, or_true]; done)
  refine g_ [2] ?_
  refine wpM_ret ?_
  try refine S_ ?_
  first
  | refine hQ _ _ (ret0 [(id, some (rdObj bs (q' + 1 + 1)))] rfl rfl rfl (by rw [Tryz.results76] <;> simp (maxSteps := 1000000) -implicitDefEqProofs (disch := omega) only [go_sem] <;> rfl) ⟨_, q' + 1 + 1, ⟨Ex.mk k2 e.n e.a e.kids, by rw [Ex.sz_eq] at hes; simp only [Ex.sz]; omega, by first | rfl | (rw [Ex.cs_eq]; done)⟩, by omega, by omega, rfl⟩ ?_ ?_ ?_ ?_) <;> (simp -implicitDefEqProofs (disch := omega) only [go_sem, rdObj, true_or, or_true]; done)
  | refine hQ _ _ (ret0 [(id, some (rdObj bs (q' + 1 + 1)))] rfl rfl rfl (by rw [Tryz.results76] <;> simp (maxSteps := 1000000) -implicitDefEqProofs (disch := omega) only [go_sem] <;> rfl) ⟨_, q' + 1 + 1, ⟨Ex.mk e.kind k3 e.a e.kids, by rw [Ex.sz_eq] at hes; simp only [Ex.sz]; omega, by first | rfl | (rw [Ex.cs_eq]; done)⟩, by omega, by omega, rfl⟩ ?_ ?_ ?_ ?_) <;> (simp -implicitDefEqProofs (disch := omega) only [go_sem, rdObj, true_or, or_true]; done)
  | refine hQ _ _ (ret0 [(id, some (rdObj bs (q2)))] rfl rfl rfl (by rw [Tryz.results76] <;> simp (maxSteps := 1000000) -implicitDefEqProofs (disch := omega) only [go_sem] <;> rfl) ⟨_, q2, ⟨Ex.mk e.kind e.n a e.kids, by rw [Ex.sz_eq] at hes; simp only [Ex.sz]; omega, by first | rfl | (rw [Ex.cs_eq]; done)⟩, by omega, by omega, rfl⟩ ?_ ?_ ?_ ?_) <;> (simp -implicitDefEqProofs (disch := omega) only [go_sem, rdObj, true_or, or_true]; done)
  | refine hQ _ _ (ret0 [(id, some (rdObj bs (q' + 1)))] rfl rfl rfl (by rw [Tryz.results76] <;> simp (maxSteps := 1000000) -implicitDefEqProofs (disch := omega) only [go_sem] <;> rfl) ⟨_, q' + 1, ⟨e0, by omega, by first | rfl | (rw [Ex.cs_eq]; done)⟩, by omega, by omega, rfl⟩ ?_ ?_ ?_ ?_) <;> (simp -implicitDefEqProofs (disch := omega) only [go_sem, rdObj, true_or, or_true]; done)
  | refine hQ _ _ (ret0 [(id, some (rdObj bs (q' + 1)))] rfl rfl rfl (by rw [Tryz.results76] <;> simp (maxSteps := 1000000) -implicitDefEqProofs (disch := omega) only [go_sem] <;> rfl) ⟨_, q' + 1, ⟨e0, by (have h4 : i1 = 4 := by omega); subst h4; omega, by first | rfl | (rw [Ex.cs_eq]; done)⟩, by omega, by omega, rfl⟩ ?_ ?_ ?_ ?_) <;> (simp -implicitDefEqProofs (disch := omega) only [go_sem, rdObj, true_or, or_true]; done)
  | refine hQ _ _ (ret0 [(id, some (rdObj bs (q' + 1)))] rfl rfl rfl (by rw [Tryz.results76] <;> simp (maxSteps := 1000000) -implicitDefEqProofs (disch := omega) only [go_sem] <;> rfl) ⟨_, q' + 1, ⟨e, by omega, by first | rfl | (rw [Ex.cs_eq]; done)⟩, by omega, by omega, rfl⟩ ?_ ?_ ?_ ?_) <;> (simp -implicitDefEqProofs (disch := omega) only [go_sem, rdObj, true_or, or_true]; done)
end Go.Proofs.YtmicbfojofcigaaGreatDoor
namespace Go.Proofs.YtmicbfojofcigaaGreatDoor
open Go Sg
set_option linter.unusedSectionVars false
variable [Glob]
set_option maxRecDepth 100000
set_option linter.unusedSimpArgs false
set_option linter.unusedVariables false
set_option maxHeartbeats 4000000
def smc (l : List Sm) : List PV := (Sm.csL l).flatten
@[go_sem] theorem smc_len (l : List Sm) : (smc l).length = l.length * 10 := by
  induction l with
  | nil => rfl
  | cons e l ih => simp only [smc, Sm.csL, List.flatten_cons, List.length_append, Sm.cs_eq, List.length_cons, List.length_nil] at ih ⊢; omega
theorem smc_app (l : List Sm) (e : Sm) : smc l ++ e.cs = smc (l ++ [e]) := by
  simp [smc, Sm.csL_map]
theorem smc_one (e : Sm) : e.cs = smc [e] := by simp [smc, Sm.csL]
theorem smcs_idsL (p : Nat → Prop) (e : Sm) : PV.idsL p e.cs = True := by rw [Sm.cs_eq]; simp [PV.idsL, PV.ids]
@[go_sem] theorem smc_ids (p : Nat → Prop) (l : List Sm) : PV.idsL p (smc l) = True := by
  induction l with
  | nil => simp [smc, Sm.csL, PV.idsL]
  | cons e l ih => simp only [smc, Sm.csL, List.flatten_cons] at ih ⊢; rw [idsL_app, ih, smcs_idsL]; simp
@[go_sem] theorem smc_ren (p : Nat → Nat) (l : List Sm) : PV.renL p (smc l) = smc l := by
  induction l with
  | nil => simp [smc, Sm.csL, PV.renL]
  | cons e l ih =>
    simp only [smc, Sm.csL, List.flatten_cons] at ih ⊢; rw [renL_app, ih]
    congr 1; rw [Sm.cs_eq]; simp [PV.renL, PV.ren]
@[go_sem] theorem smc_sub (θ : TypeId → Nat → Nat → Nat → Option PV) (l : List Sm) : PV.subL θ (smc l) = smc l := by
  induction l with
  | nil => simp [smc, Sm.csL, PV.subL]
  | cons e l ih =>
    simp only [smc, Sm.csL, List.flatten_cons] at ih ⊢; rw [subL_app, ih]
    congr 1; rw [Sm.cs_eq]; simp [PV.subL, PV.sub]
theorem rowsOf_smc {f : Nat → Option AObj} {id n : Nat} {T : TypeId} {l : List Sm} (h : f id = some (.cells T (smc l))) (hn : l.length = n) : RowsOf Tryz.prog f 52 id 0 n (Sm.csL l) := by
  subst hn
  refine ⟨by rw [cellsOf52]; omega, by rw [Sm.csL_len], ?_, T, _, h, ?_, ?_⟩
  · intro c hc
    rw [Sm.csL_map, List.mem_map] at hc
    obtain ⟨x, _, rfl⟩ := hc
    rw [cellsOf52, Sm.cs_eq]; exact ⟨rfl, rfl⟩
  · rw [cellsOf52, smc_len]; omega
  · rw [cellsOf52, List.drop_zero, List.take_of_length_le (by rw [smc_len]; omega)]; rfl
theorem Sm.szL_app (l : List Sm) (e : Sm) : Sm.szL (l ++ [e]) = Sm.szL l + e.sz := by
  induction l with
  | nil => simp [Sm.szL]
  | cons x l ih => simp only [List.cons_append, Sm.szL, ih]; omega
@[go_sem] theorem Sm.mk_kind (k : Int) (a : AD) (e : Ex) (th el : List Sm) : (Sm.mk k a e th el).kind = k := rfl
@[go_sem] theorem Sm.mk_to (k : Int) (a : AD) (e : Ex) (th el : List Sm) : (Sm.mk k a e th el).to' = a := rfl
@[go_sem] theorem Sm.mk_e (k : Int) (a : AD) (e : Ex) (th el : List Sm) : (Sm.mk k a e th el).e = e := rfl
@[go_sem] theorem Sm.mk_th (k : Int) (a : AD) (e : Ex) (th el : List Sm) : (Sm.mk k a e th el).th = th := rfl
@[go_sem] theorem Sm.mk_el (k : Int) (a : AD) (e : Ex) (th el : List Sm) : (Sm.mk k a e th el).el = el := rfl
@[go_sem] theorem Sm.csL_nil : Sm.csL [] = [] := rfl
@[go_sem high] theorem repd5 (z : List PV) : rep 5 z = z ++ (z ++ (z ++ (z ++ (z)))) := by simp [rep, List.replicate_succ]
@[go_sem] theorem rdObj_sub (θ : TypeId → Nat → Nat → Nat → Option PV) (bs : List Nat) (q : Int) : subObj θ (rdObj bs q) = rdObj bs q := by simp [rdObj, subObj, PV.subL, PV.sub]
theorem l2To_ok (id : Nat) (bs : List Nat) (q : Int) (hbs : Bs bs) (hq0 : 0 ≤ q) (hq : q + 2 ≤ 1000000000000) : RdF 59 [] id bs q 2 (fun v => ∃ a : AD, v = .agg a.cs) := by
  refine callF_of' Tryz.func59 rfl Tryz.ntmps59 (by simp) ?_
  intro f0 B ns Q hB hns hQ
  have hid : id < B := hB id (by simp [hasKey, lk])
  obtain rfl : ns = [] := List.eq_nil_of_length_eq_zero hns
  refine g_ [0,2] ?_
  refine n_ ?_
  refine wpM_regionK [2] rfl fun Q1 hQ1 => ?_
  refine S_ ?_
  refine call_fn (l := [(id, rdObj bs q)]) (first := []) (cap := []) (ps := [.ptr id 0, .int .i64 2]) (pick_ok id bs q 2 hbs (by omega) (by omega) (by omega)) Tryz.call58 rfl rfl rfl G_ T_ ?_
  rintro out ⟨k1, rfl, h1, h2, h3⟩
  refine S_ ?_
  refine call_fn (l := [(id, rdObj bs (q + 1))]) (first := []) (cap := []) (ps := [.ptr id 0, .int .i64 3]) (pick_ok id bs (q + 1) 3 hbs (by omega) (by omega) (by omega)) Tryz.call58 rfl rfl rfl G_ T_ ?_
  rintro out ⟨k2, rfl, h4, h5, h6⟩
  refine S_ ?_
  refine hQ1 _ _ (S_ ?_);clear hQ1 Q1
  refine wpM_ret ?_
  try refine S_ ?_
  refine hQ _ _ (ret0 [(id, some (rdObj bs (q + 1 + 1)))] rfl rfl rfl (by rw [Tryz.results59] <;> simp (maxSteps := 1000000) -implicitDefEqProofs (disch := omega) only [go_sem] <;> rfl) ⟨_, q + 1 + 1, ⟨⟨2 + k1, k2⟩, rfl⟩, by omega, by omega, rfl⟩ ?_ ?_ ?_ ?_)
  all_goals simp -implicitDefEqProofs (disch := omega) only [go_sem, rdObj, true_or, or_true]
theorem l4Count_ok (id : Nat) (bs : List Nat) (q : Int) (hbs : Bs bs) (hq0 : 0 ≤ q) (hq : q + 40 ≤ 1000000000000) : RdF 101 [] id bs q 40 (fun v => ∃ s : Sm, s.sz ≤ 60 ∧ v = .agg s.cs) := by
  refine callF_of' Tryz.func101 rfl Tryz.ntmps101 (by simp) ?_
  intro f0 B ns Q hB hns hQ
  have hid : id < B := hB id (by simp [hasKey, lk])
  obtain rfl : ns = [] := List.eq_nil_of_length_eq_zero hns
  have b1 : eb 1 = 12 := rfl
  have s1 : es 1 = 3 := rfl
  refine g_ [0,2] ?_
  refine n_ ?_
  refine wpM_regionK [0,2,3] rfl fun Q1 hQ1 => ?_
  refine S_ ?_
  refine call_fn (l := [(id, rdObj bs q)]) (first := []) (cap := []) (ps := [.ptr id 0, .int .i64 3]) (pick_ok id bs q 3 hbs (by omega) (by omega) (by omega)) Tryz.call58 rfl rfl rfl G_ T_ ?_
  rintro out ⟨k1, rfl, h1, h2, h3⟩
  refine S_ ?_
  refine hQ1 _ _ (S_ ?_);clear hQ1 Q1
  refine g_ [0,2,3,4] ?_
  refine wpM_le [(0, .ptr id 0), (2, .ptr B 0), (3, .ptr (B + 1) 0), (4, .ptr (B + 2) 0)] [(B + 2, .cells 50 (Ex.mk 2 0 ⟨3, k1⟩ []).cs), (B + 1, .cells 29 (AD.mk 3 k1).cs), (B, .cells 52 (Sm.mk 0 ⟨0, 0⟩ (Ex.mk 0 0 ⟨0, 0⟩ []) [] []).cs), (id, rdObj bs (q + 1))] T_ T_ T_ ?_
  refine n_ ?_
  refine dr_ mixed [0,2,3,4,5] 3 2 [B + 2, id, B + 3, B + 4, B + 5] [⟨[4],[0],[],[],false⟩,⟨[0],[],[],[],false⟩,⟨[],[],[],[2],false⟩,⟨[14,15],[1,2],[1],[],true⟩,⟨[16],[],[],[],false⟩,⟨[13,17],[],[],[3],false⟩,⟨[18],[],[],[],false⟩,⟨[],[],[],[4],false⟩,⟨[5,19],[4],[4],[],false⟩] [0,1,2,7,3,4,5,6,8] [[],[],[],[1,2],[1,2,3],[0,1,2,3,4],[0,1,2,3,4,5],[],[0,1,2,3,4,5,6,7]] 5 (htbl := by simp; omega) (hnm := by simp) ?_
  intro O A K hO hA hK;simp only [atL_cons,atL_nil,Nat.reduceAdd,Nat.zero_add] at hO hA
  refine SO_ ?_
  refine loud_fn (first := []) (cap := []) (ps := [.ptr id 0, .sl 3 (B + 3) 0 5]) (l := [(id, rdObj bs (q + 1)), (B + 3, .cells 3 (ints [1, 3, 5, 9, 200]))]) (num_ok id (B + 3) bs (q + 1) [1, 3, 5, 9, 200] 5 rfl (by omega) (by omega) (by omega) hbs (by omega) (by omega)) Tryz.call41 rfl rfl F_ (subG_spec (by simp -implicitDefEqProofs (disch := omega) only [go_sem, ints, List.map_cons, List.map_nil])) rfl ?_
  rintro out ⟨k2, rfl, h4⟩
  refine ⟨rfl, ?_⟩
  refine SO_ ?_
  refine hK _ (S_ ?_);clear hK K hO hA O A
  refine wpM_le [(0, .ptr id 0), (2, .ptr B 0), (3, .ptr (B + 1) 0), (4, .ptr (B + 2) 0), (5, .ptr (B + 5) 0)] [(B + 4, .cells 50 (exc [Ex.mk 2 0 ⟨3, k1⟩ [], Ex.mk 1 k2 ⟨0, 0⟩ []])), (B + 5, .cells 50 [.int .i64 6, .int .i64 0, .int .i64 0, .int .i64 0, .sl 50 (B + 4) 0 2]), (B + 2, .cells 50 (Ex.mk 2 0 ⟨3, k1⟩ []).cs), (B + 1, .cells 29 (AD.mk 3 k1).cs), (B, .cells 52 (Sm.mk 0 ⟨0, 0⟩ (Ex.mk 0 0 ⟨0, 0⟩ []) [] []).cs), (id, rdObj bs (q + 1 + 1))] T_ (by simp -implicitDefEqProofs (disch := omega) only [go_sem, exc, Ex.csL, List.flatten_cons, List.flatten_nil, List.cons_append, List.nil_append]) T_ ?_
  refine wpM_frz [B + 4] [(50, B + 4, 0, 2, Ex.csL [Ex.mk 2 0 ⟨3, k1⟩ [], Ex.mk 1 k2 ⟨0, 0⟩ []])] (by intro q hq; simp at hq; subst hq; simp -implicitDefEqProofs (disch := omega) only [go_sem]) (by intro q hq; simp only [List.mem_cons, List.not_mem_nil, or_false] at hq; subst hq; exact ⟨by simp, rowsOf_exc (T := 50) (l := [Ex.mk 2 0 ⟨3, k1⟩ [], Ex.mk 1 k2 ⟨0, 0⟩ []]) T_⟩) ?_
  simp -implicitDefEqProofs (disch := omega) only [go_sem]
  refine n_ ?_
  refine dr_ mixed [0,2,3,5,6] 3 2 [B + 2, id, B + 6, B + 7, B + 8] [⟨[4],[0],[],[],false⟩,⟨[0],[],[],[],false⟩,⟨[],[],[],[2],false⟩,⟨[21,22],[1,2],[1],[],true⟩,⟨[23],[],[],[],false⟩,⟨[20,24],[],[],[3],false⟩,⟨[25],[],[],[],false⟩,⟨[],[],[],[4],false⟩,⟨[6,26],[4],[4],[],false⟩] [0,1,2,7,3,4,5,6,8] [[],[],[],[1,2],[1,2,3],[0,1,2,3,4],[0,1,2,3,4,5],[],[0,1,2,3,4,5,6,7]] 5 (htbl := by simp; omega) (hnm := by simp) ?_
  intro O A K hO hA hK;simp only [atL_cons,atL_nil,Nat.reduceAdd,Nat.zero_add] at hO hA
  refine SO_ ?_
  refine loud_fn (first := []) (cap := []) (ps := [.ptr id 0, .sl 3 (B + 6) 0 4]) (l := [(id, rdObj bs (q + 1 + 1)), (B + 6, .cells 3 (ints [1, 1, 2, 0]))]) (num_ok id (B + 6) bs (q + 1 + 1) [1, 1, 2, 0] 4 rfl (by omega) (by omega) (by omega) hbs (by omega) (by omega)) Tryz.call41 rfl rfl F_ (subG_spec (by simp -implicitDefEqProofs (disch := omega) only [go_sem, ints, List.map_cons, List.map_nil])) rfl ?_
  rintro out ⟨k3, rfl, h5⟩
  refine ⟨rfl, ?_⟩
  refine SO_ ?_
  refine hK _ (S_ ?_);clear hK K hO hA O A
  refine wpM_le [(0, .ptr id 0), (2, .ptr B 0), (3, .ptr (B + 1) 0), (5, .ptr (B + 5) 0), (6, .ptr (B + 8) 0)] [(B + 7, .cells 50 (exc [Ex.mk 2 0 ⟨3, k1⟩ [], Ex.mk 1 k3 ⟨0, 0⟩ []])), (B + 8, .cells 50 [.int .i64 3, .int .i64 0, .int .i64 0, .int .i64 0, .sl 50 (B + 7) 0 2]), (B + 5, .cells 50 (Ex.mk 6 0 ⟨0, 0⟩ [Ex.mk 2 0 ⟨3, k1⟩ [], Ex.mk 1 k2 ⟨0, 0⟩ []]).cs), (B + 1, .cells 29 (AD.mk 3 k1).cs), (B, .cells 52 (Sm.mk 0 ⟨0, 0⟩ (Ex.mk 0 0 ⟨0, 0⟩ []) [] []).cs), (id, rdObj bs (q + 1 + 1 + 1))] T_ (by simp -implicitDefEqProofs (disch := omega) only [go_sem, exc, Ex.csL, List.flatten_cons, List.flatten_nil, List.cons_append, List.nil_append]) T_ ?_
  refine wpM_frz [B + 7] [(50, B + 7, 0, 2, Ex.csL [Ex.mk 2 0 ⟨3, k1⟩ [], Ex.mk 1 k3 ⟨0, 0⟩ []])] (by intro q hq; simp at hq; subst hq; simp -implicitDefEqProofs (disch := omega) only [go_sem]) (by intro q hq; simp only [List.mem_cons, List.not_mem_nil, or_false] at hq; subst hq; exact ⟨by simp, rowsOf_exc (T := 50) (l := [Ex.mk 2 0 ⟨3, k1⟩ [], Ex.mk 1 k3 ⟨0, 0⟩ []]) T_⟩) ?_
  simp -implicitDefEqProofs (disch := omega) only [go_sem]
  refine g_ [0,2,7] ?_
  refine wpM_le [(0, .ptr id 0), (2, .ptr B 0), (7, .ptr (B + 10) 0)] [(B + 9, .cells 52 (smc [(Sm.mk 1 ⟨3, k1⟩ (Ex.mk 3 0 ⟨0, 0⟩ [Ex.mk 2 0 ⟨3, k1⟩ [], Ex.mk 1 k3 ⟨0, 0⟩ []]) [] [])])), (B + 10, .cells 52 [.int .i64 3, .int .i64 0, .int .i64 0, .int .i64 6, .int .i64 0, .int .i64 0, .int .i64 0, .rows 50 (Ex.csL [Ex.mk 2 0 ⟨3, k1⟩ [], Ex.mk 1 k2 ⟨0, 0⟩ []]), .sl 52 (B + 9) 0 1, .rows 52 []]), (B, .cells 52 (Sm.mk 0 ⟨0, 0⟩ (Ex.mk 0 0 ⟨0, 0⟩ []) [] []).cs), (id, rdObj bs (q + 1 + 1 + 1))] T_ (by simp -implicitDefEqProofs (disch := omega) only [go_sem, smc, Sm.csL, List.flatten_cons, List.flatten_nil, List.cons_append, List.nil_append]) T_ ?_
  refine n_ ?_
  refine wpM_regionK [0,2,7,35] rfl fun Q1 hQ1 => ?_
  refine S_ ?_
  refine call_fn (l := [(id, rdObj bs (q + 1 + 1 + 1))]) (first := []) (cap := []) (ps := [.ptr id 0, .int .i64 2]) (pick_ok id bs (q + 1 + 1 + 1) 2 hbs (by omega) (by omega) (by omega)) Tryz.call58 rfl rfl rfl G_ T_ ?_
  rintro out ⟨k4, rfl, h6, h7, h8⟩
  refine S_ ?_
  refine hQ1 _ _ (S_ ?_);clear hQ1 Q1
  refine c_ (fun hc0 => ?_) fun hc0 => ?_
  ·
    refine dr_ mixed [2,7] 2 3 [B + 10, B + 9, id, B + 11, B + 12] [⟨[7],[],[],[],false⟩,⟨[36],[0],[],[],false⟩,⟨[0],[],[],[],false⟩,⟨[38],[2],[2],[],true⟩,⟨[0],[],[],[],false⟩,⟨[40],[2],[2],[],true⟩,⟨[39,41],[],[],[],false⟩,⟨[42],[],[],[3],false⟩,⟨[37,43],[1,3],[1],[4],false⟩,⟨[7],[],[],[],false⟩,⟨[44,45],[0],[0],[],false⟩] [0,1,2,4,3,5,6,7,8,9,10] [[],[0],[],[2],[],[2,3,4],[2,3,4,5],[2,3,4,5,6],[0,1,2,3,4,5,6,7],[0,1,2,3,4,5,6,7,8],[0,1,2,3,4,5,6,7,8,9]] 5 (htbl := by simp; omega) (hnm := by simp) ?_
    intro O A K hO hA hK;simp only [atL_cons,atL_nil,Nat.reduceAdd,Nat.zero_add] at hO hA
    refine SO_ ?_
    refine loud_fn (first := []) (cap := []) (ps := [.ptr id 0]) (l := [(id, rdObj bs (q + 1 + 1 + 1 + 1))]) (l2To_ok id bs (q + 1 + 1 + 1 + 1) hbs (by omega) (by omega)) Tryz.call59 rfl rfl F_ (subG_spec T_) rfl ?_
    rintro out ⟨_, q1, ⟨a, rfl⟩, hqa, hqb, rfl⟩
    refine ⟨rfl, ?_⟩
    refine SO_ ?_
    refine loud_fn (first := []) (cap := []) (ps := [.ptr id 0, .int .i64 2]) (l := [(id, rdObj bs q1)]) (l3Expr_ok id bs hbs 1 q1 2 (by omega) (by omega) (by omega) (by omega)) Tryz.call77 rfl rfl F_ (subG_spec T_) rfl ?_
    rintro out ⟨_, q2, ⟨e, hes, rfl⟩, hqc, hqd, rfl⟩
    refine ⟨rfl, ?_⟩
    refine SO_ ?_
    refine hK _ (S_ ?_);clear hK K hO hA O A
    refine wpM_le [(2, .ptr B 0), (7, .ptr (B + 10) 0)] [(B + 12, .cells 52 (smc [(Sm.mk 1 ⟨3, k1⟩ (Ex.mk 3 0 ⟨0, 0⟩ [Ex.mk 2 0 ⟨3, k1⟩ [], Ex.mk 1 k3 ⟨0, 0⟩ []]) [] []), (Sm.mk 1 a e [] [])])), (B + 10, .cells 52 [.int .i64 3, .int .i64 0, .int .i64 0, .int .i64 6, .int .i64 0, .int .i64 0, .int .i64 0, .rows 50 (Ex.csL [Ex.mk 2 0 ⟨3, k1⟩ [], Ex.mk 1 k2 ⟨0, 0⟩ []]), .sl 52 (B + 12) 0 2, .rows 52 []]), (B, .cells 52 (Sm.mk 0 ⟨0, 0⟩ (Ex.mk 0 0 ⟨0, 0⟩ []) [] []).cs), (id, rdObj bs q2)] T_ (by simp -implicitDefEqProofs (disch := omega) only [go_sem, smc, Sm.csL, List.flatten_cons, List.flatten_nil, List.cons_append, List.nil_append]) T_ ?_
    refine wpM_frz [B + 12] [(52, B + 12, 0, 2, Sm.csL [(Sm.mk 1 ⟨3, k1⟩ (Ex.mk 3 0 ⟨0, 0⟩ [Ex.mk 2 0 ⟨3, k1⟩ [], Ex.mk 1 k3 ⟨0, 0⟩ []]) [] []), (Sm.mk 1 a e [] [])])] (by intro q hq; simp at hq; subst hq; simp -implicitDefEqProofs (disch := omega) only [go_sem]) (by intro q hq; simp only [List.mem_cons, List.not_mem_nil, or_false] at hq; subst hq; exact ⟨by simp, rowsOf_smc (T := 52) (l := [(Sm.mk 1 ⟨3, k1⟩ (Ex.mk 3 0 ⟨0, 0⟩ [Ex.mk 2 0 ⟨3, k1⟩ [], Ex.mk 1 k3 ⟨0, 0⟩ []]) [] []), (Sm.mk 1 a e [] [])]) T_ rfl⟩) ?_
    simp -implicitDefEqProofs (disch := omega) only [go_sem]
    refine g_ [2] ?_
    refine wpM_ret ?_
    try refine S_ ?_
    refine hQ _ _ (ret0 [(id, some (rdObj bs q2))] rfl rfl rfl (by rw [Tryz.results101] <;> simp (maxSteps := 1000000) -implicitDefEqProofs (disch := omega) only [go_sem] <;> rfl) ⟨_, q2, ⟨Sm.mk 3 ⟨0, 0⟩ (Ex.mk 6 0 ⟨0, 0⟩ [Ex.mk 2 0 ⟨3, k1⟩ [], Ex.mk 1 k2 ⟨0, 0⟩ []]) [(Sm.mk 1 ⟨3, k1⟩ (Ex.mk 3 0 ⟨0, 0⟩ [Ex.mk 2 0 ⟨3, k1⟩ [], Ex.mk 1 k3 ⟨0, 0⟩ []]) [] []), (Sm.mk 1 a e [] [])] [], by simp [Sm.sz, Sm.szL, Ex.sz, Ex.szL]; omega, by first | rfl | (rw [Sm.cs_eq]; rfl)⟩, by omega, by omega, rfl⟩ ?_ ?_ ?_ ?_)
    all_goals simp -implicitDefEqProofs (disch := omega) only [go_sem, rdObj, true_or, or_true]
  refine wpM_frz [B + 9] [(52, B + 9, 0, 1, Sm.csL [(Sm.mk 1 ⟨3, k1⟩ (Ex.mk 3 0 ⟨0, 0⟩ [Ex.mk 2 0 ⟨3, k1⟩ [], Ex.mk 1 k3 ⟨0, 0⟩ []]) [] [])])] (by intro q hq; simp at hq; subst hq; simp -implicitDefEqProofs (disch := omega) only [go_sem]) (by intro q hq; simp only [List.mem_cons, List.not_mem_nil, or_false] at hq; subst hq; exact ⟨by simp, rowsOf_smc (T := 52) (l := [(Sm.mk 1 ⟨3, k1⟩ (Ex.mk 3 0 ⟨0, 0⟩ [Ex.mk 2 0 ⟨3, k1⟩ [], Ex.mk 1 k3 ⟨0, 0⟩ []]) [] [])]) T_ rfl⟩) ?_
  simp -implicitDefEqProofs (disch := omega) only [go_sem]
  refine g_ [2] ?_
  refine wpM_ret ?_
  try refine S_ ?_
  refine hQ _ _ (ret0 [(id, some (rdObj bs (q + 1 + 1 + 1 + 1)))] rfl rfl rfl (by rw [Tryz.results101] <;> simp (maxSteps := 1000000) -implicitDefEqProofs (disch := omega) only [go_sem] <;> rfl) ⟨_, q + 1 + 1 + 1 + 1, ⟨Sm.mk 3 ⟨0, 0⟩ (Ex.mk 6 0 ⟨0, 0⟩ [Ex.mk 2 0 ⟨3, k1⟩ [], Ex.mk 1 k2 ⟨0, 0⟩ []]) [(Sm.mk 1 ⟨3, k1⟩ (Ex.mk 3 0 ⟨0, 0⟩ [Ex.mk 2 0 ⟨3, k1⟩ [], Ex.mk 1 k3 ⟨0, 0⟩ []]) [] [])] [], by simp [Sm.sz, Sm.szL, Ex.sz, Ex.szL], by first | rfl | (rw [Sm.cs_eq]; rfl)⟩, by omega, by omega, rfl⟩ ?_ ?_ ?_ ?_)
  all_goals simp -implicitDefEqProofs (disch := omega) only [go_sem, rdObj, true_or, or_true]
end Go.Proofs.YtmicbfojofcigaaGreatDoor
namespace Go.Proofs.YtmicbfojofcigaaGreatDoor
open Go Sg
set_option linter.unusedSectionVars false
variable [Glob]
set_option maxRecDepth 100000
set_option linter.unusedSimpArgs false
set_option linter.unusedVariables false
set_option maxHeartbeats 4000000
theorem leL_app (a b c : List PV) : PV.leL (a ++ b) (a ++ c) = PV.leL b c := by
  induction a with
  | nil => rfl
  | cons x a ih => simp only [List.cons_append, leL_cons, le_same, true_and, ih]
@[go_sem high] theorem leL_smc (l : List Sm) (b : List PV) (s : Sm) : PV.leL (smc l ++ b) (smc (l ++ [s])) = PV.leL b s.cs := by
  rw [← smc_app, leL_app]
@[go_sem] theorem smc_nil : smc [] = [] := rfl
@[go_sem high] theorem sub_smc_app (θ : TypeId → Nat → Nat → Nat → Option PV) (l : List Sm) (b : List PV) : PV.subL θ (smc l ++ b) = smc l ++ PV.subL θ b := by rw [subL_app, smc_sub]
def ListD (N : Nat) (L : Int) (id : Nat) (bs : List Nat) (q dep : Int) : Prop :=
  CallF Tryz.prog 61 [.ptr id 0, .int .i64 dep] [(id, rdObj bs q)] 1 (fun ns o => ∃ z l q', ns = [z] ∧ Sm.szL l ≤ N ∧ q ≤ q' ∧ q' ≤ q + L ∧ o = { rs := [.sl 52 z 0 l.length], u := [(id, some (rdObj bs q'))], nw := [(z, .cells 52 (smc l))] })
theorem list_step (N : Nat) (L : Int) (id : Nat) (bs : List Nat) (q dep : Int) (hbs : Bs bs) (hN : N ≤ 1000000) (hL0 : 0 ≤ L) (hq0 : 0 ≤ q) (hq : q + (1 + 3 * (70 + 2 * L)) ≤ 1000000000000) (hdep : dep ≤ 1000000) (hdep0 : -1000000 ≤ dep)
    (ih : 0 < dep → ∀ q' dep', dep' < dep → dep - 3 < dep' → 0 ≤ q' → q' + L ≤ 1000000000000 → ListD N L id bs q' dep') : ListD (3 * (68 + 2 * N)) (1 + 3 * (70 + 2 * L)) id bs q dep := by
  refine callF_of' Tryz.func61 rfl Tryz.ntmps61 (by simp) ?_
  intro f0 B ns Q hB hns hQ
  have hid : id < B := hB id (by simp [hasKey, lk])
  obtain ⟨z, rfl⟩ : ∃ z, ns = [z] := by
    match ns, hns with
    | [z], _ => exact ⟨z, rfl⟩
  have b2 : eb 2 = 28 := rfl
  have s2 : es 2 = 7 := rfl
  have b1 : eb 1 = 12 := rfl
  have s1 : es 1 = 3 := rfl
  generalize hC : 68 + 2 * N = C at *
  generalize hD : 70 + 2 * L = D at *
  refine g_ [0,1] ?_
  refine g_ [0,1,5] ?_
  refine n_ ?_
  refine wpM_regionK [0,1,5,6] rfl fun Q1 hQ1 => ?_
  refine S_ ?_
  refine call_fn (l := [(id, rdObj bs q)]) (first := []) (cap := []) (ps := [.ptr id 0, .int .i64 4]) (pick_ok id bs q 4 hbs (by omega) (by omega) (by omega)) Tryz.call58 rfl rfl rfl G_ T_ ?_
  rintro out ⟨k0, rfl, h01, h02, h03⟩
  refine S_ ?_
  refine hQ1 _ _ (S_ ?_);clear hQ1 Q1
  obtain ⟨n, rfl, hn⟩ : ∃ n : Nat, k0 = (n : Int) ∧ n ≤ 3 := ⟨k0.toNat, by omega, by omega⟩
  refine n_ ?_
  refine wpM_loopS (fun s r s' => ∃ (l : List Sm) (q' : Int) (M Y : Nat), r ≤ 3 ∧ Sm.szL l + r * C ≤ 3 * C ∧ q + 1 ≤ q' ∧ q' + (r : Int) * D ≤ q + 1 + 3 * D ∧ B ≤ Y ∧ Y < M ∧ s' = { s with env := setE 6 (.int .i64 (r : Nat)) (setE 5 (.sl 52 Y 0 l.length) s.env), l := [(Y, .cells 52 (smc l)), (id, rdObj bs q')], M := M }) (n) ?_ ?_
  ·
    refine .of' _ _ ⟨[], q + 1, _, B, hn, ?_, by omega, ?_, Nat.le_refl _, ?_, rfl⟩ ?_ ?_ ?_
    · simp only [Sm.szL, Nat.zero_add]; exact Nat.mul_le_mul_right C hn
    · have : (n : Int) * D ≤ 3 * D := Int.mul_le_mul_of_nonneg_right (by omega) (by omega)
      omega
    · exact Nat.lt_succ_self _
    all_goals exact L_
  rintro r s' ⟨l, q', M, Y, hr, hsz, hqa, hqb, hBY, hYM, rfl⟩
  try refine S_ ?_
  refine gD_ [0,1,5,6,15] ?_
  refine c_ (fun hc0 => ?_) fun hc0 => ?_
  ·
    obtain ⟨hr0, hd0⟩ : 0 < r ∧ 0 < dep := by simpa using hc0
    have ih := ih hd0
    obtain ⟨r, rfl⟩ : ∃ r', r = r' + 1 := ⟨r - 1, by omega⟩
    have hrC : (r + 1) * C = r * C + C := Nat.succ_mul r C
    have hrD : ((r + 1 : Nat) : Int) * D = (r : Int) * D + D := by rw [Int.natCast_succ, Int.add_mul, Int.one_mul]
    have hrD0 : 0 ≤ (r : Int) * D := Int.mul_nonneg (by omega) (by omega)
    rw [hrC] at hsz
    rw [hrD] at hqb
    have hll : l.length ≤ 6000300 := by have := Sm.len_szL l; omega
    refine n_ ?_
    refine wpM_regionK [0,1,5,6,19] rfl fun Q1 hQ1 => ?_
    refine S_ ?_
    refine call_fn (l := [(id, rdObj bs q')]) (first := []) (cap := []) (ps := [.ptr id 0, .int .i64 7]) (pick_ok id bs q' 7 hbs (by omega) (by omega) (by omega)) Tryz.call58 rfl rfl rfl G_ T_ ?_
    rintro out ⟨k1, rfl, h11, h12, h13⟩
    refine S_ ?_
    refine hQ1 _ _ (S_ ?_);clear hQ1 Q1
    refine g_ [0,1,5,6,19,28] ?_
    refine c_ (fun hc1 => ?_) fun hc1 => ?_
    ·
      refine c_ (fun hc2 => ?_) fun hc2 => ?_
      ·
        refine wpM_regionK [0,1,5,6] rfl fun Q1 hQ1 => ?_
        refine S_ ?_
        refine call_fn (l := [(id, rdObj bs (q' + 1))]) (first := []) (cap := []) (ps := [.ptr id 0, .int .i64 3]) (l3Expr_ok id bs hbs 2 (q' + 1) 3 (by omega) (by omega) (by omega) (by omega)) Tryz.call77 rfl rfl rfl G_ T_ ?_
        rintro out ⟨_, q1, ⟨e, hes, rfl⟩, hqc, hqd, rfl⟩
        refine S_ ?_
        refine call_fn (l := [(id, rdObj bs q1)]) (first := []) (cap := []) (ps := [.ptr id 0, .int .i64 (dep - 1)]) (ih q1 (dep - 1) (by omega) (by omega) (by omega) (by omega)) Tryz.call61 rfl rfl rfl G_ T_ ?_
        rintro out ⟨z1, l1, q2, ⟨⟩, hsz1, hqe, hqf, rfl⟩
        refine S_ ?_
        refine call_fn (l := [(id, rdObj bs q2)]) (first := []) (cap := []) (ps := [.ptr id 0, .int .i64 (dep - 2)]) (ih q2 (dep - 2) (by omega) (by omega) (by omega) (by omega)) Tryz.call61 rfl rfl rfl G_ T_ ?_
        rintro out ⟨z2, l2, q3, ⟨⟩, hsz2, hqg, hqh, rfl⟩
        refine S_ ?_
        refine hQ1 _ _ (S_ ?_);clear hQ1 Q1
        have hszn : Sm.szL (l ++ [(Sm.mk 2 ⟨0, 0⟩ e l1 l2)]) + r * C ≤ 3 * C := by
          rw [Sm.szL_app]
          have : Sm.sz (Sm.mk 2 ⟨0, 0⟩ e l1 l2) ≤ C := by simp only [Sm.sz]; omega
          omega
        have hqn1 : q + 1 ≤ q3 := by omega
        have hqn2 : q3 + (r : Int) * D ≤ q + 1 + 3 * D := by omega
        have hYn1 : B ≤ M + 3 := by omega
        refine wpM_frz [M, M + 1] [(52, M, 0, l1.length, Sm.csL l1), (52, M + 1, 0, l2.length, Sm.csL l2)] (by intro q hq; simp at hq; rcases hq with rfl | rfl <;> simp -implicitDefEqProofs (disch := omega) only [go_sem]) (by intro q hq; simp only [List.mem_cons, List.not_mem_nil, or_false] at hq; rcases hq with rfl | rfl <;> exact ⟨by simp, rowsOf_smc (T := 52) T_ rfl⟩) ?_
        refine S_ ?_
        refine wpM_le [(0, .ptr id 0), (1, .int .i64 dep), (5, .sl 52 (M + 3) 0 (l.length + 1)), (6, .int .i64 ((r + 1 : Nat) : Int))] [(M + 3, .cells 52 (smc (l ++ [(Sm.mk 2 ⟨0, 0⟩ e l1 l2)]))), (id, rdObj bs (q3))] T_ T_ T_ ?_
        rw [show l.length + 1 = (l ++ [(Sm.mk 2 ⟨0, 0⟩ e l1 l2)]).length from by simp]
        generalize hln : l ++ [(Sm.mk 2 ⟨0, 0⟩ e l1 l2)] = ln at *
        generalize hqn : q3 = qn at *
        generalize hYn : M + 3 = Yn at *
        refine g_ [0,1,5,6] ?_
        try rw [show (((r + 1 : Nat) : Int) - 1) = (r : Int) from by omega]
        refine .of' _ _ ⟨r, by omega, ln, qn, _, Yn, by omega, hszn, hqn1, hqn2, hYn1, ?_, rfl⟩ ?_ ?_ ?_
        · dsimp only; omega
        all_goals exact L_
      refine g_ [0,1,5,6,19,45] ?_
      refine c_ (fun hc3 => ?_) fun hc3 => ?_
      ·
        refine g_ [0,1,5,6,48] ?_
        refine c_ (fun hc4 => ?_) fun hc4 => ?_
        ·
          refine wpM_regionK [0,1,5,6] rfl fun Q1 hQ1 => ?_
          refine S_ ?_
          refine call_fn (l := [(id, rdObj bs (q' + 1))]) (first := []) (cap := []) (ps := [.ptr id 0]) (l4Count_ok id bs (q' + 1) hbs (by omega) (by omega)) Tryz.call101 rfl rfl rfl G_ T_ ?_
          rintro out ⟨_, q1, ⟨s, hss, rfl⟩, hqc, hqd, rfl⟩
          refine S_ ?_
          refine hQ1 _ _ (S_ ?_);clear hQ1 Q1
          have hszn : Sm.szL (l ++ [s]) + r * C ≤ 3 * C := by
            rw [Sm.szL_app]
            have : Sm.sz s ≤ C := by omega
            omega
          have hqn1 : q + 1 ≤ q1 := by omega
          have hqn2 : q1 + (r : Int) * D ≤ q + 1 + 3 * D := by omega
          have hYn1 : B ≤ M + 1 := by omega
          refine wpM_le [(0, .ptr id 0), (1, .int .i64 dep), (5, .sl 52 (M + 1) 0 (l.length + 1)), (6, .int .i64 ((r + 1 : Nat) : Int))] [(M + 1, .cells 52 (smc (l ++ [s]))), (id, rdObj bs (q1))] T_ T_ T_ ?_
          rw [show l.length + 1 = (l ++ [s]).length from by simp]
          generalize hln : l ++ [s] = ln at *
          generalize hqn : q1 = qn at *
          generalize hYn : M + 1 = Yn at *
          refine g_ [0,1,5,6] ?_
          try rw [show (((r + 1 : Nat) : Int) - 1) = (r : Int) from by omega]
          refine .of' _ _ ⟨r, by omega, ln, qn, _, Yn, by omega, hszn, hqn1, hqn2, hYn1, ?_, rfl⟩ ?_ ?_ ?_
          · dsimp only; omega
          all_goals exact L_
        have hszn : Sm.szL l + r * C ≤ 3 * C := by omega
        have hqn1 : q + 1 ≤ q' + 1 := by omega
        have hqn2 : q' + 1 + (r : Int) * D ≤ q + 1 + 3 * D := by omega
        have hYn1 : B ≤ Y := hBY
        generalize hln : l = ln at *
        generalize hqn : q' + 1 = qn at *
        generalize hYn : Y = Yn at *
        refine g_ [0,1,5,6] ?_
        try rw [show (((r + 1 : Nat) : Int) - 1) = (r : Int) from by omega]
        refine .of' _ _ ⟨r, by omega, ln, qn, _, Yn, by omega, hszn, hqn1, hqn2, hYn1, ?_, rfl⟩ ?_ ?_ ?_
        · dsimp only; omega
        all_goals exact L_
      refine g_ [0,1,5,6,54] ?_
      refine c_ (fun hc5 => ?_) fun hc5 => ?_
      ·
        refine n_ ?_
        refine wpM_regionK [0,1,5,6,58] rfl fun Q1 hQ1 => ?_
        refine S_ ?_
        refine call_fn (l := [(id, rdObj bs (q' + 1))]) (first := []) (cap := []) (ps := [.ptr id 0, .int .i64 3]) (pick_ok id bs (q' + 1) 3 hbs (by omega) (by omega) (by omega)) Tryz.call58 rfl rfl rfl G_ T_ ?_
        rintro out ⟨k2, rfl, h21, h22, h23⟩
        refine S_ ?_
        refine hQ1 _ _ (S_ ?_);clear hQ1 Q1
        refine c_ (fun hc6 => ?_) fun hc6 => ?_
        ·
          refine wpM_regionK [0,1,5,6] rfl fun Q1 hQ1 => ?_
          refine S_ ?_
          refine call_fn (l := [(id, rdObj bs (q' + 1 + 1))]) (first := []) (cap := []) (ps := [.ptr id 0, .int .i64 2]) (l3Expr_ok id bs hbs 1 (q' + 1 + 1) 2 (by omega) (by omega) (by omega) (by omega)) Tryz.call77 rfl rfl rfl G_ T_ ?_
          rintro out ⟨_, q1, ⟨e, hes, rfl⟩, hqc, hqd, rfl⟩
          refine S_ ?_
          refine call_fn (l := [(id, rdObj bs q1)]) (first := []) (cap := []) (ps := [.ptr id 0, .int .i64 (dep - 1)]) (ih q1 (dep - 1) (by omega) (by omega) (by omega) (by omega)) Tryz.call61 rfl rfl rfl G_ T_ ?_
          rintro out ⟨z1, l1, q2, ⟨⟩, hsz1, hqe, hqf, rfl⟩
          refine S_ ?_
          refine hQ1 _ _ (S_ ?_);clear hQ1 Q1
          have hszn : Sm.szL (l ++ [(Sm.mk 3 ⟨0, 0⟩ e l1 [])]) + r * C ≤ 3 * C := by
            rw [Sm.szL_app]
            have : Sm.sz (Sm.mk 3 ⟨0, 0⟩ e l1 []) ≤ C := by simp only [Sm.sz, Sm.szL]; omega
            omega
          have hqn1 : q + 1 ≤ q2 := by omega
          have hqn2 : q2 + (r : Int) * D ≤ q + 1 + 3 * D := by omega
          have hYn1 : B ≤ M + 2 := by omega
          refine wpM_frz [M] [(52, M, 0, l1.length, Sm.csL l1)] (by intro q hq; simp at hq; rcases hq with rfl <;> simp -implicitDefEqProofs (disch := omega) only [go_sem]) (by intro q hq; simp only [List.mem_cons, List.not_mem_nil, or_false] at hq; rcases hq with rfl <;> exact ⟨by simp, rowsOf_smc (T := 52) T_ rfl⟩) ?_
          refine S_ ?_
          refine wpM_le [(0, .ptr id 0), (1, .int .i64 dep), (5, .sl 52 (M + 2) 0 (l.length + 1)), (6, .int .i64 ((r + 1 : Nat) : Int))] [(M + 2, .cells 52 (smc (l ++ [(Sm.mk 3 ⟨0, 0⟩ e l1 [])]))), (id, rdObj bs (q2))] T_ T_ T_ ?_
          rw [show l.length + 1 = (l ++ [(Sm.mk 3 ⟨0, 0⟩ e l1 [])]).length from by simp]
          generalize hln : l ++ [(Sm.mk 3 ⟨0, 0⟩ e l1 [])] = ln at *
          generalize hqn : q2 = qn at *
          generalize hYn : M + 2 = Yn at *
          refine g_ [0,1,5,6] ?_
          try rw [show (((r + 1 : Nat) : Int) - 1) = (r : Int) from by omega]
          refine .of' _ _ ⟨r, by omega, ln, qn, _, Yn, by omega, hszn, hqn1, hqn2, hYn1, ?_, rfl⟩ ?_ ?_ ?_
          · dsimp only; omega
          all_goals exact L_
        have hszn : Sm.szL l + r * C ≤ 3 * C := by omega
        have hqn1 : q + 1 ≤ q' + 1 + 1 := by omega
        have hqn2 : q' + 1 + 1 + (r : Int) * D ≤ q + 1 + 3 * D := by omega
        have hYn1 : B ≤ Y := hBY
        generalize hln : l = ln at *
        generalize hqn : q' + 1 + 1 = qn at *
        generalize hYn : Y = Yn at *
        refine g_ [0,1,5,6] ?_
        try rw [show (((r + 1 : Nat) : Int) - 1) = (r : Int) from by omega]
        refine .of' _ _ ⟨r, by omega, ln, qn, _, Yn, by omega, hszn, hqn1, hqn2, hYn1, ?_, rfl⟩ ?_ ?_ ?_
        · dsimp only; omega
        all_goals exact L_
      refine wpM_regionK [0,1,5,6] rfl fun Q1 hQ1 => ?_
      refine S_ ?_
      refine call_fn (l := [(id, rdObj bs (q' + 1))]) (first := []) (cap := []) (ps := [.ptr id 0]) (l2To_ok id bs (q' + 1) hbs (by omega) (by omega)) Tryz.call59 rfl rfl rfl G_ T_ ?_
      rintro out ⟨_, q1, ⟨a, rfl⟩, hqc, hqd, rfl⟩
      refine S_ ?_
      refine call_fn (l := [(id, rdObj bs q1)]) (first := []) (cap := []) (ps := [.ptr id 0, .int .i64 3]) (l3Expr_ok id bs hbs 2 q1 3 (by omega) (by omega) (by omega) (by omega)) Tryz.call77 rfl rfl rfl G_ T_ ?_
      rintro out ⟨_, q2, ⟨e, hes, rfl⟩, hqe, hqf, rfl⟩
      refine S_ ?_
      refine hQ1 _ _ (S_ ?_);clear hQ1 Q1
      have hszn : Sm.szL (l ++ [(Sm.mk 1 a e [] [])]) + r * C ≤ 3 * C := by
        rw [Sm.szL_app]
        have : Sm.sz (Sm.mk 1 a e [] []) ≤ C := by simp only [Sm.sz, Sm.szL]; omega
        omega
      have hqn1 : q + 1 ≤ q2 := by omega
      have hqn2 : q2 + (r : Int) * D ≤ q + 1 + 3 * D := by omega
      have hYn1 : B ≤ M + 1 := by omega
      refine wpM_le [(0, .ptr id 0), (1, .int .i64 dep), (5, .sl 52 (M + 1) 0 (l.length + 1)), (6, .int .i64 ((r + 1 : Nat) : Int))] [(M + 1, .cells 52 (smc (l ++ [(Sm.mk 1 a e [] [])]))), (id, rdObj bs (q2))] T_ T_ T_ ?_
      rw [show l.length + 1 = (l ++ [(Sm.mk 1 a e [] [])]).length from by simp]
      generalize hln : l ++ [(Sm.mk 1 a e [] [])] = ln at *
      generalize hqn : q2 = qn at *
      generalize hYn : M + 1 = Yn at *
      refine g_ [0,1,5,6] ?_
      try rw [show (((r + 1 : Nat) : Int) - 1) = (r : Int) from by omega]
      refine .of' _ _ ⟨r, by omega, ln, qn, _, Yn, by omega, hszn, hqn1, hqn2, hYn1, ?_, rfl⟩ ?_ ?_ ?_
      · dsimp only; omega
      all_goals exact L_
    refine g_ [0,1,5,6,19,28] ?_
    refine c_ (fun hc7 => ?_) fun hc7 => ?_
    ·
      refine wpM_regionK [0,1,5,6] rfl fun Q1 hQ1 => ?_
      refine S_ ?_
      refine call_fn (l := [(id, rdObj bs (q' + 1))]) (first := []) (cap := []) (ps := [.ptr id 0, .int .i64 3]) (l3Expr_ok id bs hbs 2 (q' + 1) 3 (by omega) (by omega) (by omega) (by omega)) Tryz.call77 rfl rfl rfl G_ T_ ?_
      rintro out ⟨_, q1, ⟨e, hes, rfl⟩, hqc, hqd, rfl⟩
      refine S_ ?_
      refine call_fn (l := [(id, rdObj bs q1)]) (first := []) (cap := []) (ps := [.ptr id 0, .int .i64 (dep - 1)]) (ih q1 (dep - 1) (by omega) (by omega) (by omega) (by omega)) Tryz.call61 rfl rfl rfl G_ T_ ?_
      rintro out ⟨z1, l1, q2, ⟨⟩, hsz1, hqe, hqf, rfl⟩
      refine S_ ?_
      refine call_fn (l := [(id, rdObj bs q2)]) (first := []) (cap := []) (ps := [.ptr id 0, .int .i64 (dep - 2)]) (ih q2 (dep - 2) (by omega) (by omega) (by omega) (by omega)) Tryz.call61 rfl rfl rfl G_ T_ ?_
      rintro out ⟨z2, l2, q3, ⟨⟩, hsz2, hqg, hqh, rfl⟩
      refine S_ ?_
      refine hQ1 _ _ (S_ ?_);clear hQ1 Q1
      have hszn : Sm.szL (l ++ [(Sm.mk 2 ⟨0, 0⟩ e l1 l2)]) + r * C ≤ 3 * C := by
        rw [Sm.szL_app]
        have : Sm.sz (Sm.mk 2 ⟨0, 0⟩ e l1 l2) ≤ C := by simp only [Sm.sz]; omega
        omega
      have hqn1 : q + 1 ≤ q3 := by omega
      have hqn2 : q3 + (r : Int) * D ≤ q + 1 + 3 * D := by omega
      have hYn1 : B ≤ M + 3 := by omega
      refine wpM_frz [M, M + 1] [(52, M, 0, l1.length, Sm.csL l1), (52, M + 1, 0, l2.length, Sm.csL l2)] (by intro q hq; simp at hq; rcases hq with rfl | rfl <;> simp -implicitDefEqProofs (disch := omega) only [go_sem]) (by intro q hq; simp only [List.mem_cons, List.not_mem_nil, or_false] at hq; rcases hq with rfl | rfl <;> exact ⟨by simp, rowsOf_smc (T := 52) T_ rfl⟩) ?_
      refine S_ ?_
      refine wpM_le [(0, .ptr id 0), (1, .int .i64 dep), (5, .sl 52 (M + 3) 0 (l.length + 1)), (6, .int .i64 ((r + 1 : Nat) : Int))] [(M + 3, .cells 52 (smc (l ++ [(Sm.mk 2 ⟨0, 0⟩ e l1 l2)]))), (id, rdObj bs (q3))] T_ T_ T_ ?_
      rw [show l.length + 1 = (l ++ [(Sm.mk 2 ⟨0, 0⟩ e l1 l2)]).length from by simp]
      generalize hln : l ++ [(Sm.mk 2 ⟨0, 0⟩ e l1 l2)] = ln at *
      generalize hqn : q3 = qn at *
      generalize hYn : M + 3 = Yn at *
      refine g_ [0,1,5,6] ?_
      try rw [show (((r + 1 : Nat) : Int) - 1) = (r : Int) from by omega]
      refine .of' _ _ ⟨r, by omega, ln, qn, _, Yn, by omega, hszn, hqn1, hqn2, hYn1, ?_, rfl⟩ ?_ ?_ ?_
      · dsimp only; omega
      all_goals exact L_
    refine g_ [0,1,5,6,19,45] ?_
    refine c_ (fun hc8 => ?_) fun hc8 => ?_
    ·
      refine g_ [0,1,5,6,48] ?_
      refine c_ (fun hc9 => ?_) fun hc9 => ?_
      ·
        refine wpM_regionK [0,1,5,6] rfl fun Q1 hQ1 => ?_
        refine S_ ?_
        refine call_fn (l := [(id, rdObj bs (q' + 1))]) (first := []) (cap := []) (ps := [.ptr id 0]) (l4Count_ok id bs (q' + 1) hbs (by omega) (by omega)) Tryz.call101 rfl rfl rfl G_ T_ ?_
        rintro out ⟨_, q1, ⟨s, hss, rfl⟩, hqc, hqd, rfl⟩
        refine S_ ?_
        refine hQ1 _ _ (S_ ?_);clear hQ1 Q1
        have hszn : Sm.szL (l ++ [s]) + r * C ≤ 3 * C := by
          rw [Sm.szL_app]
          have : Sm.sz s ≤ C := by omega
          omega
        have hqn1 : q + 1 ≤ q1 := by omega
        have hqn2 : q1 + (r : Int) * D ≤ q + 1 + 3 * D := by omega
        have hYn1 : B ≤ M + 1 := by omega
        refine wpM_le [(0, .ptr id 0), (1, .int .i64 dep), (5, .sl 52 (M + 1) 0 (l.length + 1)), (6, .int .i64 ((r + 1 : Nat) : Int))] [(M + 1, .cells 52 (smc (l ++ [s]))), (id, rdObj bs (q1))] T_ T_ T_ ?_
        rw [show l.length + 1 = (l ++ [s]).length from by simp]
        generalize hln : l ++ [s] = ln at *
        generalize hqn : q1 = qn at *
        generalize hYn : M + 1 = Yn at *
        refine g_ [0,1,5,6] ?_
        try rw [show (((r + 1 : Nat) : Int) - 1) = (r : Int) from by omega]
        refine .of' _ _ ⟨r, by omega, ln, qn, _, Yn, by omega, hszn, hqn1, hqn2, hYn1, ?_, rfl⟩ ?_ ?_ ?_
        · dsimp only; omega
        all_goals exact L_
      have hszn : Sm.szL l + r * C ≤ 3 * C := by omega
      have hqn1 : q + 1 ≤ q' + 1 := by omega
      have hqn2 : q' + 1 + (r : Int) * D ≤ q + 1 + 3 * D := by omega
      have hYn1 : B ≤ Y := hBY
      generalize hln : l = ln at *
      generalize hqn : q' + 1 = qn at *
      generalize hYn : Y = Yn at *
      refine g_ [0,1,5,6] ?_
      try rw [show (((r + 1 : Nat) : Int) - 1) = (r : Int) from by omega]
      refine .of' _ _ ⟨r, by omega, ln, qn, _, Yn, by omega, hszn, hqn1, hqn2, hYn1, ?_, rfl⟩ ?_ ?_ ?_
      · dsimp only; omega
      all_goals exact L_
    refine g_ [0,1,5,6,54] ?_
    refine c_ (fun hc10 => ?_) fun hc10 => ?_
    ·
      refine n_ ?_
      refine wpM_regionK [0,1,5,6,58] rfl fun Q1 hQ1 => ?_
      refine S_ ?_
      refine call_fn (l := [(id, rdObj bs (q' + 1))]) (first := []) (cap := []) (ps := [.ptr id 0, .int .i64 3]) (pick_ok id bs (q' + 1) 3 hbs (by omega) (by omega) (by omega)) Tryz.call58 rfl rfl rfl G_ T_ ?_
      rintro out ⟨k2, rfl, h21, h22, h23⟩
      refine S_ ?_
      refine hQ1 _ _ (S_ ?_);clear hQ1 Q1
      refine c_ (fun hc11 => ?_) fun hc11 => ?_
      ·
        refine wpM_regionK [0,1,5,6] rfl fun Q1 hQ1 => ?_
        refine S_ ?_
        refine call_fn (l := [(id, rdObj bs (q' + 1 + 1))]) (first := []) (cap := []) (ps := [.ptr id 0, .int .i64 2]) (l3Expr_ok id bs hbs 1 (q' + 1 + 1) 2 (by omega) (by omega) (by omega) (by omega)) Tryz.call77 rfl rfl rfl G_ T_ ?_
        rintro out ⟨_, q1, ⟨e, hes, rfl⟩, hqc, hqd, rfl⟩
        refine S_ ?_
        refine call_fn (l := [(id, rdObj bs q1)]) (first := []) (cap := []) (ps := [.ptr id 0, .int .i64 (dep - 1)]) (ih q1 (dep - 1) (by omega) (by omega) (by omega) (by omega)) Tryz.call61 rfl rfl rfl G_ T_ ?_
        rintro out ⟨z1, l1, q2, ⟨⟩, hsz1, hqe, hqf, rfl⟩
        refine S_ ?_
        refine hQ1 _ _ (S_ ?_);clear hQ1 Q1
        have hszn : Sm.szL (l ++ [(Sm.mk 3 ⟨0, 0⟩ e l1 [])]) + r * C ≤ 3 * C := by
          rw [Sm.szL_app]
          have : Sm.sz (Sm.mk 3 ⟨0, 0⟩ e l1 []) ≤ C := by simp only [Sm.sz, Sm.szL]; omega
          omega
        have hqn1 : q + 1 ≤ q2 := by omega
        have hqn2 : q2 + (r : Int) * D ≤ q + 1 + 3 * D := by omega
        have hYn1 : B ≤ M + 2 := by omega
        refine wpM_frz [M] [(52, M, 0, l1.length, Sm.csL l1)] (by intro q hq; simp at hq; rcases hq with rfl <;> simp -implicitDefEqProofs (disch := omega) only [go_sem]) (by intro q hq; simp only [List.mem_cons, List.not_mem_nil, or_false] at hq; rcases hq with rfl <;> exact ⟨by simp, rowsOf_smc (T := 52) T_ rfl⟩) ?_
        refine S_ ?_
        refine wpM_le [(0, .ptr id 0), (1, .int .i64 dep), (5, .sl 52 (M + 2) 0 (l.length + 1)), (6, .int .i64 ((r + 1 : Nat) : Int))] [(M + 2, .cells 52 (smc (l ++ [(Sm.mk 3 ⟨0, 0⟩ e l1 [])]))), (id, rdObj bs (q2))] T_ T_ T_ ?_
        rw [show l.length + 1 = (l ++ [(Sm.mk 3 ⟨0, 0⟩ e l1 [])]).length from by simp]
        generalize hln : l ++ [(Sm.mk 3 ⟨0, 0⟩ e l1 [])] = ln at *
        generalize hqn : q2 = qn at *
        generalize hYn : M + 2 = Yn at *
        refine g_ [0,1,5,6] ?_
        try rw [show (((r + 1 : Nat) : Int) - 1) = (r : Int) from by omega]
        refine .of' _ _ ⟨r, by omega, ln, qn, _, Yn, by omega, hszn, hqn1, hqn2, hYn1, ?_, rfl⟩ ?_ ?_ ?_
        · dsimp only; omega
        all_goals exact L_
      have hszn : Sm.szL l + r * C ≤ 3 * C := by omega
      have hqn1 : q + 1 ≤ q' + 1 + 1 := by omega
      have hqn2 : q' + 1 + 1 + (r : Int) * D ≤ q + 1 + 3 * D := by omega
      have hYn1 : B ≤ Y := hBY
      generalize hln : l = ln at *
      generalize hqn : q' + 1 + 1 = qn at *
      generalize hYn : Y = Yn at *
      refine g_ [0,1,5,6] ?_
      try rw [show (((r + 1 : Nat) : Int) - 1) = (r : Int) from by omega]
      refine .of' _ _ ⟨r, by omega, ln, qn, _, Yn, by omega, hszn, hqn1, hqn2, hYn1, ?_, rfl⟩ ?_ ?_ ?_
      · dsimp only; omega
      all_goals exact L_
    refine wpM_regionK [0,1,5,6] rfl fun Q1 hQ1 => ?_
    refine S_ ?_
    refine call_fn (l := [(id, rdObj bs (q' + 1))]) (first := []) (cap := []) (ps := [.ptr id 0]) (l2To_ok id bs (q' + 1) hbs (by omega) (by omega)) Tryz.call59 rfl rfl rfl G_ T_ ?_
    rintro out ⟨_, q1, ⟨a, rfl⟩, hqc, hqd, rfl⟩
    refine S_ ?_
    refine call_fn (l := [(id, rdObj bs q1)]) (first := []) (cap := []) (ps := [.ptr id 0, .int .i64 3]) (l3Expr_ok id bs hbs 2 q1 3 (by omega) (by omega) (by omega) (by omega)) Tryz.call77 rfl rfl rfl G_ T_ ?_
    rintro out ⟨_, q2, ⟨e, hes, rfl⟩, hqe, hqf, rfl⟩
    refine S_ ?_
    refine hQ1 _ _ (S_ ?_);clear hQ1 Q1
    have hszn : Sm.szL (l ++ [(Sm.mk 1 a e [] [])]) + r * C ≤ 3 * C := by
      rw [Sm.szL_app]
      have : Sm.sz (Sm.mk 1 a e [] []) ≤ C := by simp only [Sm.sz, Sm.szL]; omega
      omega
    have hqn1 : q + 1 ≤ q2 := by omega
    have hqn2 : q2 + (r : Int) * D ≤ q + 1 + 3 * D := by omega
    have hYn1 : B ≤ M + 1 := by omega
    refine wpM_le [(0, .ptr id 0), (1, .int .i64 dep), (5, .sl 52 (M + 1) 0 (l.length + 1)), (6, .int .i64 ((r + 1 : Nat) : Int))] [(M + 1, .cells 52 (smc (l ++ [(Sm.mk 1 a e [] [])]))), (id, rdObj bs (q2))] T_ T_ T_ ?_
    rw [show l.length + 1 = (l ++ [(Sm.mk 1 a e [] [])]).length from by simp]
    generalize hln : l ++ [(Sm.mk 1 a e [] [])] = ln at *
    generalize hqn : q2 = qn at *
    generalize hYn : M + 1 = Yn at *
    refine g_ [0,1,5,6] ?_
    try rw [show (((r + 1 : Nat) : Int) - 1) = (r : Int) from by omega]
    refine .of' _ _ ⟨r, by omega, ln, qn, _, Yn, by omega, hszn, hqn1, hqn2, hYn1, ?_, rfl⟩ ?_ ?_ ?_
    · dsimp only; omega
    all_goals exact L_
  refine g_ [4] ?_
  refine wpM_ret ?_
  try refine S_ ?_
  have hrD0 : 0 ≤ (r : Int) * D := Int.mul_nonneg (by omega) (by omega)
  refine hQ _ _ (retK [Y] [(id, some (rdObj bs q'))] [(z, .cells 52 (smc l))] rfl rfl rfl (by rw [Tryz.results61] <;> simp (maxSteps := 1000000) -implicitDefEqProofs (disch := omega) only [go_sem] <;> rfl) ?_ ⟨z, l, q', rfl, by omega, by omega, by omega, rfl⟩ ?_ ?_ ?_ ?_ ?_ ?_)
  all_goals (simp -implicitDefEqProofs (disch := omega) only [go_sem, rdObj, List.nodup_cons, List.nodup_nil, true_or, or_true, List.mem_cons, List.not_mem_nil] <;> omega)
def lb : Nat → Int
  | 0 => 211
  | d + 1 => 1 + 3 * (70 + 2 * lb d)
def ls : Nat → Nat
  | 0 => 204
  | d + 1 => 3 * (68 + 2 * ls d)
theorem lb_pos : ∀ d, 0 ≤ lb d
  | 0 => by simp [lb]
  | d + 1 => by have := lb_pos d; simp only [lb]; omega
theorem l4List_ok (id : Nat) (bs : List Nat) (hbs : Bs bs) (d : Nat) (hd : ls d ≤ 1000000) : ∀ (q dep : Int), 0 ≤ q → q + lb d ≤ 1000000000000 → dep ≤ d → -1000000 ≤ dep → ListD (ls d) (lb d) id bs q dep := by
  induction d with
  | zero =>
    intro q dep h1 h2 h3 h4
    exact list_step 0 0 id bs q dep hbs (by omega) (by omega) h1 h2 (by omega) h4 (fun h => by exfalso; omega)
  | succ d ih =>
    intro q dep h1 h2 h3 h4
    have hl : ls (d + 1) = 3 * (68 + 2 * ls d) := rfl
    have hb : lb (d + 1) = 1 + 3 * (70 + 2 * lb d) := rfl
    have hd1 : d + 1 ≤ 1000000 := by
      have : ∀ n, n ≤ ls n := by
        intro n
        induction n with
        | zero => simp
        | succ n ihn => simp only [ls]; omega
      have := this (d + 1)
      omega
    exact list_step (ls d) (lb d) id bs q dep hbs (by omega) (lb_pos d) h1 h2 (by omega) h4 (fun h q' dep' g1 g2 g3 g4 => ih (by omega) q' dep' g3 g4 (by omega) (by omega))
end Go.Proofs.YtmicbfojofcigaaGreatDoor
