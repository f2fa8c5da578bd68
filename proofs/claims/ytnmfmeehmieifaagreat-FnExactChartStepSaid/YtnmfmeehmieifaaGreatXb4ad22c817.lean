/- A part of a proof: lemmas and contracts of functions; the last text of the claim says what is proved. -/
import Derived.Test.YtnmfmeehmieifaaGreatX5a7732232f
set_option linter.unusedSectionVars false
set_option linter.unusedSimpArgs false
set_option linter.unusedVariables false
namespace Go.Proofs.YtnmfmeehmieifaaGreat
open Go Sg
set_option linter.unusedSectionVars false
variable [Glob]
set_option maxRecDepth 100000
set_option linter.unusedSimpArgs false
set_option linter.unusedVariables false
set_option maxHeartbeats 4000000
theorem idxA_ok (l : List GAct) (fid : Nat) (cap : List PV) (p : GAct → Bool) (lst : List (Nat × AObj)) (hl : l.length ≤ 1099511627776) (henter : ∀ args w, (callFunc fid args).run Tryz.prog w = .ok (.enter fid args) w)
    (hf : ∀ i, i < l.length → CallF Tryz.prog fid ([.agg (l.getD i default).cs] ++ cap) lst 0 (fun _ o => o = { rs := [.bool (p (l.getD i default))] })) :
    CallF Tryz.prog 153 [.rows 158 (rowsA l), .fn (.func fid) [] cap] lst 0 (fun _ o => o = { rs := [.int .i64 (idxOf p l)] }) := by
  refine callF_ofR Tryz.func153 rfl Tryz.ntmps153 (by simp) T_ ?_
  intro f0 B Q hhid hQ
  refine g_ [0,1] ?_
  refine g_ [0,1,7,8] ?_
  refine n_ ?_
  refine wpM_loopS (fun s n s' => ∃ (i0 M0 : Nat) , i0 + n = l.length ∧ s.M ≤ M0 ∧ ((l.take i0).all (fun x => !p x) = true) ∧ s' = { s with env := setE 8 (.int .i64 (i0 : Nat)) s.env, M := M0 }) (l.length) ?_ ?_
  ·
    refine .of' _ _ ⟨0, _, by omega, Nat.le_refl _, by simp, rfl⟩ ?_ ?_ ?_ <;> exact L_
  rintro n0 s' ⟨i0, M0, hi0, hM0, hv0, rfl⟩
  try dsimp only at hM0
  try refine S_ ?_
  refine g_ [0,1,7,8,9] ?_
  refine c_ (fun hc0 => ?_) fun hc0 => ?_
  ·
    have hl0 : i0 < l.length := by omega
    refine g_ [0,1,5,7,8] ?_
    refine n_ ?_
    refine wpM_regionK [0,1,5,7,8,16] rfl fun Q1 hQ1 => ?_
    refine S_ ?_
    refine call_cap (args := [.agg (l.getD i0 default).cs]) (hf i0 hl0) (hidden_f hhid (by simp -implicitDefEqProofs (disch := omega) only [go_sem, true_or])) henter rfl rfl T_ T_ ?_
    refine S_ ?_
    refine hQ1 _ _ (S_ ?_);clear hQ1 Q1
    refine c_ (fun hc1 => ?_) fun hc1 => ?_
    ·
      refine g_ [4] ?_
      refine e_ Tryz.results153 ?_
      first
      | exact True.intro
      | first | rw [idxOf_at hl0 hv0 hc1] | rw [idxOf_no (all_yes hi0 hc0 hv0)]
    refine g_ [0,1,7,8] ?_
    refine .of' _ _ ⟨n0 - 1, by omega, i0 + 1, _, by omega, M_, ?_, rfl⟩ L_ L_ L_
    rw [take_all _ _ _ hl0, hv0, hc1]; rfl
  refine g_ [4] ?_
  refine e_ Tryz.results153 ?_
  first
  | exact True.intro
  | first | rw [idxOf_at hl0 hv0 hc1] | rw [idxOf_no (all_yes hi0 hc0 hv0)]
theorem hasA_ok (l : List GAct) (fid : Nat) (cap : List PV) (p : GAct → Bool) (lst : List (Nat × AObj)) (hl : l.length ≤ 1099511627776) (henter : ∀ args w, (callFunc fid args).run Tryz.prog w = .ok (.enter fid args) w)
    (hf : ∀ i, i < l.length → CallF Tryz.prog fid ([.agg (l.getD i default).cs] ++ cap) lst 0 (fun _ o => o = { rs := [.bool (p (l.getD i default))] })) :
    CallF Tryz.prog 124 [.rows 158 (rowsA l), .fn (.func fid) [] cap] lst 0 (fun _ o => o = { rs := [.bool (l.any p)] }) := by
  refine callF_ofR Tryz.func124 rfl Tryz.ntmps124 (by simp) T_ ?_
  intro f0 B Q hhid hQ
  refine g_ [0,1] ?_
  refine n_ ?_
  refine wpM_regionK [4] rfl fun Q1 hQ1 => ?_
  refine S_ ?_
  refine call_r (idxA_ok l fid cap p lst hl henter hf) (hidden_f hhid (by simp -implicitDefEqProofs (disch := omega) only [go_sem, true_or])) Tryz.call153 rfl rfl rfl F_ ?_
  refine S_ ?_
  refine hQ1 _ _ (S_ ?_);clear hQ1 Q1
  refine e_ Tryz.results124 ?_
  first
  | exact True.intro
  | rw [idxOf_ge]
theorem stepsOk_ok (l : List Int) (b : Int) (hl : l.length ≤ 1099511627776) : PureF Tryz.prog 149 [.rows 3 (rowsI l), .int .i64 b] [.bool (plOk l b)] := by
  refine pureF_of Tryz.func149 rfl Tryz.ntmps149 (by simp) T_ ?_
  intro f0 B Q hQ
  refine g_ [0,1] ?_
  refine g_ [0,1,7,8,9] ?_
  refine n_ ?_
  refine wpM_loopS (fun s n s' => ∃ (i0 M0 : Nat) , i0 + n = l.length ∧ s.M ≤ M0 ∧ ((List.range i0).all (fun i => !plBad l b i) = true) ∧ s' = { s with env := setE 9 (.int .i64 (i0 : Nat)) s.env, M := M0 }) (l.length) ?_ ?_
  ·
    refine .of' _ _ ⟨0, _, by omega, Nat.le_refl _, by simp, rfl⟩ ?_ ?_ ?_ <;> exact L_
  rintro n0 s' ⟨i0, M0, hi0, hM0, hv0, rfl⟩
  try dsimp only at hM0
  try refine S_ ?_
  refine g_ [0,1,7,8,9,10] ?_
  refine c_ (fun hc0 => ?_) fun hc0 => ?_
  ·
    have hl0 : i0 < l.length := by omega
    refine g_ [0,1,5,6,7,8,9] ?_
    refine gD_ [0,1,7,8,9,33] ?_
    refine c_ (fun hc1 => ?_) fun hc1 => ?_
    ·
      refine g_ [4] ?_
      refine e_ Tryz.results149 ?_
      first
      | exact True.intro
      | first | (have h1 : plBad l b i0 = true := hc1
                 rw [plOk, range_no hl0 (by rw [h1]; rfl)]; rfl) | (have : i0 = l.length := by omega
                                                                    rw [plOk, ← this, hv0]; rfl)
    refine g_ [0,1,7,8,9] ?_
    refine .of' _ _ ⟨n0 - 1, by omega, i0 + 1, _, by omega, M_, ?_, rfl⟩ L_ L_ L_
    rw [range_all, hv0]
    have : plBad l b i0 = false := hc1
    rw [this]; rfl
  refine g_ [4] ?_
  refine e_ Tryz.results149 ?_
  first
  | exact True.intro
  | first | (have h1 : plBad l b i0 = true := hc1
             rw [plOk, range_no hl0 (by rw [h1]; rfl)]; rfl) | (have : i0 = l.length := by omega
                                                                rw [plOk, ← this, hv0]; rfl)
theorem cbad_ok (c : Cht) (a : GAct) (id : Nat) : CallF Tryz.prog 150 [.agg a.cs, .ptr id 0] [(id, .cells 48 c.cs)] 0 (fun _ o => o = { rs := [.bool (a.bad c.steps)] }) := by
  refine callF_of' Tryz.func150 rfl Tryz.ntmps150 (by simp) ?_
  intro f0 B ns Q hB hns hQ
  have hid : id < B := hB id (by simp [hasKey, lk])
  obtain rfl : ns = [] := List.eq_nil_of_length_eq_zero hns
  refine g_ [1,2] ?_
  refine n_ ?_
  refine wpM_regionK [3] rfl fun Q1 hQ1 => ?_
  refine SD_ ?_
  first | refine cg_ (fun hb => iaddrOk_ok a.to') Tryz.call151 ?_ | refine cpD_ (iaddrOk_ok a.to') Tryz.call151 ?_
  refine hQ1 _ _ (S_ ?_);clear hQ1 Q1
  refine wpM_ret ?_
  try refine S_ ?_
  refine hQ _ _ (ret0 [] rfl rfl rfl (by rw [Tryz.results150] <;> simp (maxSteps := 1000000) -implicitDefEqProofs (disch := omega) only [go_sem] <;> rfl) rfl ?_ ?_ ?_ ?_)
  all_goals simp -implicitDefEqProofs (disch := omega) only [go_sem, true_or, or_true]
def Cht.iok (c : Cht) : Bool := if decide (c.steps < 1) || decide (c.steps > 6) || decide ((c.ts.length : Int) > 6) || decide ((c.as'.length : Int) > 6) then false
  else c.ts.all (fun t => !(!plOk t.fr c.steps || !plOk t.to' c.steps || !(vis t.w 0 0).isSome)) && !(c.as'.any (fun a => a.bad c.steps))
theorem ichartOk_ok (c : Cht) (hc : c.Sm) : PureF Tryz.prog 109 [.agg c.cs] [.bool c.iok] := by
  have hts := hc.ts
  have has := hc.as'
  refine pureF_of Tryz.func109 rfl Tryz.ntmps109 (by simp) T_ ?_
  intro f0 B Q hQ
  refine g_ [1] ?_
  refine gD_ [1,24] ?_
  refine c_ (fun hc0 => ?_) fun hc0 => ?_
  ·
    refine g_ [2] ?_
    refine e_ Tryz.results109 ?_
    first
    | exact True.intro
    | unfold Cht.iok
      first
      | rw [if_pos hc0]
      | (rw [if_neg (by rw [hc0]; simp), all_no (p := fun t => !(!plOk t.fr c.steps || !plOk t.to' c.steps || !(vis t.w 0 0).isSome)) hl0 (by simp only [hc2]; rfl)]; rfl)
      | rw [if_neg (by rw [hc0]; simp), all_yes hi0 hc1 hv0, Bool.true_and]
  refine g_ [1,26,27,28] ?_
  refine n_ ?_
  refine wpM_loopS (fun s n s' => ∃ (i0 M0 : Nat) , i0 + n = c.ts.length ∧ s.M ≤ M0 ∧ ((c.ts.take i0).all (fun t => !(!plOk t.fr c.steps || !plOk t.to' c.steps || !(vis t.w 0 0).isSome)) = true) ∧ s' = { s with env := setE 28 (.int .i64 (i0 : Nat)) s.env, M := M0 }) (c.ts.length) ?_ ?_
  ·
    refine .of' _ _ ⟨0, _, by omega, Nat.le_refl _, by simp, rfl⟩ ?_ ?_ ?_ <;> exact L_
  rintro n0 s' ⟨i0, M0, hi0, hM0, hv0, rfl⟩
  try dsimp only at hM0
  try refine S_ ?_
  refine g_ [1,26,27,28,29] ?_
  refine c_ (fun hc1 => ?_) fun hc1 => ?_
  ·
    have hl0 : i0 < c.ts.length := by omega
    have ht := hc.t i0 hl0
    refine g_ [1,4,26,27,28] ?_
    refine n_ ?_
    refine wpM_regionK [1,26,27,28,51] rfl fun Q1 hQ1 => ?_
    refine SD_ ?_
    refine cpD_ (stepsOk_ok (c.ts.getD i0 default).fr c.steps ht.fr) Tryz.call149 ?_
    first | refine cg_ (fun hb => stepsOk_ok (c.ts.getD i0 default).to' c.steps ht.to') Tryz.call149 ?_ | refine cpD_ (stepsOk_ok (c.ts.getD i0 default).to' c.steps ht.to') Tryz.call149 ?_
    first | refine cg_ (fun hb => iexprOk_ok (c.ts.getD i0 default).w ht.w) Tryz.call134 ?_ | refine cpD_ (iexprOk_ok (c.ts.getD i0 default).w ht.w) Tryz.call134 ?_
    refine hQ1 _ _ (S_ ?_);clear hQ1 Q1
    refine c_ (fun hc2 => ?_) fun hc2 => ?_
    ·
      refine g_ [2] ?_
      refine e_ Tryz.results109 ?_
      first
      | exact True.intro
      | unfold Cht.iok
        first
        | rw [if_pos hc0]
        | (rw [if_neg (by rw [hc0]; simp), all_no (p := fun t => !(!plOk t.fr c.steps || !plOk t.to' c.steps || !(vis t.w 0 0).isSome)) hl0 (by simp only [hc2]; rfl)]; rfl)
        | rw [if_neg (by rw [hc0]; simp), all_yes hi0 hc1 hv0, Bool.true_and]
    refine g_ [1,26,27,28] ?_
    refine .of' _ _ ⟨n0 - 1, by omega, i0 + 1, _, by omega, M_, ?_, rfl⟩ L_ L_ L_
    rw [take_all _ _ _ hl0, hv0]
    simp only [hc2]; rfl
  refine n_ ?_
  refine wpM_regionK [2] rfl fun Q1 hQ1 => ?_
  refine S_ ?_
  refine call_rs (hasA_ok c.as' 150 [.ptr B 0] (fun a => a.bad c.steps) [(B, .cells 48 c.cs)] has Tryz.call150 (fun i hi => cbad_ok c _ B)) T_ Tryz.call124 rfl rfl rfl F_ ?_
  refine S_ ?_
  refine hQ1 _ _ (S_ ?_);clear hQ1 Q1
  refine e_ Tryz.results109 ?_
  first
  | exact True.intro
  | unfold Cht.iok
    first
    | rw [if_pos hc0]
    | (rw [if_neg (by rw [hc0]; simp), all_no (p := fun t => !(!plOk t.fr c.steps || !plOk t.to' c.steps || !(vis t.w 0 0).isSome)) hl0 (by simp only [hc2]; rfl)]; rfl)
    | rw [if_neg (by rw [hc0]; simp), all_yes hi0 hc1 hv0, Bool.true_and]
theorem imrkOk_ok (c : Cht) (k : Mrk) : PureF Tryz.prog 110 [.agg c.cs, .agg k.cs] [.bool (mrkOk c k)] := by
  refine pureF_of Tryz.func110 rfl Tryz.ntmps110 (by simp) T_ ?_
  intro f0 B Q hQ
  refine g_ [2,3] ?_
  refine gD_ [4] ?_
  refine e_ Tryz.results110 ?_
  first
  | exact True.intro
  | rfl
end Go.Proofs.YtnmfmeehmieifaaGreat
namespace Go.Proofs.YtnmfmeehmieifaaGreat
open Go Sg
set_option linter.unusedSectionVars false
variable [Glob]
set_option maxRecDepth 100000
set_option linter.unusedSimpArgs false
set_option linter.unusedVariables false
set_option maxHeartbeats 4000000
theorem wrap_bv (a : BitVec 64) : IntKind.u64.wrap (a.toNat : Int) = (a.toNat : Int) := by
  have := a.isLt
  simp only [IntKind.wrap, IntKind.bits, IntKind.signed]
  simp <;> omega
theorem ofInt_bv (a : BitVec 64) : BitVec.ofInt IntKind.u64.bits (a.toNat : Int) = a := by
  have := a.isLt
  apply BitVec.eq_of_toNat_eq
  show (BitVec.ofInt 64 (a.toNat : Int)).toNat = a.toNat
  rw [BitVec.toNat_ofInt]; omega
@[go_sem] theorem lit0_bv : PV.int .u64 0 = .int .u64 ((0#64).toNat : Int) := rfl
@[go_sem] theorem lit1_bv : PV.int .u64 1 = .int .u64 ((1#64).toNat : Int) := rfl
section
variable (t : TypeId) (x y : Operand) (a b : BitVec 64)
@[go_sem high] theorem or_bv : binOpA Tryz.prog .or t x y (.int .u64 (a.toNat : Int)) (.int .u64 (b.toNat : Int)) = some (.int .u64 ((a ||| b).toNat : Int)) := by
  rw [bin_or, ofInt_bv, ofInt_bv]; exact congrArg (fun z => some (PV.int .u64 z)) (wrap_bv _)
@[go_sem high] theorem and_bv : binOpA Tryz.prog .and t x y (.int .u64 (a.toNat : Int)) (.int .u64 (b.toNat : Int)) = some (.int .u64 ((a &&& b).toNat : Int)) := by
  rw [bin_and, ofInt_bv, ofInt_bv]; exact congrArg (fun z => some (PV.int .u64 z)) (wrap_bv _)
@[go_sem high] theorem andNot_bv : binOpA Tryz.prog .andNot t x y (.int .u64 (a.toNat : Int)) (.int .u64 (b.toNat : Int)) = some (.int .u64 ((a &&& ~~~b).toNat : Int)) := by
  rw [bin_andNot, ofInt_bv, ofInt_bv]; exact congrArg (fun z => some (PV.int .u64 z)) (wrap_bv _)
@[go_sem high] theorem eql_bv : binOpA Tryz.prog .eql t x y (.int .u64 (a.toNat : Int)) (.int .u64 (b.toNat : Int)) = some (.bool (a == b)) := by
  rw [bin_eql]; congr 2; rw [Bool.eq_iff_iff]; simp [BitVec.toNat_eq]; omega
@[go_sem high] theorem neq_bv : binOpA Tryz.prog .neq t x y (.int .u64 (a.toNat : Int)) (.int .u64 (b.toNat : Int)) = some (.bool (a != b)) := by
  rw [bin_neq]; congr 2; rw [Bool.eq_iff_iff]; simp [BitVec.toNat_eq]; omega
@[go_sem high] theorem shl_bv (n : Int) (h : 0 ≤ n) : binOpA Tryz.prog .shl t x y (.int .u64 (a.toNat : Int)) (.int .i64 n) = some (.int .u64 ((a <<< n.toNat).toNat : Int)) := by
  rw [bin_shl, shiftA, if_neg (by omega)]
  have hb : IntKind.u64.bits = 64 := rfl
  have hw : ∀ z : Nat, IntKind.u64.wrap (z : Int) = ((z % 2 ^ 64 : Nat) : Int) := by
    intro z; simp only [IntKind.wrap, IntKind.bits, IntKind.signed]; simp <;> omega
  simp only [hb]
  congr 2
  rw [show ((a.toNat : Int) * 2 ^ (min n.toNat 64)) = ((a.toNat * 2 ^ (min n.toNat 64) : Nat) : Int) by push_cast; rfl, hw, BitVec.toNat_shiftLeft, Nat.shiftLeft_eq]
  congr 1
  by_cases hn : n.toNat ≤ 64
  · rw [Nat.min_eq_left hn]
  · rw [Nat.min_eq_right (by omega)]
    obtain ⟨k, hk⟩ : ∃ k, n.toNat = 64 + k := ⟨n.toNat - 64, by omega⟩
    rw [hk, Nat.pow_add, ← Nat.mul_assoc, Nat.mul_mod_left, Nat.mul_right_comm, Nat.mul_mod_left]
@[go_sem high] theorem shr_bv (n : Int) (h : 0 ≤ n) : binOpA Tryz.prog .shr t x y (.int .u64 (a.toNat : Int)) (.int .i64 n) = some (.int .u64 ((a >>> n.toNat).toNat : Int)) := by
  have hlt := a.isLt
  rw [bin_shr, shiftA, if_neg (by omega)]
  have hb : IntKind.u64.bits = 64 := rfl
  simp only [hb]
  congr 2
  rw [show ((2 : Int) ^ (min n.toNat 64)) = ((2 ^ (min n.toNat 64) : Nat) : Int) by push_cast; rfl, Int.fdiv_eq_ediv_of_nonneg _ (Int.natCast_nonneg _), ← Int.natCast_ediv, BitVec.toNat_ushiftRight, Nat.shiftRight_eq_div_pow]
  congr 1
  by_cases hn : n.toNat ≤ 64
  · rw [Nat.min_eq_left hn]
  · rw [Nat.min_eq_right (by omega), Nat.div_eq_of_lt hlt, Nat.div_eq_of_lt]
    exact Nat.lt_of_lt_of_le hlt (Nat.pow_le_pow_right (by omega) (by omega))
end
theorem has_ok (b : BitVec 64) (n : Int) (h : 0 ≤ n) : PureF Tryz.prog 158 [.int .u64 (b.toNat : Int), .int .i64 n] [.bool (b.getLsbD n.toNat)] := by
  refine pureF_of Tryz.func158 rfl Tryz.ntmps158 (by simp) T_ ?_
  intro f0 B Q hQ
  refine g_ [0,1] ?_
  refine g_ [4] ?_
  refine e_ Tryz.results158 ?_
  first
  | exact True.intro
  | rw [Bool.eq_iff_iff, beq_iff_eq]
    constructor
    · intro h1
      have := congrArg (fun z : BitVec 64 => z.getLsbD 0) h1
      simpa [BitVec.getLsbD_and] using this
    · intro h1
      apply BitVec.eq_of_getLsbD_eq
      intro i hi
      by_cases h0 : i = 0
      · subst h0; simp [BitVec.getLsbD_and, h1]
      · simp [BitVec.getLsbD_and, BitVec.getLsbD_one, h0]
def bitsL (l : List Int) : BitVec 64 := l.foldl (fun b n => b ||| (1#64 <<< n.toNat)) 0#64
@[go_sem] theorem bitsL_nil : bitsL [] = 0#64 := rfl
theorem bitsL_take (l : List Int) (i : Nat) (h : i < l.length) : bitsL (l.take (i + 1)) = bitsL (l.take i) ||| (1#64 <<< (l.getD i 0).toNat) := by
  rw [List.take_succ_eq_append_getElem h, bitsL, List.foldl_append]
  simp [List.getD, h, bitsL]
theorem bitsOf_ok (l : List Int) (hl : l.length ≤ 1099511627776) (h0 : ∀ i, i < l.length → 0 ≤ l.getD i 0) : PureF Tryz.prog 112 [.rows 3 (rowsI l)] [.int .u64 ((bitsL l).toNat : Int)] := by
  refine pureF_of Tryz.func112 rfl Tryz.ntmps112 (by simp) T_ ?_
  intro f0 B Q hQ
  refine g_ [0] ?_
  refine g_ [0,3] ?_
  refine g_ [3,6,7,8] ?_
  refine n_ ?_
  refine wpM_loopS (fun s n s' => ∃ (i0 M0 : Nat) , i0 + n = l.length ∧ s.M ≤ M0 ∧ (Tr i0) ∧ s' = { s with env := setE 3 (.int .u64 ((bitsL (l.take i0)).toNat : Int)) (setE 8 (.int .i64 (i0 : Nat)) s.env), M := M0 }) (l.length) ?_ ?_
  ·
    refine .of' _ _ ⟨0, _, by omega, Nat.le_refl _, trivial, rfl⟩ ?_ ?_ ?_ <;> exact L_
  rintro n0 s' ⟨i0, M0, hi0, hM0, hv0, rfl⟩
  try dsimp only at hM0
  try refine S_ ?_
  refine g_ [3,6,7,8,9] ?_
  refine c_ (fun hc0 => ?_) fun hc0 => ?_
  ·
    have hl0 : i0 < l.length := by omega
    have hn0 := h0 i0 hl0
    have hbt := bitsL_take l i0 hl0
    refine g_ [3,5,6,7,8] ?_
    refine g_ [3,6,7,8] ?_
    refine g_ [3,6,7,8] ?_
    rw [← hbt]
    refine .of' _ _ ⟨n0 - 1, by omega, i0 + 1, _, by omega, M_, ?_, rfl⟩ L_ L_ L_
    first | trivial | omega
  refine g_ [2] ?_
  refine e_ Tryz.results112 ?_
  first
  | exact True.intro
  | rw [show i0 = l.length by omega, List.take_of_length_le (Nat.le_refl _)]
@[go_sem] theorem drop_two (a b : PV) (l : List PV) (i : Nat) : (a :: b :: l).drop (2 + i) = l.drop i := by rw [Nat.add_comm]; rfl
@[go_sem high] theorem splice_two (a b : PV) (l v : List PV) (i : Nat) : splice (a :: b :: l) (2 + i) v = a :: b :: splice l i v := by
  unfold splice
  rw [Nat.add_comm 2 i, show i + 2 + v.length = (i + v.length) + 2 by omega]; rfl
@[go_sem] theorem bls_cell (l : List Bool) : (bls l).all PV.cell = true := by
  induction l with
  | nil => rfl
  | cons x l ih => simp only [bls, List.map_cons, List.all_cons, PV.cell, Bool.true_and] at ih ⊢; exact ih
@[go_sem] theorem bls_take6 (l : List Bool) (h : l.length = 6) : (bls l).take 6 = bls l := by rw [List.take_of_length_le (by simp [bls, h])]
def tcs (on bg : BitVec 64) (kp : List Bool) : List PV := .int .u64 (on.toNat : Int) :: .int .u64 (bg.toNat : Int) :: bls kp
@[go_sem] theorem tcs_eq (on bg : BitVec 64) (kp : List Bool) : tcs on bg kp = .int .u64 (on.toNat : Int) :: .int .u64 (bg.toNat : Int) :: bls kp := rfl
theorem cloneB_ok (id off : Nat) (T : TypeId) (cs : List PV) (L : List Bool) (h : off + 6 ≤ cs.length) (hL : (cs.drop off).take 6 = bls L) : CallF Tryz.prog 157 [.sl 4 id off 6] [(id, .cells T cs)] 1 (fun ns o => ∃ x, ns = [x] ∧ o = { rs := [.sl 4 x 0 6], nw := [(x, .cells 4 (bls L))] }) := by
  refine callF_of' Tryz.func157 rfl Tryz.ntmps157 (by simp) ?_
  intro f0 B ns Q hB hns hQ
  have hid : id < B := hB id (by simp [hasKey, lk])
  obtain ⟨x, rfl⟩ : ∃ x, ns = [x] := by
    match ns, hns with
    | [x], _ => exact ⟨x, rfl⟩
  refine g_ [0] ?_
  refine g_ [0,4] ?_
  refine c1_ ?_
  refine g_ [2] ?_
  refine wpM_ret ?_
  try refine S_ ?_
  refine hQ _ _ (retK [B + 1] [] [(x, .cells 4 (bls L))] rfl rfl rfl (by rw [Tryz.results157] <;> simp (maxSteps := 1000000) -implicitDefEqProofs (disch := omega) only [go_sem] <;> rfl) ?_ ⟨x, rfl, rfl⟩ ?_ ?_ ?_ ?_ ?_ ?_)
  all_goals (first | (simp -implicitDefEqProofs (disch := omega) only [go_sem, hL, List.nodup_cons, List.nodup_nil, true_or, or_true, List.mem_cons, List.not_mem_nil]; done) | (simp -implicitDefEqProofs (disch := omega) only [go_sem, hL, List.nodup_cons, List.nodup_nil, true_or, or_true, List.mem_cons, List.not_mem_nil]; omega))
def onBits (l : List Bool) : BitVec 64 := (List.range l.length).foldl (fun b n => if l.getD n false then b ||| (1#64 <<< n) else b) 0#64
def onB (l : List Bool) (i : Nat) : BitVec 64 := (List.range i).foldl (fun b n => if l.getD n false then b ||| (1#64 <<< n) else b) 0#64
@[go_sem] theorem onB_zero (l : List Bool) : onB l 0 = 0#64 := rfl
theorem onB_succ (l : List Bool) (i : Nat) : onB l (i + 1) = if l.getD i false then onB l i ||| (1#64 <<< i) else onB l i := by
  rw [onB, List.range_succ, List.foldl_append]; rfl
theorem turnOf_ok (k : Mrk) (hon : k.on.length ≤ 1099511627776) (hk : k.kept.length = 6) : CallF Tryz.prog 65 [.agg k.cs] [] 1 (fun ns o => ∃ x, ns = [x] ∧ o = { rs := [.ptr x 0], nw := [(x, .cells 106 (tcs (onBits k.on) 0#64 k.kept))] }) := by
  refine callF_of' Tryz.func65 rfl Tryz.ntmps65 (by simp) ?_
  intro f0 B ns Q hB hns hQ
  obtain ⟨x, rfl⟩ : ∃ x, ns = [x] := by
    match ns, hns with
    | [x], _ => exact ⟨x, rfl⟩
  have hk0 : List.drop k.kept.length [PV.bool false, PV.bool false, PV.bool false, PV.bool false, PV.bool false, PV.bool false] = [] := by rw [List.drop_eq_nil_iff, hk]; simp
  refine g_ [1] ?_
  refine n_ ?_
  refine wpM_regionK [1,3] rfl fun Q1 hQ1 => ?_
  simp -implicitDefEqProofs (disch := omega) only [go_sem, hk0, List.append_nil]
  refine hQ1 _ _ (S_ ?_);clear hQ1 Q1
  refine g_ [3,13,14,15] ?_
  refine n_ ?_
  refine wpM_loopS (fun s n s' => ∃ (i0 M0 : Nat) , i0 + n = k.on.length ∧ s.M ≤ M0 ∧ (Tr i0) ∧ s' = { s with env := setE 15 (.int .i64 (i0 : Nat)) s.env, l := setl (B + 1) (.cells 106 (tcs (onB k.on i0) 0#64 k.kept)) s.l, M := M0 }) (k.on.length) ?_ ?_
  ·
    refine .of' _ _ ⟨0, _, by omega, Nat.le_refl _, trivial, rfl⟩ ?_ ?_ ?_ <;> exact L_
  rintro n0 s' ⟨i0, M0, hi0, hM0, hv0, rfl⟩
  try dsimp only at hM0
  try refine S_ ?_
  refine g_ [3,13,14,15,16] ?_
  refine c_ (fun hc0 => ?_) fun hc0 => ?_
  ·
    have hl0 : i0 < k.on.length := by omega
    have hbt := onB_succ k.on i0
    refine g_ [3,4,5,13,14,15] ?_
    refine g_ [3,4,13,14,15,20] ?_
    refine c_ (fun hc1 => ?_) fun hc1 => ?_
    ·
      refine dr_ mixed [3,13,14,15] 0 1 [B+1] [⟨[3],[],[],[],false⟩,⟨[21],[],[],[],false⟩,⟨[22],[],[],[],false⟩,⟨[23],[0],[],[],false⟩,⟨[4],[],[],[],false⟩,⟨[25],[],[],[],false⟩,⟨[24,26],[],[],[],false⟩,⟨[21],[],[],[],false⟩,⟨[28],[],[],[],false⟩,⟨[27,29],[0],[0],[],false⟩] [0,1,2,3,4,5,6,7,8,9] [[],[0],[0,1],[0,1,2],[],[4],[0,1,2,3,4,5],[0,1,2,3,4,5,6],[0,1,2,3,4,5,6,7],[0,1,2,3,4,5,6,7,8]] 1 ?_
      intro O A K hO hA hK;simp only [atL_cons,atL_nil,Nat.reduceAdd,Nat.zero_add] at hO hA
      refine SO_ ?_
      refine hK _ (S_ ?_);clear hK K hO hA O A
      refine g_ [3,13,14,15] ?_
      first
      | (rw [hc1, if_pos rfl] at hbt; rw [← hbt])
      | (rw [hc1, if_neg (by simp)] at hbt; rw [← hbt])
      refine .of' _ _ ⟨n0 - 1, by omega, i0 + 1, _, by omega, M_, ?_, rfl⟩ L_ L_ L_
      first | trivial | omega
    refine g_ [3,13,14,15] ?_
    first
    | (rw [hc1, if_pos rfl] at hbt; rw [← hbt])
    | (rw [hc1, if_neg (by simp)] at hbt; rw [← hbt])
    refine .of' _ _ ⟨n0 - 1, by omega, i0 + 1, _, by omega, M_, ?_, rfl⟩ L_ L_ L_
    first | trivial | omega
  refine g_ [2] ?_
  refine wpM_ret ?_
  try refine S_ ?_
  refine hQ _ _ (retK [B + 1] [] [(x, .cells 106 (tcs (onBits k.on) 0#64 k.kept))] rfl rfl rfl (by rw [Tryz.results65] <;> simp (maxSteps := 1000000) -implicitDefEqProofs (disch := omega) only [go_sem] <;> rfl) ?_ ⟨x, rfl, rfl⟩ ?_ ?_ ?_ ?_ ?_ ?_)
  all_goals (try rw [show onBits k.on = onB k.on i0 by (rw [show i0 = k.on.length by omega]; rfl)])
  all_goals (first | (simp -implicitDefEqProofs (disch := omega) only [go_sem, List.nodup_cons, List.nodup_nil, true_or, or_true, List.mem_cons, List.not_mem_nil]; done) | (simp -implicitDefEqProofs (disch := omega) only [go_sem, List.nodup_cons, List.nodup_nil, true_or, or_true, List.mem_cons, List.not_mem_nil]; omega))
end Go.Proofs.YtnmfmeehmieifaaGreat
namespace Go.Proofs.YtnmfmeehmieifaaGreat
open Go Sg
set_option linter.unusedSectionVars false
variable [Glob]
set_option maxRecDepth 100000
set_option linter.unusedSimpArgs false
set_option linter.unusedVariables false
set_option maxHeartbeats 4000000
def turnOk (c : Cht) (k : Mrk) (m : MM) : Bool := m.ok && c.iok && mrkOk c k
theorem readTurn_ok (c : Cht) (k : Mrk) (m : MM) (hc : c.Sm) (hm : m.Sm) : CallF Tryz.prog 63 [.agg c.cs, .agg k.cs, .agg m.cs] [] 1 (fun ns o => ∃ x p l, ns = [x] ∧ (m.ok = true → p = .ptr x 0 ∧ l = m.flat) ∧ (p = .ptr x 0 ∨ p = .nilp) ∧ o = { rs := [p, .bool (turnOk c k m)], nw := [(x, .cells 193 (ints l))] }) := by
  refine callF_of' Tryz.func63 rfl Tryz.ntmps63 (by simp) ?_
  intro f0 B ns Q hB hns hQ
  obtain ⟨x, rfl⟩ : ∃ x, ns = [x] := by
    match ns, hns with
    | [x], _ => exact ⟨x, rfl⟩
  refine g_ [3,4,5] ?_
  refine n_ ?_
  refine wpM_regionK [3,4,8,9] rfl fun Q1 hQ1 => ?_
  refine S_ ?_
  refine call_fn (l := []) (first := []) (cap := []) (ps := [.agg m.cs]) (readMem_ok' m hm) Tryz.call108 rfl rfl rfl T_ T_ ?_
  rintro out ⟨x', p, l, hns', hp, rfl⟩
  injection hns' with hn1 hns'
  subst hn1
  refine S_ ?_
  refine hQ1 _ _ (S_ ?_);clear hQ1 Q1
  refine n_ ?_
  refine wpM_regionK [6,7] rfl fun Q1 hQ1 => ?_
  refine SD_ ?_
  first | refine cg_ (fun hb => ichartOk_ok c hc) Tryz.call109 ?_ | refine cpD_ (ichartOk_ok c hc) Tryz.call109 ?_
  first | refine cg_ (fun hb => imrkOk_ok c k) Tryz.call110 ?_ | refine cpD_ (imrkOk_ok c k) Tryz.call110 ?_
  refine hQ1 _ _ (S_ ?_);clear hQ1 Q1
  refine wpM_ret ?_
  try refine S_ ?_
  rcases hp with ⟨hmo, rfl, rfl⟩ | ⟨hmo, rfl⟩
  · refine hQ _ _ (retK [B + 3] [] [(x, .cells 193 (ints m.flat))] rfl rfl rfl (by rw [Tryz.results63] <;> simp (maxSteps := 1000000) -implicitDefEqProofs (disch := omega) only [go_sem] <;> rfl) ?_ ⟨x, .ptr x 0, m.flat, rfl, fun _ => ⟨rfl, rfl⟩, .inl rfl, rfl⟩ ?_ ?_ ?_ ?_ ?_ ?_)
    all_goals (first | (simp -implicitDefEqProofs (disch := omega) only [go_sem, turnOk, hmo, List.nodup_cons, List.nodup_nil, true_or, or_true, List.mem_cons, List.not_mem_nil]; done) | (simp -implicitDefEqProofs (disch := omega) only [go_sem, turnOk, hmo, List.nodup_cons, List.nodup_nil, true_or, or_true, List.mem_cons, List.not_mem_nil]; omega))
  · refine hQ _ _ (retK [B + 3] [] [(x, .cells 193 (ints l))] rfl rfl rfl (by rw [Tryz.results63] <;> simp (maxSteps := 1000000) -implicitDefEqProofs (disch := omega) only [go_sem] <;> rfl) ?_ ⟨x, .nilp, l, rfl, (by rw [hmo]; intro h; cases h), .inr rfl, rfl⟩ ?_ ?_ ?_ ?_ ?_ ?_)
    all_goals (first | (simp -implicitDefEqProofs (disch := omega) only [go_sem, turnOk, hmo, List.nodup_cons, List.nodup_nil, true_or, or_true, List.mem_cons, List.not_mem_nil]; done) | (simp -implicitDefEqProofs (disch := omega) only [go_sem, turnOk, hmo, List.nodup_cons, List.nodup_nil, true_or, or_true, List.mem_cons, List.not_mem_nil]; omega))
def hasL (on : BitVec 64) (n : Nat) : List Bool := (List.range n).map on.getLsbD
@[go_sem] theorem hasL_len (on : BitVec 64) (n : Nat) : (hasL on n).length = n := by simp [hasL]
theorem hasL_succ (on : BitVec 64) (n : Nat) : hasL on (n + 1) = hasL on n ++ [on.getLsbD n] := by simp [hasL, List.range_succ]
theorem bls_app (l : List Bool) (b : Bool) : bls l ++ [.bool b] = bls (l ++ [b]) := by simp [bls]
def tobj (id : Nat) (on bg : BitVec 64) (kp : List Bool) : List (Nat × AObj) := [(id, .cells 106 (tcs on bg kp))]
@[go_sem] theorem tobj_eq (id : Nat) (on bg : BitVec 64) (kp : List Bool) : tobj id on bg kp = [(id, .cells 106 (tcs on bg kp))] := rfl
theorem marks_ok (id : Nat) (on bg : BitVec 64) (kp : List Bool) (n : Nat) (hk : kp.length = 6) (hn : 0 < n) (hn6 : n ≤ 6) : CallF Tryz.prog 128 [.ptr id 0, .int .i64 (n : Int)] (tobj id on bg kp) 0 (fun _ o => o = { rs := [.agg (⟨hasL on n, kp⟩ : Mrk).cs] }) := by
  refine callF_of' Tryz.func128 rfl Tryz.ntmps128 (by simp) ?_
  intro f0 B ns Q hB hns hQ
  have hid : id < B := hB id (by simp [hasKey, lk, tobj])
  obtain rfl : ns = [] := List.eq_nil_of_length_eq_zero hns
  refine g_ [0,1,4] ?_
  refine n_ ?_
  refine wpM_regionK [0,1,4,5] rfl fun Q1 hQ1 => ?_
  refine S_ ?_
  refine call_fn (l := tobj id on bg kp) (first := []) (cap := []) (ps := [.sl 4 id 2 6]) (cloneB_ok id 2 106 (tcs on bg kp) kp (by simp [tcs, hk, bls]) (by rw [tcs_eq]; exact bls_take6 kp hk)) Tryz.call157 rfl rfl rfl T_ T_ ?_
  rintro out ⟨x', hns', rfl⟩
  injection hns' with hn1 hns'
  subst hn1
  refine S_ ?_
  refine hQ1 _ _ (S_ ?_);clear hQ1 Q1
  refine g_ [0,4,5,13,14] ?_
  refine n_ ?_
  refine wpM_loopS (fun s r s' => (r = n ∧ s' = s) ∨ ∃ (i0 M0 y : Nat), 0 < i0 ∧ i0 + r = n ∧ s.M ≤ y ∧ y < M0 ∧ s' = { s with env := setE 14 (.int .i64 (i0 : Nat)) s.env, l := (y, .cells 4 (bls (hasL on i0))) :: setl (B + 2) (.cells 50 [.sl 4 y 0 i0, .sl 4 (B + 1) 0 6]) s.l, M := M0 }) (n) ?_ ?_
  ·
    refine .of' _ _ (.inl ⟨rfl, rfl⟩) ?_ ?_ ?_ <;> exact L_
  rintro r s' (⟨rfl, rfl⟩ | ⟨i0, M0, y, hi0, hir, hy, hyM, rfl⟩)
  ·
    try refine S_ ?_
    refine g_ [0,4,5,13,14,15] ?_
    refine c_ (fun hc0 => ?_) fun hc0 => ?_
    ·
      skip
      refine g_ [0,4,5,6,13,14] ?_
      refine dr_ mixed [0,4,5,13,14] 2 2 [B + 2, id, B + 3, B + 4] [⟨[5],[],[],[],false⟩,⟨[17],[0],[],[],false⟩,⟨[0],[],[],[],false⟩,⟨[19],[],[],[],false⟩,⟨[20],[],[],[],false⟩,⟨[21],[1],[],[],false⟩,⟨[6],[],[],[],false⟩,⟨[22,23],[],[],[],true⟩,⟨[24],[],[],[2],false⟩,⟨[18,25],[2],[],[3],false⟩,⟨[5],[],[],[],false⟩,⟨[26,27],[0],[0],[],false⟩] [0,1,2,3,4,5,6,7,8,9,10,11] [[],[0],[],[2],[2,3],[2,3,4],[],[2,3,4,5,6],[2,3,4,5,6,7],[0,1,2,3,4,5,6,7,8],[0,1,2,3,4,5,6,7,8,9],[0,1,2,3,4,5,6,7,8,9,10]] 4 (htbl := by simp; omega) (hnm := by simp) ?_
      intro O A K hO hA hK;simp only [atL_cons,atL_nil,Nat.reduceAdd,Nat.zero_add] at hO hA
      refine SO_ ?_
      refine lp_ (has_ok on 0 (by omega)) Tryz.call158 ?_
      refine hK _ (S_ ?_);clear hK K hO hA O A
      refine g_ [0,4,5,13,14] ?_
      have e1 : [PV.bool (on.getLsbD 0)] = bls (hasL on 1) := rfl
      rw [e1]
      refine .of' _ _ ⟨r - 1, by omega, .inr ⟨1, _, B + 4, by omega, by omega, by omega, ?_, rfl⟩⟩ ?_ ?_ ?_
      · first | omega | (simp -implicitDefEqProofs (disch := omega) only [go_sem]; done) | (simp -implicitDefEqProofs (disch := omega) only [go_sem]; omega)
      all_goals exact L_
    exfalso; omega
  dsimp only at hy
  try refine S_ ?_
  refine g_ [0,4,5,13,14,15] ?_
  refine c_ (fun hc0 => ?_) fun hc0 => ?_
  ·
    have e1 : bls (hasL on i0) ++ [PV.bool (on.getLsbD i0)] = bls (hasL on (i0 + 1)) := by rw [bls_app, ← hasL_succ]
    refine g_ [0,4,5,6,13,14] ?_
    refine dr_ mixed [0,4,5,13,14] 2 3 [B + 2, id, y, M0, M0 + 1] [⟨[5],[],[],[],false⟩,⟨[17],[0],[],[],false⟩,⟨[0],[],[],[],false⟩,⟨[19],[],[],[],false⟩,⟨[20],[],[],[],false⟩,⟨[21],[1],[],[],false⟩,⟨[6],[],[],[],false⟩,⟨[22,23],[],[],[],true⟩,⟨[24],[],[],[3],false⟩,⟨[18,25],[2,3],[2],[4],false⟩,⟨[5],[],[],[],false⟩,⟨[26,27],[0],[0],[],false⟩] [0,1,2,3,4,5,6,7,8,9,10,11] [[],[0],[],[2],[2,3],[2,3,4],[],[2,3,4,5,6],[2,3,4,5,6,7],[0,1,2,3,4,5,6,7,8],[0,1,2,3,4,5,6,7,8,9],[0,1,2,3,4,5,6,7,8,9,10]] 5 (htbl := by simp; omega) (hnm := by simp) ?_
    intro O A K hO hA hK;simp only [atL_cons,atL_nil,Nat.reduceAdd,Nat.zero_add] at hO hA
    refine SO_ ?_
    refine lp_ (has_ok on i0 (by omega)) Tryz.call158 ?_
    refine hK _ (S_ ?_);clear hK K hO hA O A
    refine g_ [0,4,5,13,14] ?_
    rw [e1]
    refine .of' _ _ ⟨r - 1, by omega, .inr ⟨i0 + 1, _, M0 + 1, by omega, by omega, by omega, ?_, rfl⟩⟩ ?_ ?_ ?_
    · first | omega | (simp -implicitDefEqProofs (disch := omega) only [go_sem]; done) | (simp -implicitDefEqProofs (disch := omega) only [go_sem]; omega)
    all_goals exact L_
  refine n_ ?_
  obtain rfl : i0 = n := by omega
  refine wpM_frz [y, B + 1] [(4, y, 0, i0, rowsB (hasL on i0)), (4, B + 1, 0, 6, rowsB kp)] (by intro q hq; simp at hq; rcases hq with rfl | rfl <;> simp -implicitDefEqProofs (disch := omega) only [go_sem]) (by
    intro q hq
    simp only [List.mem_cons, List.not_mem_nil, or_false] at hq
    rcases hq with rfl | rfl
    · exact ⟨by simp, rowsOf_bls' (T := 4) (hasL on i0) T_ (hasL_len on i0)⟩
    · exact ⟨by simp, rowsOf_bls' (T := 4) kp T_ (by simp [hk])⟩) ?_
  simp -implicitDefEqProofs (disch := omega) only [go_sem]
  refine g_ [4] ?_
  refine wpM_ret ?_
  try refine S_ ?_
  refine hQ _ _ (ret0 [] rfl rfl rfl (by rw [Tryz.results128] <;> simp (maxSteps := 1000000) -implicitDefEqProofs (disch := omega) only [go_sem] <;> rfl) rfl ?_ ?_ ?_ ?_)
  all_goals simp -implicitDefEqProofs (disch := omega) only [go_sem, true_or, or_true]
end Go.Proofs.YtnmfmeehmieifaaGreat
namespace Go.Proofs.YtnmfmeehmieifaaGreat
open Go Sg
set_option linter.unusedSectionVars false
variable [Glob]
set_option maxRecDepth 100000
set_option linter.unusedSimpArgs false
set_option linter.unusedVariables false
set_option maxHeartbeats 4000000
@[go_sem] theorem buildA_withActing : buildA Tryz.prog 221 [] = some (.agg []) := buildA_of (pl := []) (z := []) zeroA221 (placesA_struct Tryz.underlying221 rfl rfl) []
@[go_sem] theorem buildA_setActing : buildA Tryz.prog 222 [] = some (.agg []) := buildA_of (pl := []) (z := []) zeroA222 (placesA_struct Tryz.underlying222 rfl rfl) []
@[go_sem] theorem buildA_offActing : buildA Tryz.prog 223 [] = some (.agg []) := buildA_of (pl := []) (z := []) zeroA223 (placesA_struct Tryz.underlying223 rfl rfl) []
@[go_sem] theorem buildA_beginActing : buildA Tryz.prog 224 [] = some (.agg []) := buildA_of (pl := []) (z := []) zeroA224 (placesA_struct Tryz.underlying224 rfl rfl) []
def actL : List (PV × PV) := [(.int .i64 1, .iface 221 (.agg [])), (.int .i64 2, .iface 222 (.agg [])), (.int .i64 3, .iface 223 (.agg [])), (.int .i64 4, .iface 224 (.agg []))]
theorem actings_ok : CallF Tryz.prog 123 [] [] 1 (fun ns o => ∃ x, ns = [x] ∧ o = { rs := [.map x], nw := [(x, .map actL)] }) := by
  refine callF_of' Tryz.func123 rfl Tryz.ntmps123 (by simp) ?_
  intro f0 B ns Q hB hns hQ
  obtain ⟨x, rfl⟩ : ∃ x, ns = [x] := by
    match ns, hns with
    | [x], _ => exact ⟨x, rfl⟩
  refine g_ [] ?_
  refine g_ [0] ?_
  refine wpM_ret ?_
  try refine S_ ?_
  refine hQ _ _ (retK [B] [] [(x, .map actL)] rfl rfl rfl (by rw [Tryz.results123] <;> simp (maxSteps := 1000000) -implicitDefEqProofs (disch := omega) only [go_sem] <;> rfl) ?_ ⟨x, rfl, rfl⟩ ?_ ?_ ?_ ?_ ?_ ?_)
  all_goals (first | (simp -implicitDefEqProofs (disch := omega) only [go_sem, actL, List.nodup_cons, List.nodup_nil, true_or, or_true, List.mem_cons, List.not_mem_nil]; done) | (simp -implicitDefEqProofs (disch := omega) only [go_sem, actL, List.nodup_cons, List.nodup_nil, true_or, or_true, List.mem_cons, List.not_mem_nil]; rintro x (rfl | rfl | rfl | rfl) <;> simp [PV.ids, PV.idsL]))
def actO (k : Int) : PV := if k == 1 then .iface 221 (.agg []) else if k == 2 then .iface 222 (.agg []) else if k == 3 then .iface 223 (.agg []) else .iface 224 (.agg [])
@[go_sem] theorem find_act (k : Int) (h1 : 1 ≤ k) (h4 : k ≤ 4) : findA (.int .i64 k) actL = some (some (actO k)) := by
  have : k = 1 ∨ k = 2 ∨ k = 3 ∨ k = 4 := by omega
  rcases this with rfl | rfl | rfl | rfl <;> simp [findA, actL, actO]
def keepK (k : Int) (on : BitVec 64) (kp : List Bool) (a : GAct) : List Bool :=
  if k == 2 then kp.set a.to'.at'.toNat (kp.getD a.to'.at'.toNat false || on.getLsbD a.step.toNat) else if k == 3 then kp.set a.to'.at'.toNat (kp.getD a.to'.at'.toNat false && !on.getLsbD a.step.toNat) else kp
def drvK (k : Int) (on bg : BitVec 64) (a : GAct) : Bool := if k == 1 then on.getLsbD a.step.toNat else if k == 4 then bg.getLsbD a.step.toNat else false
def KeepF (f : Nat) (k : Int) : Prop := ∀ (id : Nat) (on bg : BitVec 64) (kp : List Bool) (a : GAct), kp.length = 6 → 0 ≤ a.step → (0 ≤ a.to'.at' ∧ a.to'.at' < 6) →
  CallF Tryz.prog f [.agg [], .ptr id 0, .agg a.cs] (tobj id on bg kp) 0 (fun _ o => o = { rs := [], u := [(id, some (.cells 106 (tcs on bg (keepK k on kp a))))] })
def DrvF (f : Nat) (k : Int) : Prop := ∀ (id : Nat) (on bg : BitVec 64) (kp : List Bool) (a : GAct), kp.length = 6 → 0 ≤ a.step →
  CallF Tryz.prog f [.agg [], .ptr id 0, .agg a.cs] (tobj id on bg kp) 0 (fun _ o => o = { rs := [.bool (drvK k on bg a)] })
theorem keep1_ok : KeepF 234 1 := by
  intro id on bg kp a hk hs ha
  refine callF_of' Tryz.func234 rfl Tryz.ntmps234 (by simp) ?_
  intro f0 B ns Q hB hns hQ
  have hid : id < B := hB id (by simp [hasKey, lk, tobj])
  obtain rfl : ns = [] := List.eq_nil_of_length_eq_zero hns
  refine g_ [] ?_
  refine hQ _ _ (ret0n [(id, some (.cells 106 (tcs on bg kp)))] rfl rfl rfl (by rw [Tryz.results234] <;> simp (maxSteps := 1000000) -implicitDefEqProofs (disch := omega) only [go_sem] <;> rfl) rfl ?_ ?_ ?_ ?_)
  all_goals simp -implicitDefEqProofs (disch := omega) only [go_sem, true_or, or_true]
theorem keep4_ok : KeepF 240 4 := by
  intro id on bg kp a hk hs ha
  refine callF_of' Tryz.func240 rfl Tryz.ntmps240 (by simp) ?_
  intro f0 B ns Q hB hns hQ
  have hid : id < B := hB id (by simp [hasKey, lk, tobj])
  obtain rfl : ns = [] := List.eq_nil_of_length_eq_zero hns
  refine g_ [] ?_
  refine hQ _ _ (ret0n [(id, some (.cells 106 (tcs on bg kp)))] rfl rfl rfl (by rw [Tryz.results240] <;> simp (maxSteps := 1000000) -implicitDefEqProofs (disch := omega) only [go_sem] <;> rfl) rfl ?_ ?_ ?_ ?_)
  all_goals simp -implicitDefEqProofs (disch := omega) only [go_sem, true_or, or_true]
theorem keep2_ok : KeepF 236 2 := by
  intro id on bg kp a hk hs ha
  refine callF_of' Tryz.func236 rfl Tryz.ntmps236 (by simp) ?_
  intro f0 B ns Q hB hns hQ
  have hid : id < B := hB id (by simp [hasKey, lk, tobj])
  obtain rfl : ns = [] := List.eq_nil_of_length_eq_zero hns
  refine g_ [1,5] ?_
  refine dr_ mixed [] 0 2 [B + 1, id] [⟨[1],[],[],[],false⟩,⟨[5],[],[],[],false⟩,⟨[7],[],[],[],false⟩,⟨[8],[0],[],[],false⟩,⟨[1],[],[],[],false⟩,⟨[5],[],[],[],false⟩,⟨[11],[],[],[],false⟩,⟨[12],[0],[],[],false⟩,⟨[10],[],[],[],false⟩,⟨[14],[],[],[],false⟩,⟨[13,15],[],[],[],false⟩,⟨[16],[1],[],[],false⟩,⟨[17],[],[],[],false⟩,⟨[1,18],[],[],[],false⟩,⟨[18,19],[],[],[],false⟩,⟨[18,20],[],[],[],false⟩,⟨[18,21],[1],[],[],false⟩,⟨[5,18],[],[],[],false⟩,⟨[18,23],[0],[],[],false⟩,⟨[18,22,24],[],[],[],true⟩,⟨[18,25],[],[],[],false⟩,⟨[6],[],[],[],false⟩,⟨[27],[],[],[],false⟩,⟨[9,28],[],[],[],false⟩,⟨[26,29],[1],[1],[],false⟩] [0,1,2,3,4,5,6,7,8,9,10,11,12,13,14,15,16,17,18,21,22,19,20,23,24] [[],[],[1],[1,2],[],[],[5],[5,6],[4],[4,8],[4,5,6,7,8,9],[4,5,6,7,8,9,10],[4,5,6,7,8,9,10,11],[4,5,6,7,8,9,10,11,12],[4,5,6,7,8,9,10,11,12,13],[4,5,6,7,8,9,10,11,12,13,14],[4,5,6,7,8,9,10,11,12,13,14,15],[4,5,6,7,8,9,10,11,12],[4,5,6,7,8,9,10,11,12,17],[4,5,6,7,8,9,10,11,12,13,14,15,16,17,18],[4,5,6,7,8,9,10,11,12,13,14,15,16,17,18,19],[0],[0,21],[0,1,2,3,4,5,6,7,8,9,10,11,12,13,14,15,16,17,18,19,20,21,22],[0,1,2,3,4,5,6,7,8,9,10,11,12,13,14,15,16,17,18,19,20,21,22,23]] 2 (htbl := by simp; omega) (hnm := by simp) ?_
  intro O A K hO hA hK;simp only [atL_cons,atL_nil,Nat.reduceAdd,Nat.zero_add] at hO hA
  refine SE_ ?_
  first | refine lg_ (fun hb => has_ok on a.step hs) Tryz.call158 ?_ | refine lpE_ (has_ok on a.step hs) Tryz.call158 ?_
  refine hK _ (S_ ?_);clear hK K hO hA O A
  refine hQ _ _ (ret0n [(id, some (.cells 106 (tcs on bg (kp.set a.to'.at'.toNat (kp.getD a.to'.at'.toNat false || on.getLsbD a.step.toNat)))))] rfl rfl rfl (by rw [Tryz.results236] <;> simp (maxSteps := 1000000) -implicitDefEqProofs (disch := omega) only [go_sem] <;> rfl) rfl ?_ ?_ ?_ ?_)
  all_goals simp -implicitDefEqProofs (disch := omega) only [go_sem, true_or, or_true]
theorem keep3_ok : KeepF 238 3 := by
  intro id on bg kp a hk hs ha
  refine callF_of' Tryz.func238 rfl Tryz.ntmps238 (by simp) ?_
  intro f0 B ns Q hB hns hQ
  have hid : id < B := hB id (by simp [hasKey, lk, tobj])
  obtain rfl : ns = [] := List.eq_nil_of_length_eq_zero hns
  refine g_ [1,5] ?_
  refine dr_ mixed [] 0 2 [B + 1, id] [⟨[1],[],[],[],false⟩,⟨[5],[],[],[],false⟩,⟨[7],[],[],[],false⟩,⟨[8],[0],[],[],false⟩,⟨[1],[],[],[],false⟩,⟨[5],[],[],[],false⟩,⟨[11],[],[],[],false⟩,⟨[12],[0],[],[],false⟩,⟨[10],[],[],[],false⟩,⟨[14],[],[],[],false⟩,⟨[13,15],[],[],[],false⟩,⟨[16],[1],[],[],false⟩,⟨[17],[],[],[],false⟩,⟨[1,18],[],[],[],false⟩,⟨[18,19],[],[],[],false⟩,⟨[18,20],[],[],[],false⟩,⟨[18,21],[1],[],[],false⟩,⟨[5,18],[],[],[],false⟩,⟨[18,23],[0],[],[],false⟩,⟨[18,22,24],[],[],[],true⟩,⟨[18,25],[],[],[],false⟩,⟨[18,26],[],[],[],false⟩,⟨[6],[],[],[],false⟩,⟨[28],[],[],[],false⟩,⟨[9,29],[],[],[],false⟩,⟨[27,30],[1],[1],[],false⟩] [0,1,2,3,4,5,6,7,8,9,10,11,12,13,14,15,16,17,18,22,23,19,20,21,24,25] [[],[],[1],[1,2],[],[],[5],[5,6],[4],[4,8],[4,5,6,7,8,9],[4,5,6,7,8,9,10],[4,5,6,7,8,9,10,11],[4,5,6,7,8,9,10,11,12],[4,5,6,7,8,9,10,11,12,13],[4,5,6,7,8,9,10,11,12,13,14],[4,5,6,7,8,9,10,11,12,13,14,15],[4,5,6,7,8,9,10,11,12],[4,5,6,7,8,9,10,11,12,17],[4,5,6,7,8,9,10,11,12,13,14,15,16,17,18],[4,5,6,7,8,9,10,11,12,13,14,15,16,17,18,19],[4,5,6,7,8,9,10,11,12,13,14,15,16,17,18,19,20],[0],[0,22],[0,1,2,3,4,5,6,7,8,9,10,11,12,13,14,15,16,17,18,19,20,21,22,23],[0,1,2,3,4,5,6,7,8,9,10,11,12,13,14,15,16,17,18,19,20,21,22,23,24]] 2 (htbl := by simp; omega) (hnm := by simp) ?_
  intro O A K hO hA hK;simp only [atL_cons,atL_nil,Nat.reduceAdd,Nat.zero_add] at hO hA
  refine SE_ ?_
  first | refine lg_ (fun hb => has_ok on a.step hs) Tryz.call158 ?_ | refine lpE_ (has_ok on a.step hs) Tryz.call158 ?_
  refine hK _ (S_ ?_);clear hK K hO hA O A
  refine hQ _ _ (ret0n [(id, some (.cells 106 (tcs on bg (kp.set a.to'.at'.toNat (kp.getD a.to'.at'.toNat false && !on.getLsbD a.step.toNat)))))] rfl rfl rfl (by rw [Tryz.results238] <;> simp (maxSteps := 1000000) -implicitDefEqProofs (disch := omega) only [go_sem] <;> rfl) rfl ?_ ?_ ?_ ?_)
  all_goals simp -implicitDefEqProofs (disch := omega) only [go_sem, true_or, or_true]
theorem drv1_ok : DrvF 233 1 := by
  intro id on bg kp a hk hs
  refine callF_of' Tryz.func233 rfl Tryz.ntmps233 (by simp) ?_
  intro f0 B ns Q hB hns hQ
  have hid : id < B := hB id (by simp [hasKey, lk, tobj])
  obtain rfl : ns = [] := List.eq_nil_of_length_eq_zero hns
  refine g_ [1,5] ?_
  refine n_ ?_
  refine dr_ mixed [6] 0 2 [B + 1, id] [⟨[1],[],[],[],false⟩,⟨[7],[],[],[],false⟩,⟨[8],[],[],[],false⟩,⟨[9],[1],[],[],false⟩,⟨[5],[],[],[],false⟩,⟨[11],[0],[],[],false⟩,⟨[10,12],[],[],[],true⟩,⟨[13],[],[],[],false⟩] [0,1,2,3,4,5,6,7] [[],[0],[0,1],[0,1,2],[],[4],[0,1,2,3,4,5],[0,1,2,3,4,5,6]] 2 (htbl := by simp; omega) (hnm := by simp) ?_
  intro O A K hO hA hK;simp only [atL_cons,atL_nil,Nat.reduceAdd,Nat.zero_add] at hO hA
  refine SO_ ?_
  refine lp_ (has_ok on a.step hs) Tryz.call158 ?_
  refine hK _ (S_ ?_);clear hK K hO hA O A
  refine wpM_ret ?_
  try refine S_ ?_
  refine hQ _ _ (ret0 [] rfl rfl rfl (by rw [Tryz.results233] <;> simp (maxSteps := 1000000) -implicitDefEqProofs (disch := omega) only [go_sem] <;> rfl) rfl ?_ ?_ ?_ ?_)
  all_goals simp -implicitDefEqProofs (disch := omega) only [go_sem, true_or, or_true]
theorem drv4_ok : DrvF 239 4 := by
  intro id on bg kp a hk hs
  refine callF_of' Tryz.func239 rfl Tryz.ntmps239 (by simp) ?_
  intro f0 B ns Q hB hns hQ
  have hid : id < B := hB id (by simp [hasKey, lk, tobj])
  obtain rfl : ns = [] := List.eq_nil_of_length_eq_zero hns
  refine g_ [1,5] ?_
  refine n_ ?_
  refine dr_ mixed [6] 0 2 [B + 1, id] [⟨[1],[],[],[],false⟩,⟨[7],[],[],[],false⟩,⟨[8],[],[],[],false⟩,⟨[9],[1],[],[],false⟩,⟨[5],[],[],[],false⟩,⟨[11],[0],[],[],false⟩,⟨[10,12],[],[],[],true⟩,⟨[13],[],[],[],false⟩] [0,1,2,3,4,5,6,7] [[],[0],[0,1],[0,1,2],[],[4],[0,1,2,3,4,5],[0,1,2,3,4,5,6]] 2 (htbl := by simp; omega) (hnm := by simp) ?_
  intro O A K hO hA hK;simp only [atL_cons,atL_nil,Nat.reduceAdd,Nat.zero_add] at hO hA
  refine SO_ ?_
  refine lp_ (has_ok bg a.step hs) Tryz.call158 ?_
  refine hK _ (S_ ?_);clear hK K hO hA O A
  refine wpM_ret ?_
  try refine S_ ?_
  refine hQ _ _ (ret0 [] rfl rfl rfl (by rw [Tryz.results239] <;> simp (maxSteps := 1000000) -implicitDefEqProofs (disch := omega) only [go_sem] <;> rfl) rfl ?_ ?_ ?_ ?_)
  all_goals simp -implicitDefEqProofs (disch := omega) only [go_sem, true_or, or_true]
theorem drv2_ok : DrvF 235 2 := by
  intro id on bg kp a hk hs
  refine callF_of' Tryz.func235 rfl Tryz.ntmps235 (by simp) ?_
  intro f0 B ns Q hB hns hQ
  have hid : id < B := hB id (by simp [hasKey, lk, tobj])
  obtain rfl : ns = [] := List.eq_nil_of_length_eq_zero hns
  refine g_ [] ?_
  refine g_ [6] ?_
  refine wpM_ret ?_
  try refine S_ ?_
  refine hQ _ _ (ret0 [] rfl rfl rfl (by rw [Tryz.results235] <;> simp (maxSteps := 1000000) -implicitDefEqProofs (disch := omega) only [go_sem] <;> rfl) rfl ?_ ?_ ?_ ?_)
  all_goals simp -implicitDefEqProofs (disch := omega) only [go_sem, true_or, or_true]
theorem drv3_ok : DrvF 237 3 := by
  intro id on bg kp a hk hs
  refine callF_of' Tryz.func237 rfl Tryz.ntmps237 (by simp) ?_
  intro f0 B ns Q hB hns hQ
  have hid : id < B := hB id (by simp [hasKey, lk, tobj])
  obtain rfl : ns = [] := List.eq_nil_of_length_eq_zero hns
  refine g_ [] ?_
  refine g_ [6] ?_
  refine wpM_ret ?_
  try refine S_ ?_
  refine hQ _ _ (ret0 [] rfl rfl rfl (by rw [Tryz.results237] <;> simp (maxSteps := 1000000) -implicitDefEqProofs (disch := omega) only [go_sem] <;> rfl) rfl ?_ ?_ ?_ ?_)
  all_goals simp -implicitDefEqProofs (disch := omega) only [go_sem, true_or, or_true]
theorem act_meth (k : Int) (h1 : 1 ≤ k) (h4 : k ≤ 4) : ∃ t fk fd, actO k = .iface t (.agg []) ∧
    (∀ args w, (callFunc fk args).run Tryz.prog w = .ok (.enter fk args) w) ∧ (∀ (v : Value) w, (method (Tryz.prog.types.size + Made.depth) t v "loop.example/stopgate/impl.keep").run Tryz.prog w = .ok (fk, v) w) ∧ KeepF fk k ∧
    (∀ args w, (callFunc fd args).run Tryz.prog w = .ok (.enter fd args) w) ∧ (∀ (v : Value) w, (method (Tryz.prog.types.size + Made.depth) t v "loop.example/stopgate/impl.drives").run Tryz.prog w = .ok (fd, v) w) ∧ DrvF fd k := by
  have : k = 1 ∨ k = 2 ∨ k = 3 ∨ k = 4 := by omega
  rcases this with rfl | rfl | rfl | rfl
  · exact ⟨221, 234, 233, rfl, Tryz.call234, method_run info221 Tryz.underlying221 (by simp) (by rfl) rfl rfl, keep1_ok, Tryz.call233, method_run info221 Tryz.underlying221 (by simp) (by rfl) rfl rfl, drv1_ok⟩
  · exact ⟨222, 236, 235, rfl, Tryz.call236, method_run info222 Tryz.underlying222 (by simp) (by rfl) rfl rfl, keep2_ok, Tryz.call235, method_run info222 Tryz.underlying222 (by simp) (by rfl) rfl rfl, drv2_ok⟩
  · exact ⟨223, 238, 237, rfl, Tryz.call238, method_run info223 Tryz.underlying223 (by simp) (by rfl) rfl rfl, keep3_ok, Tryz.call237, method_run info223 Tryz.underlying223 (by simp) (by rfl) rfl rfl, drv3_ok⟩
  · exact ⟨224, 240, 239, rfl, Tryz.call240, method_run info224 Tryz.underlying224 (by simp) (by rfl) rfl rfl, keep4_ok, Tryz.call239, method_run info224 Tryz.underlying224 (by simp) (by rfl) rfl rfl, drv4_ok⟩
end Go.Proofs.YtnmfmeehmieifaaGreat
namespace Go.Proofs.YtnmfmeehmieifaaGreat
open Go Sg
set_option linter.unusedSectionVars false
variable [Glob]
set_option maxRecDepth 100000
set_option linter.unusedSimpArgs false
set_option linter.unusedVariables false
set_option maxHeartbeats 4000000
def drives (on bg : BitVec 64) (a b : GAct) : Bool := b.to' == a.to' && drvK b.kind on bg b
def StepF (p q tid : Nat) (on bg : BitVec 64) (kp : List Bool) (a b : GAct) : Prop :=
  CallF Tryz.prog 125 [.agg b.cs, .ptr p 0, .ptr q 0] [(p, .cells 158 a.cs), (q, .cells 107 [.ptr tid 0]), (tid, .cells 106 (tcs on bg kp))] 0 (fun _ o => o = { rs := [.bool (drives on bg a b)] })
theorem AD.beq (a b : AD) : (a == b) = ((a.kind == b.kind) && (a.at' == b.at')) := by
  rw [Bool.eq_iff_iff, beq_iff_eq]
  cases a; cases b; simp
theorem step1_no (p q tid : Nat) (on bg : BitVec 64) (kp : List Bool) (a b : GAct) (hpq : p ≠ q) (hpt : p ≠ tid) (hqt : q ≠ tid) (h : (b.to' == a.to') = false) : StepF p q tid on bg kp a b := by
  have hd : drives on bg a b = false := by simp [drives, h]
  unfold StepF; rw [hd]
  rw [AD.beq] at h
  refine callF_of' Tryz.func125 rfl Tryz.ntmps125 (by simp) ?_
  intro f0 B ns Q hB hns hQ
  have hp : p < B := hB p (by simp [hasKey, lk])
  have hq : q < B := hB q (by simp [hasKey, lk, hpq])
  have ht : tid < B := hB tid (by simp [hasKey, lk, hpt, hqt])
  obtain rfl : ns = [] := List.eq_nil_of_length_eq_zero hns
  refine g_ [1,2,3] ?_
  refine n_ ?_
  refine dr_ mixed [4] 0 2 [B, p] [⟨[3],[],[],[],false⟩,⟨[5],[0],[],[],false⟩,⟨[1],[],[],[],false⟩,⟨[7],[1],[],[],false⟩,⟨[6,8],[],[],[],false⟩,⟨[9],[],[],[],false⟩,⟨[10],[],[],[],true⟩,⟨[3,10],[],[],[],false⟩,⟨[10,12],[0],[],[],false⟩,⟨[10,11,13],[],[],[],false⟩,⟨[2,10],[],[],[],false⟩,⟨[3,10],[0],[],[],false⟩,⟨[10,14,15,16],[],[],[],true⟩,⟨[10,17],[],[],[],false⟩,⟨[18],[],[],[],false⟩] [0,1,2,3,4,5,7,8,10,11,6,9,12,13,14] [[],[0],[],[2],[0,1,2,3],[0,1,2,3,4],[0,1,2,3,4,5],[0,1,2,3,4,5],[0,1,2,3,4,5,7],[0,1,2,3,4,5,6,7,8],[0,1,2,3,4,5],[0,1,2,3,4,5],[0,1,2,3,4,5,6,7,8,9,10,11],[0,1,2,3,4,5,6,7,8,9,10,11,12],[0,1,2,3,4,5,6,7,8,9,10,11,12,13]] 2 (htbl := by simp; omega) (hnm := by simp) ?_
  intro O A K hO hA hK;simp only [atL_cons,atL_nil,Nat.reduceAdd,Nat.zero_add] at hO hA
  simp -implicitDefEqProofs (disch := omega) only [go_sem, h, hO, hA]
  refine hK _ (S_ ?_);clear hK K hO hA O A
  refine wpM_ret ?_
  try refine S_ ?_
  refine hQ _ _ (ret0 [] rfl rfl rfl (by rw [Tryz.results125] <;> simp (maxSteps := 1000000) -implicitDefEqProofs (disch := omega) only [go_sem] <;> rfl) rfl ?_ ?_ ?_ ?_)
  all_goals simp -implicitDefEqProofs (disch := omega) only [go_sem, true_or, or_true]
theorem step1_yes (p q tid : Nat) (on bg : BitVec 64) (kp : List Bool) (a b : GAct) (hpq : p ≠ q) (hpt : p ≠ tid) (hqt : q ≠ tid) (hk : kp.length = 6) (hb : 0 ≤ b.step) (h1 : 1 ≤ b.kind) (h4 : b.kind ≤ 4) (h : (b.to' == a.to') = true) : StepF p q tid on bg kp a b := by
  have hd : drives on bg a b = drvK b.kind on bg b := by simp [drives, h]
  unfold StepF; rw [hd]
  rw [AD.beq] at h
  obtain ⟨t, fk, fd, hr, q1, q2, q3, q4, q5, q6⟩ := act_meth b.kind h1 h4
  refine callF_of' Tryz.func125 rfl Tryz.ntmps125 (by simp) ?_
  intro f0 B ns Q hB hns hQ
  have hp : p < B := hB p (by simp [hasKey, lk])
  have hq : q < B := hB q (by simp [hasKey, lk, hpq])
  have ht : tid < B := hB tid (by simp [hasKey, lk, hpt, hqt])
  obtain rfl : ns = [] := List.eq_nil_of_length_eq_zero hns
  refine g_ [1,2,3] ?_
  refine n_ ?_
  refine dr_ mixed [4] 1 4 [B, p, q, tid, B + 1] [⟨[3],[],[],[],false⟩,⟨[5],[0],[],[],false⟩,⟨[1],[],[],[],false⟩,⟨[7],[1],[],[],false⟩,⟨[6,8],[],[],[],false⟩,⟨[9],[],[],[],false⟩,⟨[10],[],[],[4],true⟩,⟨[3,10],[],[],[],false⟩,⟨[10,12],[0],[],[],false⟩,⟨[10,11,13],[4],[],[],false⟩,⟨[2,10],[2],[],[],false⟩,⟨[3,10],[0],[],[],false⟩,⟨[10,14,15,16],[3],[],[],true⟩,⟨[10,17],[],[],[],false⟩,⟨[18],[],[],[],false⟩] [0,1,2,3,4,5,7,8,10,11,6,9,12,13,14] [[],[0],[],[2],[0,1,2,3],[0,1,2,3,4],[0,1,2,3,4,5],[0,1,2,3,4,5],[0,1,2,3,4,5,7],[0,1,2,3,4,5,6,7,8],[0,1,2,3,4,5],[0,1,2,3,4,5],[0,1,2,3,4,5,6,7,8,9,10,11],[0,1,2,3,4,5,6,7,8,9,10,11,12],[0,1,2,3,4,5,6,7,8,9,10,11,12,13]] 5 (htbl := by simp; omega) (hnm := by simp) ?_
  intro O A K hO hA hK;simp only [atL_cons,atL_nil,Nat.reduceAdd,Nat.zero_add] at hO hA
  simp -implicitDefEqProofs (disch := omega) only [go_sem, h, hO, hA]
  refine loud_fn (first := []) (cap := []) (ps := []) (l := []) actings_ok Tryz.call123 rfl rfl F_ (fun i o h => by simp [lk] at h) rfl ?_
  rintro out ⟨x', hns', rfl⟩
  injection hns' with hn1 hns'
  subst hn1
  refine ⟨rfl, ?_⟩
  simp -implicitDefEqProofs (disch := omega) only [go_sem, h, hO, hA]
  refine loud_inv (l := tobj tid on bg kp) (ps := [.ptr tid 0, .agg b.cs]) (k := 0) (q6 tid on bg kp b hk hb) q4 q5 rfl (by simp -implicitDefEqProofs (disch := omega) only [go_sem, hr]) F_ (subG_spec T_) rfl ?_
  rintro out rfl
  refine ⟨rfl, ?_⟩
  simp -implicitDefEqProofs (disch := omega) only [go_sem, h, hO, hA]
  refine hK _ (S_ ?_);clear hK K hO hA O A
  refine wpM_ret ?_
  try refine S_ ?_
  refine hQ _ _ (ret0 [] rfl rfl rfl (by rw [Tryz.results125] <;> simp (maxSteps := 1000000) -implicitDefEqProofs (disch := omega) only [go_sem] <;> rfl) rfl ?_ ?_ ?_ ?_)
  all_goals simp -implicitDefEqProofs (disch := omega) only [go_sem, true_or, or_true]
theorem step1_ok (p q tid : Nat) (on bg : BitVec 64) (kp : List Bool) (a b : GAct) (hpq : p ≠ q) (hpt : p ≠ tid) (hqt : q ≠ tid) (hk : kp.length = 6) (hb : 0 ≤ b.step) (h1 : 1 ≤ b.kind) (h4 : b.kind ≤ 4) : StepF p q tid on bg kp a b := by
  cases h : (b.to' == a.to')
  · exact step1_no p q tid on bg kp a b hpq hpt hqt h
  · exact step1_yes p q tid on bg kp a b hpq hpt hqt hk hb h1 h4 h
theorem ifires_ok (c : Cht) (on : BitVec 64) (mid : Nat) (o : AObj) : CallF Tryz.prog 64 [.agg c.cs, .int .u64 (on.toNat : Int), .ptr mid 0] [(mid, o)] 3 (fun ns out => ∃ x y z, ns = [x, y, z] ∧ out = { rs := [.fn (.func 111) [] [.ptr x 0, .ptr y 0, .ptr z 0]], nw := [(x, .cells 48 c.cs), (y, .cells 103 [.int .u64 (on.toNat : Int)]), (z, .cells 96 [.ptr mid 0])] }) := by
  refine callF_of' Tryz.func64 rfl Tryz.ntmps64 (by simp) ?_
  intro f0 B ns Q hB hns hQ
  have hid : mid < B := hB mid (by simp [hasKey, lk])
  obtain ⟨x, y, z, rfl⟩ : ∃ x y z, ns = [x, y, z] := by
    match ns, hns with
    | [x, y, z], _ => exact ⟨x, y, z, rfl⟩
  refine g_ [3,4,5] ?_
  refine g_ [6] ?_
  refine wpM_ret ?_
  try refine S_ ?_
  refine hQ _ _ (retK [B, B + 1, B + 2] [] [(x, .cells 48 c.cs), (y, .cells 103 [.int .u64 (on.toNat : Int)]), (z, .cells 96 [.ptr mid 0])] rfl rfl rfl (by rw [Tryz.results64] <;> simp (maxSteps := 1000000) -implicitDefEqProofs (disch := omega) only [go_sem] <;> rfl) ?_ ⟨x, y, z, rfl, rfl⟩ ?_ ?_ ?_ ?_ ?_ ?_)
  all_goals (first | (simp -implicitDefEqProofs (disch := omega) only [go_sem, List.nodup_cons, List.nodup_nil, true_or, or_true, List.mem_cons, List.not_mem_nil]; done) | (simp -implicitDefEqProofs (disch := omega) only [go_sem, List.nodup_cons, List.nodup_nil, true_or, or_true, List.mem_cons, List.not_mem_nil]; omega))
end Go.Proofs.YtnmfmeehmieifaaGreat
namespace Go.Proofs.YtnmfmeehmieifaaGreat
open Go Sg
set_option linter.unusedSectionVars false
variable [Glob]
set_option maxRecDepth 100000
set_option linter.unusedSimpArgs false
set_option linter.unusedVariables false
set_option maxHeartbeats 4000000
def fgd (m : MM) (on used : BitVec 64) (t : Trn) : Bool := bitsL t.fr &&& ~~~on != 0#64 || bitsL t.fr &&& used != 0#64 || !(t.w.of m != 0)
def fI (m : MM) (on : BitVec 64) (c : Cht) (n : Nat) : BitVec 64 × List Nat := (List.range n).foldl (fun s i => if fgd m on s.1 (c.ts.getD i default) then s else (s.1 ||| bitsL (c.ts.getD i default).fr, s.2 ++ [i])) (0#64, [])
@[go_sem] theorem fI_zero (m : MM) (on : BitVec 64) (c : Cht) : fI m on c 0 = (0#64, []) := rfl
theorem fI_yes {m : MM} {on : BitVec 64} {c : Cht} {n : Nat} (h : fgd m on (fI m on c n).1 (c.ts.getD n default) = true) : fI m on c (n + 1) = fI m on c n := by
  rw [fI, List.range_succ, List.foldl_append]
  show (if fgd m on (fI m on c n).1 (c.ts.getD n default) = true then _ else _) = _
  rw [if_pos h]; rfl
theorem fI_no {m : MM} {on : BitVec 64} {c : Cht} {n : Nat} (h : fgd m on (fI m on c n).1 (c.ts.getD n default) = false) : fI m on c (n + 1) = ((fI m on c n).1 ||| bitsL (c.ts.getD n default).fr, (fI m on c n).2 ++ [n]) := by
  rw [fI, List.range_succ, List.foldl_append]
  show (if fgd m on (fI m on c n).1 (c.ts.getD n default) = true then _ else _) = _
  rw [if_neg (by rw [h]; simp)]; rfl
def bgI (c : Cht) (l : List Nat) : BitVec 64 := l.foldl (fun b i => b ||| bitsL (c.ts.getD i default).to') 0#64
@[go_sem] theorem bgI_nil (c : Cht) : bgI c [] = 0#64 := rfl
theorem bgI_app (c : Cht) (l : List Nat) (n : Nat) : bgI c (l ++ [n]) = bgI c l ||| bitsL (c.ts.getD n default).to' := by simp [bgI]
def kfold (k : Int) (on : BitVec 64) (kp : List Bool) (l : List GAct) : List Bool := l.foldl (fun kp a => if a.kind == k then keepK k on kp a else kp) kp
@[go_sem] theorem kfold_nil (k : Int) (on : BitVec 64) (kp : List Bool) : kfold k on kp [] = kp := rfl
theorem kfold_take (k : Int) (on : BitVec 64) (kp : List Bool) (l : List GAct) (i : Nat) (h : i < l.length) : kfold k on kp (l.take (i + 1)) = if (l.getD i default).kind == k then keepK k on (kfold k on kp (l.take i)) (l.getD i default) else kfold k on kp (l.take i) := by
  rw [List.take_succ_eq_append_getElem h, kfold, List.foldl_append]
  simp [List.getD, h, kfold]
theorem keepK_len (k : Int) (on : BitVec 64) (kp : List Bool) (a : GAct) : (keepK k on kp a).length = kp.length := by
  unfold keepK; split
  · simp
  · split <;> simp
theorem kfold_len (k : Int) (on : BitVec 64) (l : List GAct) : ∀ kp : List Bool, (kfold k on kp l).length = kp.length := by
  induction l with
  | nil => intro kp; rfl
  | cons a l ih =>
    intro kp
    show (kfold k on (if a.kind == k then keepK k on kp a else kp) l).length = _
    rw [ih]; split
    · rw [keepK_len]
    · rfl
def kAll (on : BitVec 64) (acts : List GAct) (kp : List Bool) (l : List Int) : List Bool := l.foldl (fun kp k => kfold k on kp acts) kp
@[go_sem] theorem kAll_nil (on : BitVec 64) (acts : List GAct) (kp : List Bool) : kAll on acts kp [] = kp := rfl
theorem kAll_take (on : BitVec 64) (acts : List GAct) (kp : List Bool) (l : List Int) (i : Nat) (h : i < l.length) : kAll on acts kp (l.take (i + 1)) = kfold (l.getD i 0) on (kAll on acts kp (l.take i)) acts := by
  rw [List.take_succ_eq_append_getElem h, kAll, List.foldl_append]
  simp [List.getD, h, kAll]
theorem kAll_len (on : BitVec 64) (acts : List GAct) (l : List Int) : ∀ kp : List Bool, (kAll on acts kp l).length = kp.length := by
  induction l with
  | nil => intro kp; rfl
  | cons a l ih => intro kp; show (kAll on acts (kfold a on kp acts) l).length = _; rw [ih, kfold_len]
def imstep (c : Cht) (kp : List Bool) (on bg : BitVec 64) (m : MM) (a : GAct) : MM := m.put a.to' (numIs (kp.getD a.to'.at'.toNat false || c.as'.any (drives on bg a)))
def imfold (c : Cht) (kp : List Bool) (on bg : BitVec 64) (m : MM) (l : List GAct) : MM := l.foldl (imstep c kp on bg) m
@[go_sem] theorem imfold_nil (c : Cht) (kp : List Bool) (on bg : BitVec 64) (m : MM) : imfold c kp on bg m [] = m := rfl
theorem imfold_take (c : Cht) (kp : List Bool) (on bg : BitVec 64) (m : MM) (l : List GAct) (i : Nat) (h : i < l.length) : imfold c kp on bg m (l.take (i + 1)) = imstep c kp on bg (imfold c kp on bg m (l.take i)) (l.getD i default) := by
  rw [List.take_succ_eq_append_getElem h, imfold, List.foldl_append]
  simp [List.getD, h, imfold]
theorem imfold_six (c : Cht) (kp : List Bool) (on bg : BitVec 64) (l : List GAct) : ∀ m : MM, m.Six → (imfold c kp on bg m l).Six := by
  induction l with
  | nil => intro m h; exact h
  | cons a l ih => intro m h; exact ih _ (MM.put_six h _ _)
theorem flat_put {m : MM} (hm : m.Six) {a : AD} (ha : a.ok = true) (h2 : a.kind = 2) (n : Int) : (m.put a n).flat = m.flat.set (pos a) (cut n) := by
  have hk : 1 ≤ a.kind ∧ a.kind ≤ 3 ∧ 0 ≤ a.at' ∧ a.at' < 6 := by simp only [AD.ok, Bool.and_eq_true, decide_eq_true_eq] at ha; omega
  have e1 := hm.i
  have e2 := hm.o
  rw [MM.put2 (by rw [h2]; rfl)]
  unfold MM.flat pos
  rw [h2]
  show m.i ++ (m.o.set a.at'.toNat (cut n) ++ m.v) = (m.i ++ (m.o ++ m.v)).set (1 * 6 + a.at'.toNat) (cut n)
  rw [List.set_append_right _ _ (by omega), List.set_append_left _ _ (by omega)]
  congr 3; omega
def istep (c : Cht) (k : Mrk) (m : MM) : Mrk × MM :=
  let on0 := onBits k.on
  let f := fI m on0 c c.ts.length
  let bg := bgI c f.2
  let on := on0 &&& ~~~f.1 ||| bg
  let kp := kAll on c.as' k.kept [2, 3]
  (⟨hasL on c.steps.toNat, kp⟩, imfold c kp on bg m c.as')
def GAct.Fine (a : GAct) : Prop := 1 ≤ a.kind ∧ a.kind ≤ 4 ∧ 0 ≤ a.step ∧ a.to'.ok = true ∧ a.to'.kind = 2 ∧ 0 ≤ a.to'.at' ∧ a.to'.at' < 6
theorem istep_ok (c : Cht) (k : Mrk) (m : MM) (mid : Nat) (hm : m.Six) (hc : c.Sm) (hk : k.kept.length = 6) (hg : c.Go k.on.length) (hn : 0 < k.on.length) (hf : ∀ i, i < c.as'.length → (c.as'.getD i default).Fine) :
    CallF Tryz.prog 75 [.agg c.cs, .agg k.cs, .ptr mid 0] (mobj mid m) 0 (fun _ o => o = { rs := [.agg (istep c k m).1.cs], u := [(mid, some (.cells 193 (ints (istep c k m).2.flat)))] }) := by
  have hts := hc.ts
  have has := hc.as'
  have hon6 := hg.n6
  have hst := hg.st
  have hst2 := hg.steps
  refine callF_ofM Tryz.func75 rfl Tryz.ntmps75 (by simp) ?_
  intro f0 B ns Q hB hns hQ
  have hid : mid < B := hB mid (by simp [hasKey, lk, mobj])
  obtain rfl : ns = [] := List.eq_nil_of_length_eq_zero hns
  obtain ⟨asg, body, hcode⟩ : ∃ asg body, Tryz.f75.body.map rfs = some [(asg, body)] := ⟨_, _, rfl⟩
  refine g_ [2,3,4,6,28] ?_
  refine n_ ?_
  refine wpM_regionK [2,3,6,7,28] rfl fun Q1 hQ1 => ?_
  refine S_ ?_
  refine call_fn (l := []) (first := []) (cap := []) (ps := [.agg k.cs]) (turnOf_ok k (by omega) hk) Tryz.call65 rfl rfl rfl T_ T_ ?_
  rintro out ⟨x', hns', rfl⟩
  injection hns' with hn1 hns'
  subst hn1
  refine S_ ?_
  refine hQ1 _ _ (S_ ?_);clear hQ1 Q1
  refine g_ [2,3,6,7,8,28] ?_
  refine n_ ?_
  refine dr_ mixed [2,3,6,7,8,26,28] 3 4 [B, B + 4, B + 3, mid, B + 6, B + 7, B + 8] [⟨[3],[0],[],[],false⟩,⟨[7],[1],[],[],false⟩,⟨[21],[],[],[],false⟩,⟨[22],[],[],[],false⟩,⟨[23],[2],[],[],false⟩,⟨[2],[],[],[],false⟩,⟨[20,24,25],[3],[],[4,5,6],true⟩] [0,1,2,3,4,5,6] [[],[],[1],[1,2],[1,2,3],[],[0,1,2,3,4,5]] 7 (htbl := by simp; omega) (hnm := by simp) ?_
  intro O A K hO hA hK;simp only [atL_cons,atL_nil,Nat.reduceAdd,Nat.zero_add] at hO hA
  refine SO_ ?_
  refine loud_fn (first := []) (cap := []) (ps := [.agg c.cs, .int .u64 ((onBits k.on).toNat : Int), .ptr mid 0]) (l := mobj mid m) (ifires_ok c (onBits k.on) mid _) Tryz.call64 rfl rfl F_ (subG_spec T_) rfl ?_
  rintro out ⟨x', y', z', hns', rfl⟩
  injection hns' with hn1 hns'
  injection hns' with hn2 hns'
  injection hns' with hn3 hns'
  subst hn1 hn2 hn3
  refine ⟨rfl, ?_⟩
  refine SO_ ?_
  refine hK _ (S_ ?_);clear hK K hO hA O A
  refine n_ ?_
  have hcode' := Option.some.inj hcode
  simp only [rfs, List.nil_append, List.append_nil, List.cons.injEq, Prod.mk.injEq, and_true] at hcode'
  obtain ⟨hasg, hbody⟩ := hcode'
  simp -implicitDefEqProofs (disch := omega) only [go_sem, Nat.add_assoc]
  refine wpM_code (c' := Code.rangeFunc (.tmp 26) #[27, 28] asg body) (by rw [← hasg, ← hbody]) ?_
  clear hasg hbody
  refine wpM_rangeFunc (first := []) (cap := [.ptr (B + 6) 0, .ptr (B + 7) 0, .ptr (B + 8) 0]) T_ Tryz.func111 rfl Tryz.ntmps111 (by simp) Tryz.call111 ?_
  intro fn b d
  refine g_ [0,1,2,3,5] ?_
  refine g_ [0,2,3,5,10,11,12] ?_
  refine n_ ?_
  refine wpM_loopS (fun s n s' => ∃ (i0 M0 : Nat) , i0 + n = c.ts.length ∧ s.M ≤ M0 ∧ (Tr i0) ∧ s' = { s with env := setE 5 (.int .u64 ((fI m (onBits k.on) c i0).1.toNat : Int)) (setE 12 (.int .i64 (i0 : Nat)) s.env), l := setl (B + 5) (.cells 103 [.int .u64 ((fI m (onBits k.on) c i0).1.toNat : Int)]) (setl (B + 3) (.cells 106 (tcs (onBits k.on) (bgI c (fI m (onBits k.on) c i0).2) k.kept)) s.l), M := M0 }) (c.ts.length) ?_ ?_
  ·
    refine .of' _ _ ⟨0, _, by omega, Nat.le_refl _, trivial, rfl⟩ ?_ ?_ ?_ <;> exact L_
  rintro n0 s' ⟨i0, M0, hi0, hM0, hv0, rfl⟩
  try dsimp only at hM0
  try refine S_ ?_
  refine g_ [0,2,3,5,10,11,12,13] ?_
  refine c_ (fun hc0 => ?_) fun hc0 => ?_
  ·
    have hl0 : i0 < c.ts.length := by omega
    have ht := hc.t i0 hl0
    have hgo := hg.t i0 hl0
    have htf := ht.fr
    have htt := ht.to'
    refine g_ [0,2,3,5,6,7,10,11,12] ?_
    refine n_ ?_
    refine wpM_regionK [0,2,3,5,6,7,8,10,11,12] rfl fun Q1 hQ1 => ?_
    refine S_ ?_
    refine cp_ (bitsOf_ok (c.ts.getD i0 default).fr htf (fun j hj => (hgo.fr j hj).1)) Tryz.call112 ?_
    refine hQ1 _ _ (S_ ?_);clear hQ1 Q1
    refine n_ ?_
    refine wpM_regionK [0,2,3,5,6,7,8,10,11,12,37] rfl fun Q1 hQ1 => ?_
    refine SD_ ?_
    refine callG_r (l := mobj mid m) (fun hb => reckon_ok m hm mid 6 (c.ts.getD i0 default).w hgo.w) (by refine subF_spec ?_; simp -implicitDefEqProofs (disch := omega) only [go_sem]) Tryz.call114 rfl rfl (fun hb => by simp -implicitDefEqProofs (disch := omega) only [go_sem]) (fun hb => by first | rfl | simp -implicitDefEqProofs (disch := omega) only [go_sem, hb, gd_of hb] | (simp -implicitDefEqProofs (disch := omega) only [go_sem, hb, gd_of hb]; rfl)) ?_
    refine SD_ ?_
    first | refine cg_ (fun hb => ion_ok ((c.ts.getD i0 default).w.of m)) Tryz.call113 ?_ | refine cpD_ (ion_ok ((c.ts.getD i0 default).w.of m)) Tryz.call113 ?_
    refine hQ1 _ _ (S_ ?_);clear hQ1 Q1
    refine c_ (fun hc1 => ?_) fun hc1 => ?_
    ·
      refine g_ [0,2,3,5,10,11,12] ?_
      first
      | (have hst := fI_yes (m := m) (on := onBits k.on) (c := c) (n := i0) hc1
         refine .of' _ _ ⟨n0 - 1, by omega, i0 + 1, _, by omega, ?_, trivial, rfl⟩ ?_ ?_ ?_
         · first | omega | (simp -implicitDefEqProofs (disch := omega) only [go_sem]; done) | (simp -implicitDefEqProofs (disch := omega) only [go_sem]; omega)
         all_goals (rw [hst]; exact L_))
      | (have hst := fI_no (m := m) (on := onBits k.on) (c := c) (n := i0) hc1
         refine .of' _ _ ⟨n0 - 1, by omega, i0 + 1, _, by omega, ?_, trivial, rfl⟩ ?_ ?_ ?_
         · first | omega | (simp -implicitDefEqProofs (disch := omega) only [go_sem]; done) | (simp -implicitDefEqProofs (disch := omega) only [go_sem]; omega)
         all_goals (rw [hst]; simp only [bgI_app]; exact L_))
    refine g_ [0,2,3,5,6,7,10,11,12] ?_
    refine n_ ?_
    refine wpM_regionK [0,2,3,5,10,11,12,45] rfl fun Q1 hQ1 => ?_
    refine S_ ?_
    refine OpM_roundK (B + 10) rfl rfl rfl rfl (by simp -implicitDefEqProofs (disch := omega) only [go_sem]; rfl) rfl rfl ?_
    intro K' hK'
    have hcode' := Option.some.inj hcode
    simp only [rfs, List.nil_append, List.append_nil, List.cons.injEq, Prod.mk.injEq, and_true] at hcode'
    obtain ⟨hasg, hbody⟩ := hcode'
    refine wpM_code hasg ?_
    clear hasg hbody
    simp -implicitDefEqProofs (disch := omega) only [go_sem]
    refine g_ [7,8,10] ?_
    refine ⟨d, none, fn, 115, [(2, .ptr mid 0), (3, .ptr B 0), (6, .ptr (B + 2) 0), (7, .ptr (B + 4) 0), (8, .ptr (B + 5) 0), (26, .fn (.func 111) [] [.ptr (B + 6) 0, .ptr (B + 7) 0, .ptr (B + 8) 0])], #[27, 28], asg, body, by simp -implicitDefEqProofs (disch := omega) only [go_sem], ?_⟩
    have hcode' := Option.some.inj hcode
    simp only [rfs, List.nil_append, List.append_nil, List.cons.injEq, Prod.mk.injEq, and_true] at hcode'
    obtain ⟨hasg, hbody⟩ := hcode'
    refine wpM_code hbody ?_
    clear hasg hbody
    refine n_ ?_
    refine dr_ mixed [7,10] 0 2 [B+5, M0+1] [⟨[8],[0],[],[],false⟩,⟨[10],[],[],[],false⟩,⟨[30],[1],[],[],false⟩,⟨[31],[],[],[],true⟩,⟨[29,32],[],[],[],false⟩,⟨[8,33],[0],[0],[],false⟩] [0,1,2,3,4,5] [[],[],[1],[1,2],[0,1,2,3],[0,1,2,3,4]] 2 (htbl := by simp; omega) (hnm := by simp) ?_
    intro O A K hO hA hK;simp only [atL_cons,atL_nil,Nat.reduceAdd,Nat.zero_add] at hO hA
    refine SO_ ?_
    refine lp_ (bitsOf_ok (c.ts.getD i0 default).fr htf (fun j hj => (hgo.fr j hj).1)) Tryz.call112 ?_
    refine hK _ (S_ ?_);clear hK K hO hA O A
    refine dr_ mixed [] 0 3 [B + 4, M0 + 1, B + 3] [⟨[7],[0],[],[],false⟩,⟨[34],[],[],[],false⟩,⟨[35],[],[],[],false⟩,⟨[36],[2],[],[],false⟩,⟨[10],[],[],[],false⟩,⟨[38],[1],[],[],false⟩,⟨[39],[],[],[],true⟩,⟨[37,40],[],[],[],false⟩,⟨[34],[],[],[],false⟩,⟨[42],[],[],[],false⟩,⟨[41,43],[2],[2],[],false⟩] [0,1,2,3,4,5,6,7,8,9,10] [[],[0],[0,1],[0,1,2],[],[4],[4,5],[0,1,2,3,4,5,6],[0,1,2,3,4,5,6,7],[0,1,2,3,4,5,6,7,8],[0,1,2,3,4,5,6,7,8,9]] 3 (htbl := by simp; omega) (hnm := by simp) ?_
    intro O A K hO hA hK;simp only [atL_cons,atL_nil,Nat.reduceAdd,Nat.zero_add] at hO hA
    refine SO_ ?_
    refine lp_ (bitsOf_ok (c.ts.getD i0 default).to' htt (fun j hj => (hgo.to' j hj).1)) Tryz.call112 ?_
    refine hK _ (S_ ?_);clear hK K hO hA O A
    refine ⟨d, .busy, none, fn, 115, [(2, .ptr mid 0), (3, .ptr B 0), (6, .ptr (B + 2) 0), (7, .ptr (B + 4) 0), (8, .ptr (B + 5) 0), (26, .fn (.func 111) [] [.ptr (B + 6) 0, .ptr (B + 7) 0, .ptr (B + 8) 0])], #[27, 28], asg, body, by simp -implicitDefEqProofs (disch := omega) only [go_sem], ?_⟩
    refine hK' _ ?_; clear hK' K'
    refine S_ ?_
    refine hQ1 _ _ (S_ ?_);clear hQ1 Q1
    refine c1_ ?_
    refine g_ [0,2,3,5,10,11,12] ?_
    first
    | (have hst := fI_yes (m := m) (on := onBits k.on) (c := c) (n := i0) hc1
       refine .of' _ _ ⟨n0 - 1, by omega, i0 + 1, _, by omega, ?_, trivial, rfl⟩ ?_ ?_ ?_
       · first | omega | (simp -implicitDefEqProofs (disch := omega) only [go_sem]; done) | (simp -implicitDefEqProofs (disch := omega) only [go_sem]; omega)
       all_goals (rw [hst]; exact L_))
    | (have hst := fI_no (m := m) (on := onBits k.on) (c := c) (n := i0) hc1
       refine .of' _ _ ⟨n0 - 1, by omega, i0 + 1, _, by omega, ?_, trivial, rfl⟩ ?_ ?_ ?_
       · first | omega | (simp -implicitDefEqProofs (disch := omega) only [go_sem]; done) | (simp -implicitDefEqProofs (disch := omega) only [go_sem]; omega)
       all_goals (rw [hst]; simp only [bgI_app]; exact L_))
  refine n_ ?_
  refine ⟨[], rfl, trivial, [], (by first | (rw [Tryz.results111]; done) | (rw [Tryz.results111]; simp -implicitDefEqProofs (disch := omega) only [go_sem])), ?_⟩
  refine ⟨d, .ready, none, fn, 115, [(2, .ptr mid 0), (3, .ptr B 0), (6, .ptr (B + 2) 0), (7, .ptr (B + 4) 0), (8, .ptr (B + 5) 0), (26, .fn (.func 111) [] [.ptr (B + 6) 0, .ptr (B + 7) 0, .ptr (B + 8) 0])], #[27, 28], asg, body, T_, (by simp), ?_⟩
  simp -implicitDefEqProofs (disch := omega) only [go_sem, Nat.add_assoc]
  have hie : i0 = c.ts.length := by omega
  rw [hie]
  generalize hF : fI m (onBits k.on) c c.ts.length = F
  generalize hG : bgI c F.2 = bg
  refine n_ ?_
  refine dr_ mixed [2,3,6,7] 0 3 [B + 4, B + 5, B + 3] [⟨[7],[0],[],[],false⟩,⟨[7],[0],[],[],false⟩,⟨[45],[],[],[],false⟩,⟨[46],[],[],[],false⟩,⟨[47],[2],[],[],false⟩,⟨[8],[1],[],[],false⟩,⟨[48,49],[],[],[],false⟩,⟨[7],[0],[],[],false⟩,⟨[51],[],[],[],false⟩,⟨[52],[],[],[],false⟩,⟨[53],[2],[],[],false⟩,⟨[50,54],[],[],[],false⟩,⟨[44],[],[],[],false⟩,⟨[56],[],[],[],false⟩,⟨[55,57],[2],[2],[],false⟩] [0,1,2,3,4,5,6,7,8,9,10,11,12,13,14] [[],[],[1],[1,2],[1,2,3],[],[1,2,3,4,5],[],[7],[7,8],[7,8,9],[1,2,3,4,5,6,7,8,9,10],[0,1,2,3,4,5,6,7,8,9,10,11],[0,1,2,3,4,5,6,7,8,9,10,11,12],[0,1,2,3,4,5,6,7,8,9,10,11,12,13]] 3 ?_
  intro O A K hO hA hK;simp only [atL_cons,atL_nil,Nat.reduceAdd,Nat.zero_add] at hO hA
  refine SO_ ?_
  refine hK _ (S_ ?_);clear hK K hO hA O A
  generalize hO : onBits k.on &&& ~~~F.1 ||| bg = on
  refine g_ [2,3,6,7,58,59,60] ?_
  rw [show [PV.int .i64 2, PV.int .i64 3] = ints [2, 3] from rfl]
  have hcs : c.steps = (k.on.length : Int) := by omega
  refine n_ ?_
  refine wpM_loopS (fun s n s' => ∃ (i0 M0 : Nat) , i0 + n = 2 ∧ s.M ≤ M0 ∧ (Tr i0) ∧ s' = { s with env := setE 60 (.int .i64 (i0 : Nat)) s.env, l := setl (B + 3) (.cells 106 (tcs on bg (kAll on c.as' k.kept (([2, 3] : List Int).take i0)))) s.l, M := M0 }) (2) ?_ ?_
  ·
    refine .of' _ _ ⟨0, _, by omega, Nat.le_refl _, trivial, rfl⟩ ?_ ?_ ?_ <;> exact L_
  rintro n0 s' ⟨i0, M0, hi0, hM0, hv0, rfl⟩
  try dsimp only at hM0
  try refine S_ ?_
  refine g_ [2,3,6,7,58,59,60,61] ?_
  refine c_ (fun hc0 => ?_) fun hc0 => ?_
  ·
    have hl0 : i0 < 2 := by omega
    have hkt0 := kAll_take on c.as' k.kept [2, 3] i0 hl0
    have hkd : 1 ≤ ([2, 3] : List Int).getD i0 0 ∧ ([2, 3] : List Int).getD i0 0 ≤ 4 := by
      have : i0 = 0 ∨ i0 = 1 := by omega
      rcases this with rfl | rfl <;> simp
    have hkp0 : (kAll on c.as' k.kept (([2, 3] : List Int).take i0)).length = 6 := by rw [kAll_len, hk]
    have hl2' : i0 < ([2, 3] : List Int).length := hl0
    refine g_ [2,3,6,7,12,58,59,60] ?_
    generalize hK : ([2, 3] : List Int).getD i0 0 = kd at *
    generalize hP : kAll on c.as' k.kept (([2, 3] : List Int).take i0) = kp at *
    refine g_ [2,3,6,7,12,58,59,60,65,66,67] ?_
    refine n_ ?_
    refine wpM_loopS (fun s n s' => ∃ (i1 M1 : Nat) , i1 + n = c.as'.length ∧ s.M ≤ M1 ∧ (Tr i1) ∧ s' = { s with env := setE 67 (.int .i64 (i1 : Nat)) s.env, l := setl (B + 3) (.cells 106 (tcs on bg (kfold kd on kp (c.as'.take i1)))) s.l, M := M1 }) (c.as'.length) ?_ ?_
    ·
      refine .of' _ _ ⟨0, _, by omega, Nat.le_refl _, trivial, rfl⟩ ?_ ?_ ?_ <;> exact L_
    rintro n1 s' ⟨i1, M1, hi1, hM1, hv1, rfl⟩
    try dsimp only at hM1
    try refine S_ ?_
    refine g_ [2,3,6,7,12,58,59,60,65,66,67,68] ?_
    refine c_ (fun hc1 => ?_) fun hc1 => ?_
    ·
      have hl1 : i1 < c.as'.length := by omega
      have hin := hf i1 hl1
      unfold GAct.Fine at hin
      have hkl : (kfold kd on kp (c.as'.take i1)).length = 6 := by rw [kfold_len, hkp0]
      have hkt := kfold_take kd on kp c.as' i1 hl1
      refine g_ [2,3,6,7,12,14,58,59,60,65,66,67] ?_
      refine g_ [2,3,6,7,12,14,58,59,60,65,66,67,74] ?_
      refine c_ (fun hc2 => ?_) fun hc2 => ?_
      ·
        obtain ⟨t, fk, fd, hr, q1, q2, q3, q4, q5, q6⟩ := act_meth kd hkd.1 hkd.2
        refine dr_ mixed [2,3,6,7,12,58,59,60,65,66,67] 1 3 [B + 4, M1, B + 3, M1 + 1] [⟨[],[],[],[3],true⟩,⟨[12],[],[],[],false⟩,⟨[75,76],[3],[],[],false⟩,⟨[7],[0],[],[],false⟩,⟨[14],[1],[],[],false⟩,⟨[77,78,79],[2],[2],[],true⟩] [1,3,4,0,2,5] [[],[],[0,1],[],[],[0,1,2,3,4]] 4 (htbl := by simp; omega) (hnm := by simp) ?_
        intro O A K hO hA hK;simp only [atL_cons,atL_nil,Nat.reduceAdd,Nat.zero_add] at hO hA
        refine SO_ ?_
        refine loud_fn (first := []) (cap := []) (ps := []) (l := []) actings_ok Tryz.call123 rfl rfl F_ (fun i o h => by simp [lk] at h) rfl ?_
        rintro out ⟨x', hns', rfl⟩
        injection hns' with hn1 hns'
        subst hn1
        refine ⟨rfl, ?_⟩
        refine SO_ ?_
        refine loud_inv (l := tobj (B + 3) on bg (kfold kd on kp (c.as'.take i1))) (ps := [.ptr (B + 3) 0, .agg (c.as'.getD i1 default).cs]) (k := 0) (q3 (B + 3) on bg _ (c.as'.getD i1 default) hkl hin.2.2.1 hin.2.2.2.2.2) q1 q2 rfl (by simp -implicitDefEqProofs (disch := omega) only [go_sem, hr]) F_ (subG_spec T_) rfl ?_
        rintro out rfl
        refine ⟨rfl, ?_⟩
        refine SO_ ?_
        refine hK _ (S_ ?_);clear hK K hO hA O A
        refine g_ [2,3,6,7,12,58,59,60,65,66,67] ?_
        first
        | (rw [hc2, if_pos rfl] at hkt; rw [← hkt])
        | (rw [hc2, if_neg (by simp)] at hkt; rw [← hkt])
        refine .of' _ _ ⟨n1 - 1, by omega, i1 + 1, _, by omega, M_, ?_, rfl⟩ L_ L_ L_
        first | trivial | omega
      refine g_ [2,3,6,7,12,58,59,60,65,66,67] ?_
      first
      | (rw [hc2, if_pos rfl] at hkt; rw [← hkt])
      | (rw [hc2, if_neg (by simp)] at hkt; rw [← hkt])
      refine .of' _ _ ⟨n1 - 1, by omega, i1 + 1, _, by omega, M_, ?_, rfl⟩ L_ L_ L_
      first | trivial | omega
    refine n_ ?_
    have hie1 : i1 = c.as'.length := by omega
    rw [hie1, List.take_of_length_le (Nat.le_refl _), ← hkt0]
    refine g_ [2,3,6,7,58,59,60] ?_
    refine .of' _ _ ⟨n0 - 1, by omega, i0 + 1, _, by omega, M_, ?_, rfl⟩ L_ L_ L_
    first | trivial | omega
  refine n_ ?_
  have hie0 : i0 = 2 := by omega
  have hkp2 : (kAll on c.as' k.kept (([2, 3] : List Int).take i0)).length = 6 := by rw [kAll_len, hk]
  have hkq : kAll on c.as' k.kept (([2, 3] : List Int).take i0) = kAll on c.as' k.kept [2, 3] := by rw [hie0]; rfl
  generalize hP2 : kAll on c.as' k.kept (([2, 3] : List Int).take i0) = kp2 at *
  refine g_ [2,3,6,7,84,85,86] ?_
  refine n_ ?_
  refine wpM_loopS (fun s n s' => ∃ (i2 M2 : Nat) , i2 + n = c.as'.length ∧ s.M ≤ M2 ∧ (Tr i2) ∧ s' = { s with env := setE 86 (.int .i64 (i2 : Nat)) s.env, l := setl mid (.cells 193 (ints (imfold c kp2 on bg m (c.as'.take i2)).flat)) s.l, M := M2 }) (c.as'.length) ?_ ?_
  ·
    refine .of' _ _ ⟨0, _, by omega, Nat.le_refl _, trivial, rfl⟩ ?_ ?_ ?_ <;> exact L_
  rintro n2 s' ⟨i2, M2, hi2, hM2, hv2, rfl⟩
  try dsimp only at hM2
  try refine S_ ?_
  refine g_ [2,3,6,7,84,85,86,87] ?_
  refine c_ (fun hc3 => ?_) fun hc3 => ?_
  ·
    have hl2 : i2 < c.as'.length := by omega
    have hin := hf i2 hl2
    unfold GAct.Fine at hin
    obtain ⟨g1, g2, g3, g4, g5, g6, g7⟩ := hin
    have hms : (imfold c kp2 on bg m (c.as'.take i2)).Six := imfold_six _ _ _ _ _ _ hm
    have hmt := imfold_take c kp2 on bg m c.as' i2 hl2
    generalize hM : imfold c kp2 on bg m (c.as'.take i2) = mm at *
    refine g_ [2,3,6,7,16,84,85,86] ?_
    refine n_ ?_
    refine dr_ mixed [2,3,6,7,16,17,84,85,86] 0 4 [B + 4, M2, B, B + 3] [⟨[7],[0],[],[],false⟩,⟨[16],[],[],[],false⟩,⟨[91],[],[],[],false⟩,⟨[92],[1],[],[],false⟩,⟨[90],[],[],[],false⟩,⟨[94],[],[],[],false⟩,⟨[93,95],[],[],[],false⟩,⟨[96],[3],[],[],false⟩,⟨[97],[],[],[],false⟩,⟨[3,98],[],[],[],false⟩,⟨[98,99],[2],[],[],false⟩,⟨[7,16,98],[],[],[],false⟩,⟨[98,100,101],[0,1,3],[],[],true⟩,⟨[98,102],[],[],[],false⟩,⟨[103],[],[],[],false⟩] [0,1,2,3,4,5,6,7,8,9,10,11,12,13,14] [[],[],[1],[1,2],[0],[0,4],[0,1,2,3,4,5],[0,1,2,3,4,5,6],[0,1,2,3,4,5,6,7],[0,1,2,3,4,5,6,7,8],[0,1,2,3,4,5,6,7,8,9],[0,1,2,3,4,5,6,7,8],[0,1,2,3,4,5,6,7,8,9,10,11],[0,1,2,3,4,5,6,7,8,9,10,11,12],[0,1,2,3,4,5,6,7,8,9,10,11,12,13]] 4 (htbl := by simp; omega) (hnm := by simp) ?_
    intro O A K hO hA hK;simp only [atL_cons,atL_nil,Nat.reduceAdd,Nat.zero_add] at hO hA
    refine SE_ ?_
    refine loudG_r (fun hb => hasA_ok c.as' 125 [.ptr M2 0, .ptr (B + 4) 0] (drives on bg (c.as'.getD i2 default)) [(M2, .cells 158 (c.as'.getD i2 default).cs), (B + 4, .cells 107 [.ptr (B + 3) 0]), (B + 3, .cells 106 (tcs on bg kp2))] has Tryz.call125 (fun j hj => by
      have hj2 := hf j hj
      unfold GAct.Fine at hj2
      exact step1_ok M2 (B + 4) (B + 3) on bg kp2 (c.as'.getD i2 default) (c.as'.getD j default) (by omega) (by omega) (by omega) hkp2 hj2.2.2.1 hj2.1 hj2.2.1)) (subG_spec T_) Tryz.call124 rfl (fun hb => by simp -implicitDefEqProofs (disch := omega) only [go_sem]) (fun hb => by first | rfl | simp -implicitDefEqProofs (disch := omega) only [go_sem, hb, gd_of hb] | (simp -implicitDefEqProofs (disch := omega) only [go_sem, hb, gd_of hb]; rfl)) rfl ?_
    refine SE_ ?_
    refine hK _ (S_ ?_);clear hK K hO hA O A
    refine dr_ mixed [2,3,6,7,84,85,86] 0 2 [M2, mid] [⟨[2],[],[],[],false⟩,⟨[16],[],[],[],false⟩,⟨[105],[0],[],[],false⟩,⟨[17],[],[],[],false⟩,⟨[107],[],[],[],true⟩,⟨[104,106,108],[1],[1],[],true⟩] [0,1,2,3,4,5] [[],[],[1],[],[3],[0,1,2,3,4]] 2 (htbl := by simp; omega) (hnm := by simp) ?_
    intro O A K hO hA hK;simp only [atL_cons,atL_nil,Nat.reduceAdd,Nat.zero_add] at hO hA
    refine SO_ ?_
    refine lp_ (iis_ok (kp2.getD (c.as'.getD i2 default).to'.at'.toNat false || c.as'.any (drives on bg (c.as'.getD i2 default)))) Tryz.call127 ?_
    refine loud_fn (first := []) (cap := []) (ps := [.ptr mid 0, .agg (c.as'.getD i2 default).to'.cs, .int .i64 (numIs (kp2.getD (c.as'.getD i2 default).to'.at'.toNat false || c.as'.any (drives on bg (c.as'.getD i2 default))))]) (l := [(mid, .cells 193 (ints mm.flat))]) (iput_ok mid mm.flat (c.as'.getD i2 default).to' (numIs (kp2.getD (c.as'.getD i2 default).to'.at'.toNat false || c.as'.any (drives on bg (c.as'.getD i2 default)))) g4 (by omega) (MM.flat_len hms)) Tryz.call126 rfl rfl F_ (subG_spec T_) rfl ?_
    rintro out rfl
    refine ⟨rfl, ?_⟩
    refine SO_ ?_
    refine hK _ (S_ ?_);clear hK K hO hA O A
    refine g_ [2,3,6,7,84,85,86] ?_
    rw [← flat_put hms g4 g5]
    change imfold c kp2 on bg m (c.as'.take (i2 + 1)) = mm.put (c.as'.getD i2 default).to' (numIs (kp2.getD (c.as'.getD i2 default).to'.at'.toNat false || c.as'.any (drives on bg (c.as'.getD i2 default)))) at hmt
    rw [← hmt]
    refine .of' _ _ ⟨n2 - 1, by omega, i2 + 1, _, by omega, M_, ?_, rfl⟩ L_ L_ L_
    first | trivial | omega
  refine n_ ?_
  have hie2 : i2 = c.as'.length := by omega
  rw [hie2, List.take_of_length_le (Nat.le_refl _)]
  refine wpM_regionK [6] rfl fun Q1 hQ1 => ?_
  refine S_ ?_
  refine call_rs (marks_ok (B + 3) on bg kp2 k.on.length hkp2 hn hon6) T_ Tryz.call128 rfl rfl rfl (by first | rfl | simp -implicitDefEqProofs (disch := omega) only [go_sem, hcs]) ?_
  refine S_ ?_
  refine hQ1 _ _ (S_ ?_);clear hQ1 Q1
  refine wpM_ret ?_
  try refine S_ ?_
  have hres : istep c k m = (⟨hasL on k.on.length, kp2⟩, imfold c kp2 on bg m c.as') := by
    rw [← hst2, hkq, ← hO, ← hG, ← hF]; rfl
  rw [hres] at hQ
  refine hQ _ _ ⟨[B + 9], rfl, ⟨⟨by simp (maxSteps := 1000000) -implicitDefEqProofs (disch := omega) only [go_sem], ⟨d, by simp (maxSteps := 1000000) -implicitDefEqProofs (disch := omega) only [go_sem]⟩, by simp⟩, trivial⟩, ret0 [(mid, some (.cells 193 (ints (imfold c kp2 on bg m c.as').flat)))] rfl rfl rfl (by rw [Tryz.results75] <;> simp (maxSteps := 1000000) -implicitDefEqProofs (disch := omega) only [go_sem] <;> rfl) rfl ?_ ?_ ?_ ?_⟩
  all_goals simp (maxSteps := 1000000) -implicitDefEqProofs (disch := omega) only [go_sem, true_or, or_true]
end Go.Proofs.YtnmfmeehmieifaaGreat
namespace Go.Proofs.YtnmfmeehmieifaaGreat
open Go Sg
set_option linter.unusedSectionVars false
variable [Glob]
set_option maxRecDepth 100000
theorem cht_iok (c : Cht) : c.iok = c.ok := by
  unfold Cht.iok Cht.ok
  have : (fun t : Trn => !(!plOk t.fr c.steps || !plOk t.to' c.steps || !(vis t.w 0 0).isSome)) = fun t => !t.bad c.steps := by
    funext t; rw [vis_ok]; rfl
  rw [this]
  split
  · rfl
  · congr 1
    rw [List.all_eq_not_any_not]; simp
end Go.Proofs.YtnmfmeehmieifaaGreat
namespace Go.Proofs.YtnmfmeehmieifaaGreat
open Go Sg
set_option linter.unusedSectionVars false
variable [Glob]
set_option maxRecDepth 100000
set_option linter.unusedSimpArgs false
set_option linter.unusedVariables false
set_option maxHeartbeats 4000000
theorem Cht.ok_fine {c : Cht} (h : c.ok = true) : ∀ i, i < c.as'.length → (c.as'.getD i default).Fine := by
  intro i hi
  unfold Cht.ok at h
  split at h
  · cases h
  · simp only [Bool.and_eq_true, List.all_eq_true] at h
    have hm : c.as'.getD i default ∈ c.as' := by rw [List.getD_eq_getElem?_getD, List.getElem?_eq_getElem hi]; exact List.getElem_mem hi
    have := h.2 _ hm
    simp only [GAct.bad, Bool.not_eq_true', Bool.or_eq_false_iff, Bool.not_eq_false', decide_eq_false_iff_not, bne_eq_false_iff_eq] at this
    obtain ⟨⟨⟨⟨⟨a0, a1⟩, a2⟩, a3⟩, a4⟩, a5⟩ := this
    have h6 := AD.ok_at a4
    exact ⟨by omega, by omega, by omega, a4, a5, h6.1, h6.2⟩
def ichtStep (c : Cht) (k : Mrk) (m : MM) : Mrk × MM := if turnOk c k m then istep c k m else (⟨[], []⟩, ⟨[], [], []⟩)
theorem istep_six {c : Cht} {k : Mrk} {m : MM} (hm : m.Six) : (istep c k m).2.Six := imfold_six _ _ _ _ _ _ hm
theorem turnOk_inv {c : Cht} {k : Mrk} {m : MM} (h : turnOk c k m = true) : m.ok = true ∧ c.ok = true ∧ (k.on.length : Int) = c.steps ∧ k.kept.length = 6 := by
  simp only [turnOk, Bool.and_eq_true, cht_iok, mrkOk, beq_iff_eq] at h
  exact ⟨h.1.1, h.1.2, h.2.1, by omega⟩
theorem ichtStep_ok (c : Cht) (k : Mrk) (m : MM) (hc : c.Sm) (hm : m.Sm) : PureF Tryz.prog 34 [.agg c.cs, .agg k.cs, .agg m.cs] [.agg (ichtStep c k m).1.cs, .agg (ichtStep c k m).2.cs] := by
  refine pureF_of Tryz.func34 rfl Tryz.ntmps34 (by simp) T_ ?_
  intro f0 B Q hQ
  refine g_ [3,4,5,6,7] ?_
  refine n_ ?_
  refine wpM_regionK [3,4,6,7,8,9] rfl fun Q1 hQ1 => ?_
  refine S_ ?_
  refine call_fn (l := []) (first := []) (cap := []) (ps := [.agg c.cs, .agg k.cs, .agg m.cs]) (readTurn_ok c k m hc hm) Tryz.call63 rfl rfl rfl G_ T_ ?_
  rintro out ⟨x', p, l, ⟨⟩, hp1, hp2, rfl⟩
  refine S_ ?_
  refine hQ1 _ _ (S_ ?_);clear hQ1 Q1
  refine g_ [3,4,6,7,8,19] ?_
  refine c_ (fun hc0 => ?_) fun hc0 => ?_
  ·
    refine g_ [6,7] ?_
    have hcs : ichtStep c k m = (⟨[], []⟩, ⟨[], [], []⟩) := by rw [ichtStep, if_neg]; intro hh; rw [hh] at hc0; cases hc0
    refine wpM_le [(6, .ptr (B + 3) 0), (7, .ptr (B + 4) 0)] [(B + 3, .cells 50 [.rows 4 [], .rows 4 []]), (B + 4, .cells 52 [.rows 3 [], .rows 3 [], .rows 3 []])] T_ T_ T_ ?_
    refine e_ Tryz.results34 ?_
    first
    | exact True.intro
    | rw [hcs]
      repeat' apply And.intro
      all_goals rfl
  have hok : turnOk c k m = true := by simpa using hc0
  have hcs : ichtStep c k m = istep c k m := by rw [ichtStep, if_pos hok]
  obtain ⟨hok1, hok2, hok3, hok4⟩ := turnOk_inv hok
  obtain ⟨rfl, rfl⟩ := hp1 hok1
  have hsix := MM.ok_six hok1
  have hst := Cht.ok_st hok2
  have hgo : c.Go k.on.length := by
    have := Cht.ok_Go hok2
    rwa [show c.steps.toNat = k.on.length by omega] at this
  have hs6 := istep_six (c := c) (k := k) hsix
  refine n_ ?_
  refine wpM_regionK [6,7,8,10] rfl fun Q1 hQ1 => ?_
  refine S_ ?_
  refine call_fn (l := mobj (B + 5) m) (first := []) (cap := []) (ps := [.agg c.cs, .agg k.cs, .ptr (B + 5) 0]) (istep_ok c k m (B + 5) hsix hc hok4 hgo (by omega) (Cht.ok_fine hok2)) Tryz.call75 rfl rfl rfl G_ T_ ?_
  rintro out rfl
  refine S_ ?_
  refine hQ1 _ _ (S_ ?_);clear hQ1 Q1
  generalize hS : istep c k m = S at *
  refine n_ ?_
  refine dr_ mixed [6,7] 3 4 [B + 6,B + 5,B + 3,B + 4,B + 7,B + 8,B + 9] [⟨[10],[0],[],[],false⟩,⟨[8],[],[],[],false⟩,⟨[27],[1],[],[4,5,6],true⟩,⟨[6,26],[2],[2],[],false⟩,⟨[7,28],[3],[3],[],false⟩] [0,1,2,3,4] [[],[],[1],[0,1,2],[0,1,2,3]] 7 ?_
  intro O A K hO hA hK;simp only [atL_cons,atL_nil,Nat.reduceAdd,Nat.zero_add] at hO hA
  refine SO_ ?_
  refine loud_fn (first := []) (cap := []) (ps := [.ptr (B + 5) 0]) (l := mobj (B + 5) S.2) (mem_ok S.2 hs6 (B + 5)) Tryz.call76 rfl rfl F_ (subG_spec T_) rfl ?_
  rintro out ⟨x2, y2, z2, ⟨⟩, rfl⟩
  refine ⟨rfl, ?_⟩
  refine SO_ ?_
  refine hK _ (S_ ?_);clear hK K hO hA O A
  refine wpM_frz [B + 7, B + 8, B + 9] (S.2.tb (B + 7) (B + 8) (B + 9)) (by intro q hq; simp at hq; rcases hq with rfl | rfl | rfl <;> simp -implicitDefEqProofs (disch := omega) only [go_sem]) (S.2.frz hs6 T_ T_ T_) ?_
  simp -implicitDefEqProofs (disch := omega) only [go_sem, MM.tb]
  refine e_ Tryz.results34 ?_
  first
  | exact True.intro
  | rw [hcs]
    repeat' apply And.intro
    all_goals rfl
end Go.Proofs.YtnmfmeehmieifaaGreat
namespace Go.Proofs.YtnmfmeehmieifaaGreat
open Go Sg
set_option linter.unusedSectionVars false
variable [Glob]
set_option linter.unusedSimpArgs false
set_option linter.unusedVariables false
theorem ext_getD {α : Type} (d : α) {a b : List α} (hl : a.length = b.length) (h : ∀ i, i < a.length → a.getD i d = b.getD i d) : a = b := by
  refine List.ext_getElem hl fun i h1 h2 => ?_
  have := h i h1
  rwa [List.getD_eq_getElem?_getD, List.getD_eq_getElem?_getD, List.getElem?_eq_getElem h1, List.getElem?_eq_getElem h2] at this
theorem getD_set {α : Type} (d : α) (l : List α) (i j : Nat) (v : α) (hi : i < l.length) : (l.set i v).getD j d = if i = j then v else l.getD j d := by
  simp only [List.getD_eq_getElem?_getD, List.getElem?_set]
  by_cases h : i = j
  · subst h; simp [hi]
  · simp [h]
theorem getD_mem {α : Type} [Inhabited α] {l : List α} {i : Nat} (h : i < l.length) : l.getD i default ∈ l := by
  rw [List.getD_eq_getElem?_getD, List.getElem?_eq_getElem h]; exact List.getElem_mem h
def hasN (l : List Int) (i : Nat) : Bool := l.any fun x => x.toNat == i
theorem hasN_cons (x : Int) (l : List Int) (i : Nat) : hasN (x :: l) i = (x.toNat == i || hasN l i) := rfl
theorem bit_one (n i : Nat) (hi : i < 64) : (1#64 <<< n).getLsbD i = (n == i) := by
  rw [BitVec.getLsbD_shiftLeft]
  by_cases h : n = i
  · subst h; simp [hi]
  · have : (n == i) = false := by simpa using h
    rw [this]
    by_cases h2 : i < n
    · simp [h2]
    · have : (1#64).getLsbD (i - n) = false := by
        rw [BitVec.getLsbD_one]; simp; omega
      simp [this]
theorem bitsL_get (l : List Int) (i : Nat) (hi : i < 64) : (bitsL l).getLsbD i = hasN l i := by
  have h : ∀ (l : List Int) (b : BitVec 64), (l.foldl (fun b n => b ||| (1#64 <<< n.toNat)) b).getLsbD i = (b.getLsbD i || hasN l i) := by
    intro l
    induction l with
    | nil => intro b; simp [hasN]
    | cons x l ih =>
      intro b
      rw [List.foldl_cons, ih, BitVec.getLsbD_or, bit_one _ _ hi]
      simp [hasN, Bool.or_assoc]
  rw [bitsL, h]; simp
theorem onBits_get (l : List Bool) (i : Nat) (hi : i < 64) : (onBits l).getLsbD i = l.getD i false := by
  have h : ∀ n, ((List.range n).foldl (fun b n => if l.getD n false then b ||| (1#64 <<< n) else b) 0#64).getLsbD i = (decide (i < n) && l.getD i false) := by
    intro n
    induction n with
    | zero => simp
    | succ n ih =>
      rw [List.range_succ, List.foldl_append, List.foldl_cons, List.foldl_nil]
      by_cases hn : n = i
      · subst hn
        split
        · rename_i h1; rw [BitVec.getLsbD_or, ih, bit_one _ _ hi]; simp; simpa using h1
        · rename_i h1; rw [ih]; simp at h1 ⊢; exact h1
      · have e : decide (i < n + 1) = decide (i < n) := by rw [decide_eq_decide]; omega
        rw [e]
        split
        · rw [BitVec.getLsbD_or, ih, bit_one _ _ hi]
          have : (n == i) = false := by simpa using hn
          rw [this, Bool.or_false]
        · exact ih
  rw [onBits, h]
  by_cases hl : i < l.length
  · simp [hl]
  · rw [List.getD_eq_getElem?_getD, List.getElem?_eq_none (by omega)]; simp
theorem clr_get (b : Bool) (l : List Int) (i : Nat) : ∀ f : List Bool, (∀ x ∈ l, x.toNat < f.length) → (clr b f l).getD i false = if hasN l i then b else f.getD i false := by
  induction l with
  | nil => intro f _; simp [clr, hasN]
  | cons x l ih =>
    intro f hf
    have h1 : x.toNat < f.length := hf x (by simp)
    rw [clr, List.foldl_cons]
    show (clr b (f.set x.toNat b) l).getD i false = _
    rw [ih _ (fun y hy => by rw [List.length_set]; exact hf y (by simp [hy])), getD_set _ _ _ _ _ h1]
    rw [hasN_cons]
    by_cases h2 : x.toNat = i
    · simp [h2]
    · have : (x.toNat == i) = false := by simpa using h2
      simp [this, h2]
def hasT (pl : Trn → List Int) (ts : List Trn) (i : Nat) : Bool := ts.any fun t => hasN (pl t) i
theorem hasT_cons (pl : Trn → List Int) (t : Trn) (ts : List Trn) (i : Nat) : hasT pl (t :: ts) i = (hasN (pl t) i || hasT pl ts i) := rfl
def spreadT (b : Bool) (pl : Trn → List Int) (f : List Bool) (ts : List Trn) : List Bool := ts.foldl (fun f t => clr b f (pl t)) f
theorem spreadT_len (b : Bool) (pl : Trn → List Int) (ts : List Trn) : ∀ f : List Bool, (spreadT b pl f ts).length = f.length := by
  induction ts with
  | nil => intro f; rfl
  | cons t ts ih => intro f; rw [spreadT, List.foldl_cons]; show (spreadT b pl (clr b f (pl t)) ts).length = _; rw [ih, clr_len]
theorem spreadT_get (b : Bool) (pl : Trn → List Int) (ts : List Trn) (i : Nat) : ∀ f : List Bool, (∀ t ∈ ts, ∀ x ∈ pl t, x.toNat < f.length) → (spreadT b pl f ts).getD i false = if hasT pl ts i then b else f.getD i false := by
  induction ts with
  | nil => intro f _; simp [spreadT, hasT]
  | cons t ts ih =>
    intro f hf
    rw [spreadT, List.foldl_cons]
    show (spreadT b pl (clr b f (pl t)) ts).getD i false = _
    rw [ih _ (fun u hu x hx => by rw [clr_len]; exact hf u (by simp [hu]) x hx), clr_get _ _ _ _ (hf t (by simp))]
    rw [hasT_cons]
    cases hasN (pl t) i <;> cases hasT pl ts i <;> simp
def wayAt (c : Cht) (i : Int) : Trn := c.ts.getD i.toNat default
theorem spread_eq (b : Bool) (pl : Trn → List Int) (c : Cht) (fs : List Int) : ∀ f : List Bool, spread b pl c f fs = spreadT b pl f (fs.map (wayAt c)) := by
  induction fs with
  | nil => intro f; rfl
  | cons i fs ih => intro f; rw [spread, List.foldl_cons]; exact ih _
def tfires (m : MM) (on : List Bool) (ts : List Trn) : List Bool × List Trn := ts.foldl (fun st t => if !allOn st.1 t.fr || !(t.w.of m != 0) then st else (clr false st.1 t.fr, st.2 ++ [t])) (on, [])
theorem tfires_app (m : MM) (on : List Bool) (ts : List Trn) (t : Trn) : tfires m on (ts ++ [t]) = (if !allOn (tfires m on ts).1 t.fr || !(t.w.of m != 0) then tfires m on ts else (clr false (tfires m on ts).1 t.fr, (tfires m on ts).2 ++ [t])) := by
  simp [tfires]
theorem fpre_t (m : MM) (c : Cht) (on : List Bool) (n : Nat) (hn : n ≤ c.ts.length) : (fpre m c on n).1 = (tfires m on (c.ts.take n)).1 ∧ (fpre m c on n).2.map (wayAt c) = (tfires m on (c.ts.take n)).2 := by
  induction n with
  | zero => exact ⟨rfl, rfl⟩
  | succ n ih =>
    obtain ⟨h1, h2⟩ := ih (by omega)
    have ht : c.ts.take (n + 1) = c.ts.take n ++ [c.ts.getD n default] := by
      rw [List.take_succ_eq_append_getElem (by omega)]; simp [List.getD, show n < c.ts.length by omega]
    rw [ht, tfires_app, fpre_succ, fstep, ← h1]
    split
    · exact ⟨h1, h2⟩
    · exact ⟨rfl, by rw [List.map_append, h2]; rfl⟩
theorem fires_t (m : MM) (c : Cht) (on : List Bool) : (fires m c on).map (wayAt c) = (tfires m on c.ts).2 := by
  have := (fpre_t m c on c.ts.length (Nat.le_refl _)).2
  rwa [List.take_length] at this
theorem tfires_mem (m : MM) (on : List Bool) (ts : List Trn) : ∀ t ∈ (tfires m on ts).2, t ∈ ts := by
  have h : ∀ n, ∀ t ∈ (tfires m on (ts.take n)).2, t ∈ ts := by
    intro n
    induction n with
    | zero => intro t ht; simp [tfires] at ht
    | succ n ih =>
      by_cases hn : n < ts.length
      · have ht : ts.take (n + 1) = ts.take n ++ [ts[n]] := List.take_succ_eq_append_getElem hn
        intro t h1
        rw [ht, tfires_app] at h1
        split at h1
        · exact ih t h1
        · rcases List.mem_append.1 h1 with h1 | h1
          · exact ih t h1
          · rw [List.mem_singleton.1 h1]; exact List.getElem_mem hn
      · rw [List.take_of_length_le (by omega)]
        rw [List.take_of_length_le (by omega)] at ih
        exact ih
  have := h ts.length
  rwa [List.take_length] at this
def Places (n : Nat) (l : List Int) : Prop := ∀ x ∈ l, 0 ≤ x ∧ x < (n : Int)
theorem places_of {n : Nat} {l : List Int} (h : ∀ i, i < l.length → 0 ≤ l.getD i 0 ∧ l.getD i 0 < (n : Int)) : Places n l := by
  intro x hx
  obtain ⟨i, hi, rfl⟩ := List.getElem_of_mem hx
  have := h i hi
  rwa [List.getD_eq_getElem?_getD, List.getElem?_eq_getElem hi] at this
theorem Cht.Go.pl {c : Cht} {n : Nat} (h : c.Go n) : ∀ t ∈ c.ts, Places n t.fr ∧ Places n t.to' := by
  intro t ht
  obtain ⟨i, hi, rfl⟩ := List.getElem_of_mem ht
  have := h.t i hi
  rw [List.getD_eq_getElem?_getD, List.getElem?_eq_getElem hi] at this
  exact ⟨places_of this.fr, places_of this.to'⟩
theorem hasN_lt {n : Nat} {l : List Int} (h : Places n l) {i : Nat} (hi : hasN l i = true) : i < n := by
  simp only [hasN, List.any_eq_true, beq_iff_eq] at hi
  obtain ⟨x, hx, rfl⟩ := hi
  have := h x hx; omega
theorem allOn_all {n : Nat} {l : List Int} (h : Places n l) (on : List Bool) : allOn on l = true ↔ ∀ i, i < n → hasN l i = true → on.getD i false = true := by
  simp only [allOn, List.all_eq_true]
  constructor
  · intro h1 i _ h2
    simp only [hasN, List.any_eq_true, beq_iff_eq] at h2
    obtain ⟨x, hx, rfl⟩ := h2
    exact h1 x hx
  · intro h1 x hx
    have := h x hx
    exact h1 x.toNat (by omega) (by simp only [hasN, List.any_eq_true, beq_iff_eq]; exact ⟨x, hx, rfl⟩)
theorem bv_zero (b : BitVec 64) : (b != 0#64) = false ↔ ∀ i, i < 64 → b.getLsbD i = false := by
  simp only [bne_eq_false_iff_eq]
  constructor
  · rintro rfl i _; simp
  · intro h
    exact BitVec.eq_of_getLsbD_eq fun i hi => by rw [h i hi]; simp
end Go.Proofs.YtnmfmeehmieifaaGreat
namespace Go.Proofs.YtnmfmeehmieifaaGreat
open Go Sg
set_option linter.unusedSectionVars false
variable [Glob]
set_option linter.unusedSimpArgs false
set_option linter.unusedVariables false
theorem fgd_eq {n : Nat} (hn : n ≤ 64) (m : MM) (on free : List Bool) (used : BitVec 64) (t : Trn) (hp : Places n t.fr) (hf : ∀ i, i < n → free.getD i false = (on.getD i false && !used.getLsbD i)) :
    fgd m (onBits on) used t = (!allOn free t.fr || !(t.w.of m != 0)) := by
  unfold fgd
  congr 1
  have h1 : ((bitsL t.fr &&& ~~~onBits on != 0#64) || (bitsL t.fr &&& used != 0#64)) = false ↔ allOn free t.fr = true := by
    rw [Bool.or_eq_false_iff, bv_zero, bv_zero, allOn_all hp]
    constructor
    · rintro ⟨h1, h2⟩ i hi h3
      have a1 := h1 i (by omega)
      have a2 := h2 i (by omega)
      rw [BitVec.getLsbD_and, bitsL_get _ _ (by omega), h3, Bool.true_and] at a1 a2
      rw [BitVec.getLsbD_not, onBits_get _ _ (by omega)] at a1
      rw [hf i hi, a2]
      have : decide (i < 64) = true := by simp; omega
      rw [this, Bool.true_and] at a1
      simpa using a1
    · intro h
      refine ⟨fun i hi => ?_, fun i hi => ?_⟩
      · rw [BitVec.getLsbD_and, bitsL_get _ _ hi]
        cases h3 : hasN t.fr i with
        | false => rfl
        | true =>
          have := h i (hasN_lt hp h3) h3
          rw [hf i (hasN_lt hp h3), Bool.and_eq_true] at this
          rw [BitVec.getLsbD_not, onBits_get _ _ hi, this.1]; simp
      · rw [BitVec.getLsbD_and, bitsL_get _ _ hi]
        cases h3 : hasN t.fr i with
        | false => rfl
        | true =>
          have := h i (hasN_lt hp h3) h3
          rw [hf i (hasN_lt hp h3), Bool.and_eq_true] at this
          simpa using this.2
  cases h2 : allOn free t.fr with
  | true => rw [h1.2 h2]; rfl
  | false =>
    cases h3 : ((bitsL t.fr &&& ~~~onBits on != 0#64) || (bitsL t.fr &&& used != 0#64)) with
    | true => rfl
    | false => rw [h1.1 h3] at h2; cases h2
def wayN (c : Cht) (i : Nat) : Trn := c.ts.getD i default
theorem hasT_app (pl : Trn → List Int) (a b : List Trn) (i : Nat) : hasT pl (a ++ b) i = (hasT pl a i || hasT pl b i) := by simp [hasT]
theorem fI_t {N : Nat} (hN : N ≤ 64) (m : MM) (c : Cht) (on : List Bool) (hon : on.length = N) (hp : ∀ t ∈ c.ts, Places N t.fr ∧ Places N t.to') (n : Nat) (hn : n ≤ c.ts.length) :
    (fI m (onBits on) c n).2.map (fun (i : Nat) => (i : Int)) = (fpre m c on n).2 ∧ (∀ i, i < 64 → (fI m (onBits on) c n).1.getLsbD i = hasT Trn.fr ((fI m (onBits on) c n).2.map (wayN c)) i) ∧
      (∀ i, i < N → (fpre m c on n).1.getD i false = (on.getD i false && !(fI m (onBits on) c n).1.getLsbD i)) := by
  induction n with
  | zero => exact ⟨rfl, fun i _ => by simp [fI, hasT], fun i _ => by simp [fI, fpre]⟩
  | succ n ih =>
    obtain ⟨h1, h2, h3⟩ := ih (by omega)
    have hmem : c.ts.getD n default ∈ c.ts := getD_mem (by omega)
    have hg := fgd_eq hN m on (fpre m c on n).1 (fI m (onBits on) c n).1 (c.ts.getD n default) (hp _ hmem).1 h3
    cases hc : fgd m (onBits on) (fI m (onBits on) c n).1 (c.ts.getD n default) with
    | true =>
      rw [fI_yes hc, fpre_succ, fstep, if_pos (by rw [← hg]; exact hc)]
      exact ⟨h1, h2, h3⟩
    | false =>
      rw [fI_no hc, fpre_succ, fstep, if_neg (by rw [← hg, hc]; simp)]
      refine ⟨by rw [List.map_append, h1]; rfl, fun i hi => ?_, fun i hi => ?_⟩
      · show ((fI m (onBits on) c n).1 ||| bitsL (c.ts.getD n default).fr).getLsbD i = hasT Trn.fr (((fI m (onBits on) c n).2 ++ [n]).map (wayN c)) i
        rw [BitVec.getLsbD_or, h2 i hi, bitsL_get _ _ hi, List.map_append, hasT_app]
        show _ = (_ || hasT Trn.fr [wayN c n] i)
        simp [hasT, wayN]
      · show (clr false (fpre m c on n).1 (c.ts.getD n default).fr).getD i false = (on.getD i false && !((fI m (onBits on) c n).1 ||| bitsL (c.ts.getD n default).fr).getLsbD i)
        have hlen := (fpre_len m c on n).1
        rw [clr_get _ _ _ _ (fun x hx => by have := (hp _ hmem).1 x hx; rw [hlen]; omega), h3 i hi, BitVec.getLsbD_or, bitsL_get _ _ (by omega)]
        cases hasN (c.ts.getD n default).fr i <;> simp
theorem bgI_get (c : Cht) (l : List Nat) (i : Nat) (hi : i < 64) : (bgI c l).getLsbD i = hasT Trn.to' (l.map (wayN c)) i := by
  have h : ∀ (l : List Nat) (b : BitVec 64), (l.foldl (fun b j => b ||| bitsL (c.ts.getD j default).to') b).getLsbD i = (b.getLsbD i || hasT Trn.to' (l.map (wayN c)) i) := by
    intro l
    induction l with
    | nil => intro b; simp [hasT]
    | cons j l ih =>
      intro b
      rw [List.foldl_cons, ih, BitVec.getLsbD_or, bitsL_get _ _ hi, List.map_cons, hasT_cons, Bool.or_assoc]; rfl
  rw [bgI, h]; simp
theorem kfold_kset {N : Nat} (hN : N ≤ 64) (v : Bool) (kk : Int) (hkk : kk = 2 ∧ v = true ∨ kk = 3 ∧ v = false) (on : BitVec 64) (onL : List Bool) (hon : ∀ i, i < N → onL.getD i false = on.getLsbD i) (l : List GAct) : ∀ f : List Bool, (∀ a ∈ l, a.to'.at'.toNat < f.length ∧ 0 ≤ a.step ∧ a.step < (N : Int)) →
    kfold kk on f l = kset v kk onL f l := by
  induction l with
  | nil => intro f _; rfl
  | cons a l ih =>
    intro f hf
    obtain ⟨h1, h2, h3⟩ := hf a (by simp)
    have hb := hon a.step.toNat (by omega)
    have hst : (if a.kind == kk then keepK kk on f a else f) = (if a.kind == kk && onL.getD a.step.toNat false then f.set a.to'.at'.toNat v else f) := by
      cases hk : a.kind == kk with
      | false => simp
      | true =>
        have hself : f.set a.to'.at'.toNat (f.getD a.to'.at'.toNat false) = f := by
          rw [List.getD_eq_getElem?_getD, List.getElem?_eq_getElem h1]; simp
        simp only [if_true, Bool.true_and]
        rw [hb]
        rcases hkk with ⟨rfl, rfl⟩ | ⟨rfl, rfl⟩
        · unfold keepK
          cases on.getLsbD a.step.toNat with
          | true => simp
          | false => simp only [beq_self_eq_true, if_true, Bool.or_false, Bool.false_eq_true, if_false]; exact hself
        · unfold keepK
          cases on.getLsbD a.step.toNat with
          | true => simp
          | false => simp only [Int.reduceBEq, Bool.not_false, Bool.false_eq_true, if_false, if_true, Bool.and_true, beq_self_eq_true]; exact hself
    show kfold kk on (if a.kind == kk then keepK kk on f a else f) l = kset v kk onL (if a.kind == kk && onL.getD a.step.toNat false then f.set a.to'.at'.toNat v else f) l
    rw [hst]
    exact ih _ (fun b hb => by
      obtain ⟨x1, x2, x3⟩ := hf b (by simp [hb])
      exact ⟨by split <;> (try rw [List.length_set]) <;> exact x1, x2, x3⟩)
theorem lit_drives {N : Nat} (on bg : BitVec 64) (onL bgL : List Bool) (hon : ∀ i, i < N → onL.getD i false = on.getLsbD i) (hbg : ∀ i, i < N → bgL.getD i false = bg.getLsbD i) (a : GAct) (h2 : a.to'.kind = 2) (l : List GAct) (hl : ∀ b ∈ l, b.to'.kind = 2 ∧ 0 ≤ b.step ∧ b.step < (N : Int)) :
    l.any (drives on bg a) = l.any (litA a.to'.at' onL bgL) := by
  induction l with
  | nil => rfl
  | cons b l ih =>
    obtain ⟨b1, b2, b3⟩ := hl b (by simp)
    rw [List.any_cons, List.any_cons, ih (fun x hx => hl x (by simp [hx]))]
    congr 1
    unfold drives litA
    rw [AD.beq, b1, h2, hon _ (by omega), hbg _ (by omega)]
    simp only [beq_self_eq_true, Bool.true_and]
    congr 1
    unfold drvK
    by_cases k1 : b.kind = 1
    · simp [k1]
    by_cases k4 : b.kind = 4
    · simp [k4]
    · have e1 : (b.kind == 1) = false := by simpa using k1
      have e2 : (b.kind == 4) = false := by simpa using k4
      simp [e1, e2]
theorem fold_congr {α β : Type} {f g : β → α → β} : ∀ (l : List α) (b : β), (∀ a ∈ l, ∀ b, f b a = g b a) → l.foldl f b = l.foldl g b
  | [], _, _ => rfl
  | x :: l, b, h => by rw [List.foldl_cons, List.foldl_cons, h x (by simp)]; exact fold_congr l _ (fun a ha => h a (by simp [ha]))
theorem istep_eq (c : Cht) (k : Mrk) (m : MM) (hk : k.kept.length = 6) (hg : c.Go k.on.length) (hf : ∀ i, i < c.as'.length → (c.as'.getD i default).Fine) : istep c k m = stepM c k m := by
  have hN : k.on.length ≤ 64 := by have := hg.n6; omega
  have hpl := hg.pl
  have hsteps := hg.steps
  have hfine : ∀ a ∈ c.as', a.Fine ∧ a.step < (k.on.length : Int) := by
    intro a ha
    obtain ⟨i, hi, rfl⟩ := List.getElem_of_mem ha
    have h1 := hf i hi
    have h2 := (hg.a i hi).2.1
    rw [List.getD_eq_getElem?_getD, List.getElem?_eq_getElem hi] at h1 h2
    exact ⟨h1, h2⟩
  obtain ⟨f1, f2, f3⟩ := fI_t hN m c k.on rfl hpl c.ts.length (Nat.le_refl _)
  have hfs : fires m c k.on = (fI m (onBits k.on) c c.ts.length).2.map (fun (i : Nat) => (i : Int)) := f1.symm
  have hways : (fires m c k.on).map (wayAt c) = (fI m (onBits k.on) c c.ts.length).2.map (wayN c) := by
    rw [hfs, List.map_map]; rfl
  have hmem : ∀ t ∈ (fires m c k.on).map (wayAt c), t ∈ c.ts := by rw [fires_t]; exact tfires_mem m k.on c.ts
  generalize hF : fI m (onBits k.on) c c.ts.length = F at *
  have hgo : ∀ i, i < k.on.length → (goes c k.on (fires m c k.on)).getD i false = (onBits k.on &&& ~~~F.1 ||| bgI c F.2).getLsbD i := by
    intro i hi
    rw [goes, spread_eq, spread_eq, spreadT_get, spreadT_get, hways, BitVec.getLsbD_or, BitVec.getLsbD_and, BitVec.getLsbD_not, onBits_get _ _ (by omega), f2 i (by omega), bgI_get _ _ _ (by omega)]
    · have : decide (i < 64) = true := by simp; omega
      rw [this]
      cases hasT Trn.to' (F.2.map (wayN c)) i <;> cases hasT Trn.fr (F.2.map (wayN c)) i <;> simp
    · intro t ht x hx; have := (hpl t (hmem t ht)).1 x hx; omega
    · intro t ht x hx; rw [spreadT_len]; have := (hpl t (hmem t ht)).2 x hx; omega
  have hbg : ∀ i, i < k.on.length → (begins c (fires m c k.on)).getD i false = (bgI c F.2).getLsbD i := by
    intro i hi
    rw [begins, spread_eq, spreadT_get, hways, bgI_get _ _ _ (by omega)]
    · have : (List.replicate c.steps.toNat false).getD i false = false := by
        rw [List.getD_eq_getElem?_getD]
        by_cases h : i < c.steps.toNat
        · rw [List.getElem?_eq_getElem (by simpa using h)]; simp
        · rw [List.getElem?_eq_none (by simpa using h)]; rfl
      rw [this]; cases hasT Trn.to' (F.2.map (wayN c)) i <;> simp
    · intro t ht x hx; have := (hpl t (hmem t ht)).2 x hx; simp; omega
  have e1 : hasL (onBits k.on &&& ~~~F.1 ||| bgI c F.2) c.steps.toNat = goes c k.on (fires m c k.on) := by
    refine ext_getD false (by rw [goes_len]; simp [hasL]; exact hsteps) fun i hi => ?_
    have hi' : i < k.on.length := by simp [hasL] at hi; omega
    rw [hgo i hi', hasL, List.getD_eq_getElem?_getD, List.getElem?_eq_getElem (by simpa [hasL] using hi)]; simp
  have e2 : kAll (onBits k.on &&& ~~~F.1 ||| bgI c F.2) c.as' k.kept [2, 3] = keptM c k.kept (goes c k.on (fires m c k.on)) := by
    show kfold 3 _ (kfold 2 _ k.kept c.as') c.as' = _
    rw [kfold_kset hN true 2 (.inl ⟨rfl, rfl⟩) _ _ hgo, kfold_kset hN false 3 (.inr ⟨rfl, rfl⟩) _ _ hgo]
    · rfl
    · intro a ha
      obtain ⟨x1, x2⟩ := hfine a ha
      unfold GAct.Fine at x1
      exact ⟨by rw [kset_len, hk]; omega, x1.2.2.1, x2⟩
    · intro a ha
      obtain ⟨x1, x2⟩ := hfine a ha
      unfold GAct.Fine at x1
      exact ⟨by rw [hk]; omega, x1.2.2.1, x2⟩
  unfold istep stepM
  simp only [hF, e1, e2]
  refine Prod.ext rfl ?_
  show imfold c _ _ _ m c.as' = mfold c _ _ _ m c.as'
  refine fold_congr _ _ fun a ha m' => ?_
  obtain ⟨x1, x2⟩ := hfine a ha
  unfold GAct.Fine at x1
  unfold imstep mstep lit
  rw [lit_drives _ _ _ _ hgo hbg a x1.2.2.2.2.1]
  intro b hb
  obtain ⟨y1, y2⟩ := hfine b hb
  unfold GAct.Fine at y1
  exact ⟨y1.2.2.2.2.1, y1.2.2.1, y2⟩
theorem ichtStep_eq (c : Cht) (k : Mrk) (m : MM) : ichtStep c k m = chtStep c k m := by
  unfold ichtStep chtStep
  have : turnOk c k m = (c.ok && mrkOk c k && m.ok) := by
    unfold turnOk; rw [cht_iok]
    cases m.ok <;> cases c.ok <;> cases mrkOk c k <;> rfl
  rw [← this]
  cases h : turnOk c k m with
  | false => rfl
  | true =>
    obtain ⟨h1, h2, h3, h4⟩ := turnOk_inv h
    have hgo : c.Go k.on.length := by
      have := Cht.ok_Go h2
      rwa [show c.steps.toNat = k.on.length by omega] at this
    simp only [if_true]
    exact istep_eq c k m h4 hgo (Cht.ok_fine h2)
end Go.Proofs.YtnmfmeehmieifaaGreat
namespace Go.Proofs.YtnmfmeehmieifaaGreat
open Go Sg
set_option linter.unusedSectionVars false
variable [Glob]
set_option linter.unusedSimpArgs false
set_option linter.unusedVariables false
theorem Cht.acts {c : Cht} (h : c.ok = true) : ∀ a ∈ c.as', a.to'.kind = 2 ∧ 0 ≤ a.to'.at' ∧ a.to'.at' < 6 ∧ 0 ≤ a.step ∧ a.step < c.steps ∧ 1 ≤ a.kind ∧ a.kind ≤ 4 := by
  intro a ha
  obtain ⟨i, hi, rfl⟩ := List.getElem_of_mem ha
  have h1 := Cht.ok_fine h i hi
  have h2 := ((Cht.ok_Go h).a i hi).2.1
  rw [List.getD_eq_getElem?_getD, List.getElem?_eq_getElem hi] at h1 h2
  unfold GAct.Fine at h1
  have := Cht.ok_st h
  simp only [Option.getD_some] at h1 h2
  exact ⟨h1.2.2.2.2.1, h1.2.2.2.2.2.1, h1.2.2.2.2.2.2, h1.2.2.1, by omega, h1.1, h1.2.1⟩
end Go.Proofs.YtnmfmeehmieifaaGreat
namespace Go.Proofs.YtnmfmeehmieifaaGreat
open Go Sg
set_option linter.unusedSectionVars false
variable [Glob]
set_option maxRecDepth 100000
set_option linter.unusedSimpArgs false
set_option linter.unusedVariables false
set_option maxHeartbeats 4000000
end Go.Proofs.YtnmfmeehmieifaaGreat
namespace Go.Proofs.YtnmfmeehmieifaaGreat
open Go Sg
set_option linter.unusedSectionVars false
variable [Glob]
set_option linter.unusedSimpArgs false
set_option linter.unusedVariables false
theorem numIs_false : cut (numIs false) = 0 := rfl
end Go.Proofs.YtnmfmeehmieifaaGreat
namespace Go.Proofs.YtnmfmeehmieifaaGreat
open Go Sg
set_option linter.unusedSectionVars false
variable [Glob]
set_option maxRecDepth 100000
set_option linter.unusedSimpArgs false
set_option linter.unusedVariables false
set_option maxHeartbeats 4000000
end Go.Proofs.YtnmfmeehmieifaaGreat
namespace Go.Proofs.YtnmfmeehmieifaaGreat
open Go Sg
set_option linter.unusedSectionVars false
variable [Glob]
set_option maxRecDepth 100000
set_option linter.unusedSimpArgs false
set_option linter.unusedVariables false
set_option maxHeartbeats 4000000
@[go_sem] theorem Ex.mk_kind (k n : Int) (a : AD) (l : List Ex) : (Ex.mk k n a l).kind = k := rfl
@[go_sem] theorem Ex.mk_n (k n : Int) (a : AD) (l : List Ex) : (Ex.mk k n a l).n = n := rfl
@[go_sem] theorem Ex.mk_a (k n : Int) (a : AD) (l : List Ex) : (Ex.mk k n a l).a = a := rfl
@[go_sem] theorem Ex.mk_kids (k n : Int) (a : AD) (l : List Ex) : (Ex.mk k n a l).kids = l := rfl
@[go_sem] theorem Ex.csL_nil : Ex.csL [] = [] := rfl
end Go.Proofs.YtnmfmeehmieifaaGreat
namespace Go.Proofs.YtnmfmeehmieifaaGreat
open Go Sg
set_option linter.unusedSectionVars false
variable [Glob]
set_option maxRecDepth 100000
set_option linter.unusedSimpArgs false
set_option linter.unusedVariables false
set_option maxHeartbeats 4000000
end Go.Proofs.YtnmfmeehmieifaaGreat
namespace Go.Proofs.YtnmfmeehmieifaaGreat
open Go Sg
set_option linter.unusedSectionVars false
variable [Glob]
set_option maxRecDepth 100000
set_option linter.unusedSimpArgs false
set_option linter.unusedVariables false
set_option maxHeartbeats 4000000
end Go.Proofs.YtnmfmeehmieifaaGreat
namespace Go.Proofs.YtnmfmeehmieifaaGreat
open Go Sg
set_option linter.unusedSectionVars false
variable [Glob]
set_option maxRecDepth 100000
set_option linter.unusedSimpArgs false
set_option linter.unusedVariables false
set_option maxHeartbeats 4000000
def trc (l : List Trn) : List PV := (rowsT l).flatten
def acc (l : List GAct) : List PV := (rowsA l).flatten
@[go_sem] theorem trc_nil : trc [] = [] := rfl
@[go_sem] theorem acc_nil : acc [] = [] := rfl
def TSm (l : List Trn) : Prop := l.length ≤ 10 ∧ ∀ t ∈ l, t.Sm
theorem TSm.app {l : List Trn} {t : Trn} (h : TSm l) (hl : l.length < 10) (ht : t.Sm) : TSm (l ++ [t]) := ⟨by simp; omega, fun x hx => by
  rcases List.mem_append.1 hx with h1 | h1
  · exact h.2 x h1
  · rw [List.mem_singleton.1 h1]; exact ht⟩
theorem TSm.nil : TSm [] := ⟨by simp, fun x hx => by simp at hx⟩
end Go.Proofs.YtnmfmeehmieifaaGreat
namespace Go.Proofs.YtnmfmeehmieifaaGreat
open Go Sg
set_option maxRecDepth 100000
set_option linter.unusedSimpArgs false
set_option linter.unusedVariables false
set_option linter.unusedSectionVars false
set_option maxHeartbeats 4000000
variable [Glob]
theorem Ex.ext' {a b : Ex} (h1 : a.kind = b.kind) (h2 : a.n = b.n) (h3 : a.a = b.a) (h4 : a.kids = b.kids) : a = b := by
  cases a; cases b
  simp only [Ex.kind, Ex.n, Ex.a, Ex.kids] at h1 h2 h3 h4
  subst h1; subst h2; subst h3; subst h4; rfl
open Classical in
noncomputable def same {α : Type} (a b : α) : Bool := decide (a = b)
theorem same_iff {α : Type} {a b : α} : same a b = true ↔ a = b := by simp [same]
theorem same_no {α : Type} {a b : α} (h : a ≠ b) : same a b = false := by simp [same, h]
theorem same_self {α : Type} (a : α) : same a a = true := by simp [same]
theorem range_ext {α : Type} [Inhabited α] {a b : List α} (h : a.length = b.length) (p : α → α → Bool) (hp : ∀ i, i < a.length → p (a.getD i default) (b.getD i default) = same (a.getD i default) (b.getD i default)) : (List.range a.length).all (fun i => p (a.getD i default) (b.getD i default)) = same a b := by
  by_cases hab : a = b
  · subst hab
    rw [same_self, List.all_eq_true]
    intro i hi
    rw [hp i (List.mem_range.1 hi), same_self]
  · rw [same_no hab, Bool.eq_false_iff]
    intro hall
    rw [List.all_eq_true] at hall
    refine hab (List.ext_getElem h fun i h1 h2 => ?_)
    have := hall i (List.mem_range.2 h1)
    rw [hp i h1, same_iff] at this
    simpa [List.getD, h1, h2] using this
theorem same_ex (a b : Ex) : (a.kind == b.kind && a.n == b.n && (a.a.kind == b.a.kind && a.a.at' == b.a.at') && (a.kids.length == b.kids.length && (List.range a.kids.length).all fun i => same (a.kids.getD i default) (b.kids.getD i default))) = same a b := by
  by_cases hl : a.kids.length = b.kids.length
  · rw [range_ext hl same fun _ _ => rfl, Bool.eq_iff_iff]
    simp only [Bool.and_eq_true, beq_iff_eq, same_iff]
    constructor
    · rintro ⟨⟨⟨h1, h2⟩, h3, h4⟩, _, h5⟩
      refine Ex.ext' h1 h2 ?_ h5
      cases hx : a.a; cases hy : b.a
      rw [hx, hy] at h3 h4
      simp only at h3 h4
      rw [h3, h4]
    · rintro rfl
      simp
  · rw [same_no (fun h => hl (by rw [h]))]
    have : (a.kids.length == b.kids.length) = false := by simpa using hl
    rw [this]; simp
end Go.Proofs.YtnmfmeehmieifaaGreat
namespace Go.Proofs.YtnmfmeehmieifaaGreat
open Go Sg
set_option maxRecDepth 100000
set_option linter.unusedSimpArgs false
set_option linter.unusedVariables false
set_option linter.unusedSectionVars false
set_option maxHeartbeats 4000000
variable [Glob]
end Go.Proofs.YtnmfmeehmieifaaGreat
namespace Go.Proofs.YtnmfmeehmieifaaGreat
open Go Sg
set_option linter.unusedSectionVars false
variable [Glob]
set_option maxRecDepth 100000
set_option linter.unusedSimpArgs false
set_option linter.unusedVariables false
set_option maxHeartbeats 4000000
end Go.Proofs.YtnmfmeehmieifaaGreat
namespace Go.Proofs.YtnmfmeehmieifaaGreat
open Go Sg
set_option maxRecDepth 100000
set_option linter.unusedSimpArgs false
set_option linter.unusedVariables false
set_option linter.unusedSectionVars false
set_option maxHeartbeats 4000000
variable [Glob]
theorem eqI_same (a b : List Int) : eqI a b = same a b := by
  unfold eqI
  by_cases h : a.length = b.length
  · rw [if_neg (by simp [h])]
    refine range_ext h (fun x y => !(x != y)) fun i hi => ?_
    by_cases hx : a.getD i 0 = b.getD i 0
    · show (!(a.getD i 0 != b.getD i 0)) = same (a.getD i 0) (b.getD i 0)
      rw [hx, same_self]; simp
    · show (!(a.getD i 0 != b.getD i 0)) = same (a.getD i 0) (b.getD i 0)
      rw [same_no hx]; simpa using hx
  · rw [if_pos (by simpa using (by omega : ¬ (a.length : Int) = b.length)), same_no (fun e => h (by rw [e]))]
theorem same_tr (t u : Trn) : (same t.fr u.fr && same t.to' u.to' && same t.w u.w) = same t u := by
  rw [Bool.eq_iff_iff]
  simp only [Bool.and_eq_true, same_iff]
  constructor
  · rintro ⟨⟨h1, h2⟩, h3⟩
    cases t; cases u
    simp only at h1 h2 h3
    rw [h1, h2, h3]
  · rintro rfl; simp
def eqAcB (x y : GAct) : Bool := x.kind == y.kind && x.step == y.step && x.to'.kind == y.to'.kind && x.to'.at' == y.to'.at'
theorem eqAcB_same (x y : GAct) : eqAcB x y = same x y := by
  rw [Bool.eq_iff_iff, same_iff]
  obtain ⟨a, b, ⟨c, d⟩⟩ := x
  obtain ⟨a', b', ⟨c', d'⟩⟩ := y
  simp [eqAcB, and_assoc]
theorem same_ch (a b : Cht) : (a.steps == b.steps && same a.ts b.ts && same a.as' b.as') = same a b := by
  rw [Bool.eq_iff_iff]
  simp only [Bool.and_eq_true, beq_iff_eq, same_iff]
  constructor
  · rintro ⟨⟨h1, h2⟩, h3⟩
    cases a; cases b
    simp only at h1 h2 h3
    rw [h1, h2, h3]
  · rintro rfl; simp
theorem len_same {α : Type} [Inhabited α] (a b : List α) : (a.length == b.length && (List.range a.length).all fun i => same (a.getD i default) (b.getD i default)) = same a b := by
  by_cases h : a.length = b.length
  · rw [range_ext h same fun _ _ => rfl]; simp [h]
  · rw [same_no (fun e => h (by rw [e]))]
    have : (a.length == b.length) = false := by simpa using h
    rw [this]; rfl
end Go.Proofs.YtnmfmeehmieifaaGreat
namespace Go.Proofs.YtnmfmeehmieifaaGreat
open Go Sg
set_option linter.unusedSectionVars false
variable [Glob]
set_option maxRecDepth 100000
set_option linter.unusedSimpArgs false
set_option linter.unusedVariables false
set_option maxHeartbeats 4000000
inductive Sm where
  | mk (kind : Int) (to' : AD) (e : Ex) (th el : List Sm)
  deriving Inhabited
def Sm.kind : Sm → Int | .mk k _ _ _ _ => k
def Sm.to' : Sm → AD | .mk _ a _ _ _ => a
def Sm.e : Sm → Ex | .mk _ _ e _ _ => e
def Sm.th : Sm → List Sm | .mk _ _ _ l _ => l
def Sm.el : Sm → List Sm | .mk _ _ _ _ l => l
mutual
def Sm.cs : Sm → List PV
  | .mk k a e th el => [.int .i64 k, .int .i64 a.kind, .int .i64 a.at', .int .i64 e.kind, .int .i64 e.n, .int .i64 e.a.kind, .int .i64 e.a.at', .rows 77 (Ex.csL e.kids), .rows 79 (Sm.csL th), .rows 79 (Sm.csL el)]
def Sm.csL : List Sm → List (List PV)
  | [] => []
  | s :: l => s.cs :: Sm.csL l
end
mutual
def Sm.sz : Sm → Nat | .mk _ _ e th el => 1 + e.sz + Sm.szL th + Sm.szL el
def Sm.szL : List Sm → Nat | [] => 0 | s :: l => s.sz + Sm.szL l
end
@[go_sem] theorem Sm.cs_eq (s : Sm) : s.cs = [.int .i64 s.kind, .int .i64 s.to'.kind, .int .i64 s.to'.at', .int .i64 s.e.kind, .int .i64 s.e.n, .int .i64 s.e.a.kind, .int .i64 s.e.a.at', .rows 77 (Ex.csL s.e.kids), .rows 79 (Sm.csL s.th), .rows 79 (Sm.csL s.el)] := by cases s; simp only [Sm.cs, Sm.kind, Sm.to', Sm.e, Sm.th, Sm.el]
theorem Sm.csL_map (l : List Sm) : Sm.csL l = l.map Sm.cs := by
  induction l with
  | nil => rfl
  | cons e l ih => simp [Sm.csL, ih]
@[go_sem] theorem Sm.csL_len (l : List Sm) : (Sm.csL l).length = l.length := by simp [Sm.csL_map]
@[go_sem] theorem Sm.csL_get (l : List Sm) (k : Nat) (h : k < l.length) : (Sm.csL l).getD k [] = (l.getD k default).cs := by simp [Sm.csL_map, List.getD, h]
theorem Sm.sz_eq (s : Sm) : s.sz = 1 + s.e.sz + Sm.szL s.th + Sm.szL s.el := by cases s; simp only [Sm.sz, Sm.e, Sm.th, Sm.el]
theorem Sm.len_szL (l : List Sm) : l.length ≤ Sm.szL l := by
  induction l with
  | nil => simp
  | cons s l ih => simp only [List.length_cons, Sm.szL]; have := s.sz_eq; omega
theorem Sm.get_szL (l : List Sm) (k : Nat) (h : k < l.length) : (l.getD k default).sz ≤ Sm.szL l := by
  induction l generalizing k with
  | nil => simp at h
  | cons e l ih =>
    simp only [Sm.szL]
    cases k with
    | zero => simp
    | succ k =>
      have := ih k (by simpa using h)
      simp only [List.getD_cons_succ]; omega
end Go.Proofs.YtnmfmeehmieifaaGreat
namespace Go.Proofs.YtnmfmeehmieifaaGreat
open Go Sg
set_option maxRecDepth 100000
set_option linter.unusedSimpArgs false
set_option linter.unusedVariables false
set_option linter.unusedSectionVars false
variable [Glob]
theorem aggs3 {θ : TypeId → Nat → Nat → Nat → Option PV} {a b c a' b' c' : List PV} (h : PV.subL θ (a ++ (b ++ c)) = a' ++ (b' ++ c')) (h1 : a.length = a'.length) (h2 : b.length = b'.length) : PV.subL θ [.agg a, .agg b, .agg c] = [.agg a', .agg b', .agg c'] := by
  simp only [subL_map, List.map_append] at h
  have e1 := List.append_inj h (by simpa using h1)
  have e2 := List.append_inj e1.2 (by simpa using h2)
  simp only [PV.subL, PV.sub, subL_map, e1.1, e2.1, e2.2]
theorem aggs1 {θ : TypeId → Nat → Nat → Nat → Option PV} {a a' : List PV} {p : PV} (h : PV.subL θ a = a') (hp : p.sub θ = p) : PV.subL θ [.agg a, p] = [.agg a', p] := by
  simp only [PV.subL, PV.sub, h, hp]
theorem own1 {f : FuncId} {ca qa : List PV} {p : PV} {Ta : List (Nat × AObj)} {rs : List PV} (ha : Owns Tryz.prog ca qa Ta) (hnd : (ksL Ta).Nodup) (hp : ∀ θ, p.sub θ = p) (hf : PV.flatL rs = true) (h : PureF Tryz.prog f [.agg qa, p] rs) : CallF Tryz.prog f [.agg ca, p] Ta 0 (fun _ o => o = { rs := rs }) :=
  CallF.own ha hnd (fun θ h => aggs1 h (hp θ)) (flatOut_rs hf) h
theorem own_f {s : MS} {B M : Nat} {T : List (Nat × AObj)} (h : InR B M s.l) (hT : ∀ p ∈ T, p ∈ s.l) : ∀ i o, lk i T = some o → s.f i = some o := fun i o e => h.f (hT _ (lk_in e))
end Go.Proofs.YtnmfmeehmieifaaGreat
