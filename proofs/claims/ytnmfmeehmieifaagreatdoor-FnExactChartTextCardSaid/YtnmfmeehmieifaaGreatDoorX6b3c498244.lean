/- A part of a proof: lemmas and contracts of functions; the last text of the claim says what is proved. -/
import Derived.Test.YtnmfmeehmieifaaGreatDoorX8325d0b9b3
set_option linter.unusedSectionVars false
set_option linter.unusedSimpArgs false
set_option linter.unusedVariables false
namespace Go.Proofs.YtnmfmeehmieifaaGreatDoor
open Go Sg
set_option maxRecDepth 100000
set_option linter.unusedSimpArgs false
set_option linter.unusedVariables false
set_option linter.unusedSectionVars false
set_option maxHeartbeats 4000000
variable [TabK]
theorem ichartNo_ok (c : Cht) (hc : c.Sm) (hok : c.ok = false) : PureF Tryz.prog 19 [.agg c.cs] [.str ⟨#[]⟩] := by
  refine pureF_of Tryz.func19 rfl Tryz.ntmps19 (by simp) T_ ?_
  intro f0 B Q hQ
  refine g_ [1] ?_
  refine n_ ?_
  refine wpM_regionK [1,10] rfl fun Q1 hQ1 => ?_
  refine S_ ?_
  refine call_p (ichartOk_ok c hc) Tryz.call48 rfl rfl rfl (by first | rfl | (simp -implicitDefEqProofs (disch := omega) only [go_sem] <;> rfl)) ?_
  simp -implicitDefEqProofs (disch := omega) only [go_sem, cht_iok, hok]
  refine hQ1 _ _ (S_ ?_);clear hQ1 Q1
  refine c1_ ?_
  refine g_ [2] ?_
  exact e_ Tryz.results19 True.intro
theorem schartNo_ok (c : Cht) (hc : c.Sm) (hok : c.ok = false) : PureF Tryz.prog 17 [.agg c.cs] [.str ⟨#[]⟩] := by
  refine pureF_of Tryz.func17 rfl Tryz.ntmps17 (by simp) T_ ?_
  intro f0 B Q hQ
  refine g_ [1] ?_
  refine n_ ?_
  refine wpM_regionK [1,10] rfl fun Q1 hQ1 => ?_
  refine S_ ?_
  refine call_p (chtOk_ok c hc) Tryz.call40 rfl rfl rfl (by first | rfl | (simp -implicitDefEqProofs (disch := omega) only [go_sem] <;> rfl)) ?_
  simp -implicitDefEqProofs (disch := omega) only [go_sem, hok]
  refine hQ1 _ _ (S_ ?_);clear hQ1 Q1
  refine c1_ ?_
  refine g_ [2] ?_
  exact e_ Tryz.results17 True.intro
theorem schartText_ok (c : Cht) (hc : c.Sm) (hok : c.ok = true) : PureF Tryz.prog 17 [.agg c.cs] [.str (chS c)] := by
  obtain ⟨hst, htl, hal, _, _⟩ := cht_inv hok
  have e6 : (⟨#[115, 116, 101, 112, 115, 32]⟩ : ByteArray).size = 6 := rfl
  have e3 : (⟨#[32, 62, 32]⟩ : ByteArray).size = 3 := rfl
  have e3' : (⟨#[32, 59, 32]⟩ : ByteArray).size = 3 := rfl
  have e5 : (⟨#[32, 119, 104, 101, 110, 32]⟩ : ByteArray).size = 6 := rfl
  have e1 : (⟨#[32]⟩ : ByteArray).size = 1 := rfl
  have hfs := fmtS_size c.steps
  refine pureF_of Tryz.func17 rfl Tryz.ntmps17 (by simp) T_ ?_
  intro f0 B Q hQ
  refine g_ [1] ?_
  refine n_ ?_
  refine wpM_regionK [1,10] rfl fun Q1 hQ1 => ?_
  refine S_ ?_
  refine call_p (chtOk_ok c hc) Tryz.call40 rfl rfl rfl (by first | rfl | (simp -implicitDefEqProofs (disch := omega) only [go_sem] <;> rfl)) ?_
  simp -implicitDefEqProofs (disch := omega) only [go_sem, hok]
  refine hQ1 _ _ (S_ ?_);clear hQ1 Q1
  refine c1_ ?_
  refine n_ ?_
  refine wpM_regionK [1,3] rfl fun Q1 hQ1 => ?_
  simp -implicitDefEqProofs (disch := omega) only [go_sem, bin_adds]
  refine call_p (dec_ok c.steps (by omega) (by omega)) Tryz.call41 rfl rfl rfl (by first | rfl | (simp -implicitDefEqProofs (disch := omega) only [go_sem] <;> rfl)) ?_
  simp -implicitDefEqProofs (disch := omega) only [go_sem, bin_adds]
  refine hQ1 _ _ (S_ ?_);clear hQ1 Q1
  refine g_ [1,3,4] ?_
  refine n_ ?_
  refine wpM_loopS (fun q r s' => ∃ (i M : Nat) (out : ByteArray), i + r = c.ts.length ∧ B + 1 ≤ M ∧ bt out = Lib.join ((stS c.steps :: (c.ts.take i).map trS).map bt) [32, 59, 32] ∧ out.size ≤ 2000 * (i + 1) ∧ s' = { q with env := setE 4 (.int .i64 (i : Nat)) (setE 3 (.str out) q.env), l := [(B, .cells 48 c.cs)], M := M }) (c.ts.length) ?_ ?_
  ·
    refine .of' _ _ ⟨0, _, stS c.steps, by omega, Nat.le_refl _, by simp [Lib.join_one], by have := st_size hst; omega, rfl⟩ ?_ ?_ ?_
    all_goals exact L_
  rintro r s' ⟨i, M, out, hi, hM, hout, hos, rfl⟩
  try refine S_ ?_
  refine g_ [1,3,4,19] ?_
  refine c_ (fun hc1 => ?_) fun hc1 => ?_
  ·
    have hout' := hout
    rw [List.map_cons] at hout'
    have hi2 : i < c.ts.length := by omega
    have hT := cht_TrS hok _ (get_mem hi2)
    obtain ⟨hw6, hwz⟩ := ok_sz hT.w
    have z1 := pl_size hT.fr
    have z2 := pl_size hT.to'
    have z3 := ex_size hT.w
    have s0 : (out ++ ⟨#[32, 59, 32]⟩).size = out.size + 3 := by rw [ByteArray.size_append, e3']
    have s1 : (out ++ ⟨#[32, 59, 32]⟩ ++ plS (c.ts.getD i default).fr).size = out.size + 3 + (plS (c.ts.getD i default).fr).size := by rw [ByteArray.size_append, s0]
    have s2 : (out ++ ⟨#[32, 59, 32]⟩ ++ plS (c.ts.getD i default).fr ++ ⟨#[32, 62, 32]⟩).size = out.size + 3 + (plS (c.ts.getD i default).fr).size + 3 := by rw [ByteArray.size_append, s1, e3]
    have s3 : (out ++ ⟨#[32, 59, 32]⟩ ++ plS (c.ts.getD i default).fr ++ ⟨#[32, 62, 32]⟩ ++ plS (c.ts.getD i default).to').size = out.size + 3 + (plS (c.ts.getD i default).fr).size + 3 + (plS (c.ts.getD i default).to').size := by rw [ByteArray.size_append, s2]
    have s4 : (out ++ ⟨#[32, 59, 32]⟩ ++ plS (c.ts.getD i default).fr ++ ⟨#[32, 62, 32]⟩ ++ plS (c.ts.getD i default).to' ++ ⟨#[32, 119, 104, 101, 110, 32]⟩).size = out.size + 3 + (plS (c.ts.getD i default).fr).size + 3 + (plS (c.ts.getD i default).to').size + 6 := by rw [ByteArray.size_append, s3, e5]
    refine g_ [1,3,4,5] ?_
    refine dr_ mixed [1,3,4] 0 1 [M] [⟨[3],[],[],[],false⟩,⟨[27],[],[],[],false⟩,⟨[5],[],[],[],false⟩,⟨[29],[0],[],[],false⟩,⟨[30],[],[],[],true⟩,⟨[28,31],[],[],[],false⟩,⟨[32],[],[],[],false⟩,⟨[5],[],[],[],false⟩,⟨[34],[0],[],[],false⟩,⟨[35],[],[],[],true⟩,⟨[33,36],[],[],[],false⟩,⟨[37],[],[],[],false⟩,⟨[5],[],[],[],false⟩,⟨[39],[0],[],[],false⟩,⟨[40],[],[],[],true⟩,⟨[38,41],[],[],[],false⟩,⟨[42],[],[],[],false⟩] [0,1,2,3,7,8,12,13,4,5,6,9,10,11,14,15,16] [[],[0],[],[2],[2,3],[0,1,2,3,4],[0,1,2,3,4,5],[],[7],[2,3,4,7,8],[0,1,2,3,4,5,6,7,8,9],[0,1,2,3,4,5,6,7,8,9,10],[],[12],[2,3,4,7,8,9,12,13],[0,1,2,3,4,5,6,7,8,9,10,11,12,13,14],[0,1,2,3,4,5,6,7,8,9,10,11,12,13,14,15]] 1 ?_
    intro O A K hO hA hK;simp only [atL_cons,atL_nil,Nat.reduceAdd,Nat.zero_add] at hO hA
    simp -implicitDefEqProofs (disch := omega) only [go_sem, bin_adds, hO, hA]
    refine loud_p (sl8_ok (c.ts.getD i default).fr hT.fr) Tryz.call42 rfl rfl (by first | rfl | (simp -implicitDefEqProofs (disch := omega) only [go_sem] <;> rfl)) rfl ?_
    simp -implicitDefEqProofs (disch := omega) only [go_sem, bin_adds, hO, hA]
    refine loud_p (sl8_ok (c.ts.getD i default).to' hT.to') Tryz.call42 rfl rfl (by first | rfl | (simp -implicitDefEqProofs (disch := omega) only [go_sem] <;> rfl)) rfl ?_
    simp -implicitDefEqProofs (disch := omega) only [go_sem, bin_adds, hO, hA]
    refine loud_p (l3Text_ok 6 (c.ts.getD i default).w hw6 (by omega)) Tryz.call43 rfl rfl (by first | rfl | (simp -implicitDefEqProofs (disch := omega) only [go_sem] <;> rfl)) rfl ?_
    simp -implicitDefEqProofs (disch := omega) only [go_sem, bin_adds, hO, hA]
    refine hK _ (S_ ?_);clear hK K hO hA O A
    refine g_ [1,3,4] ?_
    refine .of' _ _ ⟨r - 1, by omega, i + 1, M + 1, out ++ ⟨#[32, 59, 32]⟩ ++ plS (c.ts.getD i default).fr ++ ⟨#[32, 62, 32]⟩ ++ plS (c.ts.getD i default).to' ++ ⟨#[32, 119, 104, 101, 110, 32]⟩ ++ exS (c.ts.getD i default).w, by omega, by omega, ?_, by rw [ByteArray.size_append, s4]; omega, rfl⟩ ?_ ?_ ?_
    · rw [← map_take1 trS c.ts i hi2, List.map_append, List.map_cons, List.map_nil, ← List.cons_append, join_snoc [32, 59, 32] _ (by simp), ← hout', trS]
      simp only [bt_app, List.append_assoc]
      try rfl
    all_goals exact L_
  refine n_ ?_
  have hiN : i = c.ts.length := by omega
  rw [hiN, List.take_of_length_le (Nat.le_refl _)] at hout
  refine g_ [1,3,6] ?_
  refine n_ ?_
  refine wpM_loopS (fun q r s' => ∃ (j M2 : Nat) (out2 : ByteArray), j + r = c.as'.length ∧ B + 1 ≤ M2 ∧ bt out2 = Lib.join ((stS c.steps :: (c.ts.map trS ++ (c.as'.take j).map acS)).map bt) [32, 59, 32] ∧ out2.size ≤ 20000 + 2000 * j ∧ s' = { q with env := setE 6 (.int .i64 (j : Nat)) (setE 3 (.str out2) q.env), l := [(B, .cells 48 c.cs)], M := M2 }) (c.as'.length) ?_ ?_
  ·
    refine .of' _ _ ⟨0, _, out, by omega, by first | assumption | (dsimp only; omega), by rw [hout]; simp, by omega, rfl⟩ ?_ ?_ ?_
    all_goals exact L_
  rintro r s' ⟨j, M2, out2, hj, hM2, hout2, hos2, rfl⟩
  try refine S_ ?_
  refine g_ [1,3,6,47] ?_
  refine c_ (fun hc2 => ?_) fun hc2 => ?_
  ·
    have hout' := hout2
    rw [List.map_cons] at hout'
    have hj2 : j < c.as'.length := by omega
    have hAc := cht_AcS hok _ (get_mem hj2)
    have hk := hAc.k
    have hstp := hAc.st
    have z1 := act_size (c.as'.getD j default).kind hk
    have z2 := fmtS_size (c.as'.getD j default).step
    have z3 := adr_size hAc.to'
    have s0 : (out2 ++ ⟨#[32, 59, 32]⟩).size = out2.size + 3 := by rw [ByteArray.size_append, e3']
    have s1 : (out2 ++ ⟨#[32, 59, 32]⟩ ++ actL.getD (c.as'.getD j default).kind.toNat default).size = out2.size + 3 + (actL.getD (c.as'.getD j default).kind.toNat default).size := by rw [ByteArray.size_append, s0]
    have s2 : (out2 ++ ⟨#[32, 59, 32]⟩ ++ actL.getD (c.as'.getD j default).kind.toNat default ++ ⟨#[32]⟩).size = out2.size + 3 + (actL.getD (c.as'.getD j default).kind.toNat default).size + 1 := by rw [ByteArray.size_append, s1, e1]
    have s3 : (out2 ++ ⟨#[32, 59, 32]⟩ ++ actL.getD (c.as'.getD j default).kind.toNat default ++ ⟨#[32]⟩ ++ fmtS (c.as'.getD j default).step).size = out2.size + 3 + (actL.getD (c.as'.getD j default).kind.toNat default).size + 1 + (fmtS (c.as'.getD j default).step).size := by rw [ByteArray.size_append, s2]
    have s4 : (out2 ++ ⟨#[32, 59, 32]⟩ ++ actL.getD (c.as'.getD j default).kind.toNat default ++ ⟨#[32]⟩ ++ fmtS (c.as'.getD j default).step ++ ⟨#[32]⟩).size = out2.size + 3 + (actL.getD (c.as'.getD j default).kind.toNat default).size + 1 + (fmtS (c.as'.getD j default).step).size + 1 := by rw [ByteArray.size_append, s3, e1]
    have hal5 : actL.length = 5 := rfl
    refine g_ [1,3,6,7] ?_
    refine dr_ mixed [1,3,6] 0 1 [M2] [⟨[3],[],[],[],false⟩,⟨[55],[],[],[],false⟩,⟨[],[],[],[],true⟩,⟨[7],[],[],[],false⟩,⟨[58],[0],[],[],false⟩,⟨[57,59],[],[],[],false⟩,⟨[60],[],[],[],false⟩,⟨[56,61],[],[],[],false⟩,⟨[62],[],[],[],false⟩,⟨[7],[],[],[],false⟩,⟨[64],[0],[],[],false⟩,⟨[65],[],[],[],true⟩,⟨[63,66],[],[],[],false⟩,⟨[67],[],[],[],false⟩,⟨[7],[],[],[],false⟩,⟨[69],[0],[],[],false⟩,⟨[70],[],[],[],true⟩,⟨[68,71],[],[],[],false⟩,⟨[72],[],[],[],false⟩] [0,1,3,4,9,10,14,15,2,5,6,7,8,11,12,13,16,17,18] [[],[0],[],[],[3],[2,3,4],[2,3,4,5],[0,1,2,3,4,5,6],[0,1,2,3,4,5,6,7],[],[9],[2,9,10],[0,1,2,3,4,5,6,7,8,9,10,11],[0,1,2,3,4,5,6,7,8,9,10,11,12],[],[14],[2,9,10,11,14,15],[0,1,2,3,4,5,6,7,8,9,10,11,12,13,14,15,16],[0,1,2,3,4,5,6,7,8,9,10,11,12,13,14,15,16,17]] 1 ?_
    intro O A K hO hA hK;simp only [atL_cons,atL_nil,Nat.reduceAdd,Nat.zero_add] at hO hA
    simp -implicitDefEqProofs (disch := omega) only [go_sem, bin_adds, hal5, hO, hA]
    refine loud_p (w8_ok) Tryz.call44 rfl rfl (by first | rfl | (simp -implicitDefEqProofs (disch := omega) only [go_sem] <;> rfl)) rfl ?_
    simp -implicitDefEqProofs (disch := omega) only [go_sem, bin_adds, hal5, hO, hA]
    refine loud_p (dec_ok (c.as'.getD j default).step (by omega) (by omega)) Tryz.call41 rfl rfl (by first | rfl | (simp -implicitDefEqProofs (disch := omega) only [go_sem] <;> rfl)) rfl ?_
    simp -implicitDefEqProofs (disch := omega) only [go_sem, bin_adds, hal5, hO, hA]
    refine loud_p (saddrText_ok (c.as'.getD j default).to' hAc.to') Tryz.call45 rfl rfl (by first | rfl | (simp -implicitDefEqProofs (disch := omega) only [go_sem] <;> rfl)) rfl ?_
    simp -implicitDefEqProofs (disch := omega) only [go_sem, bin_adds, hal5, hO, hA]
    refine hK _ (S_ ?_);clear hK K hO hA O A
    refine g_ [1,3,6] ?_
    refine .of' _ _ ⟨r - 1, by omega, j + 1, M2 + 1, out2 ++ ⟨#[32, 59, 32]⟩ ++ actL.getD (c.as'.getD j default).kind.toNat default ++ ⟨#[32]⟩ ++ fmtS (c.as'.getD j default).step ++ ⟨#[32]⟩ ++ adrS (c.as'.getD j default).to', by omega, by omega, ?_, by rw [ByteArray.size_append, s4]; omega, rfl⟩ ?_ ?_ ?_
    · rw [← map_take1 acS c.as' j hj2, ← List.append_assoc, List.map_append, List.map_cons, List.map_nil, ← List.cons_append, join_snoc [32, 59, 32] _ (by simp), ← hout', acS]
      simp only [bt_app, List.append_assoc]
      try rfl
    all_goals exact L_
  refine g_ [2] ?_
  refine e_ Tryz.results17 ?_
  first
  | exact True.intro
  | have hjN : j = c.as'.length := by omega
    congr 1
    apply bytes_inj'
    rw [hout2, hjN, List.take_of_length_le (Nat.le_refl _), chS, bt_mk]
    rfl
end Go.Proofs.YtnmfmeehmieifaaGreatDoor
namespace Go.Proofs.YtnmfmeehmieifaaGreatDoor
open Go Sg
set_option maxRecDepth 100000
set_option linter.unusedSimpArgs false
set_option linter.unusedVariables false
set_option linter.unusedSectionVars false
set_option maxHeartbeats 4000000
variable [Glob]
end Go.Proofs.YtnmfmeehmieifaaGreatDoor
namespace Go.Proofs.YtnmfmeehmieifaaGreatDoor
open Go Sg
set_option linter.unusedSectionVars false
variable [Glob]
set_option maxRecDepth 100000
set_option linter.unusedSimpArgs false
set_option linter.unusedVariables false
set_option maxHeartbeats 4000000
end Go.Proofs.YtnmfmeehmieifaaGreatDoor
namespace Go.Proofs.YtnmfmeehmieifaaGreatDoor
open Go Sg
set_option linter.unusedSectionVars false
variable [Glob]
set_option maxRecDepth 100000
set_option linter.unusedSimpArgs false
set_option linter.unusedVariables false
set_option maxHeartbeats 4000000
@[go_sem] theorem Ex.mk_kind (k n : Int) (a : AD) (l : List Ex) : (Ex.mk k n a l).kind = k := rfl
@[go_sem] theorem Ex.mk_n (k n : Int) (a : AD) (l : List Ex) : (Ex.mk k n a l).n = n := rfl
@[go_sem] theorem Ex.mk_a (k n : Int) (a : AD) (l : List Ex) : (Ex.mk k n a l).a = a := rfl
@[go_sem] theorem Ex.mk_kids (k n : Int) (a : AD) (l : List Ex) : (Ex.mk k n a l).kids = l := rfl
@[go_sem] theorem Ex.csL_nil : Ex.csL [] = [] := rfl
end Go.Proofs.YtnmfmeehmieifaaGreatDoor
namespace Go.Proofs.YtnmfmeehmieifaaGreatDoor
open Go Sg
set_option linter.unusedSectionVars false
variable [Glob]
set_option maxRecDepth 100000
set_option linter.unusedSimpArgs false
set_option linter.unusedVariables false
set_option maxHeartbeats 4000000
end Go.Proofs.YtnmfmeehmieifaaGreatDoor
namespace Go.Proofs.YtnmfmeehmieifaaGreatDoor
open Go Sg
set_option linter.unusedSectionVars false
variable [Glob]
set_option maxRecDepth 100000
set_option linter.unusedSimpArgs false
set_option linter.unusedVariables false
set_option maxHeartbeats 4000000
end Go.Proofs.YtnmfmeehmieifaaGreatDoor
namespace Go.Proofs.YtnmfmeehmieifaaGreatDoor
open Go Sg
set_option linter.unusedSectionVars false
variable [Glob]
set_option maxRecDepth 100000
set_option linter.unusedSimpArgs false
set_option linter.unusedVariables false
set_option maxHeartbeats 4000000
def trc (l : List Trn) : List PV := (rowsT l).flatten
def acc (l : List GAct) : List PV := (rowsA l).flatten
@[go_sem] theorem trc_nil : trc [] = [] := rfl
@[go_sem] theorem acc_nil : acc [] = [] := rfl
def TSm (l : List Trn) : Prop := l.length ≤ 10 ∧ ∀ t ∈ l, t.Sm
theorem TSm.nil : TSm [] := ⟨by simp, fun x hx => by simp at hx⟩
end Go.Proofs.YtnmfmeehmieifaaGreatDoor
namespace Go.Proofs.YtnmfmeehmieifaaGreatDoor
open Go Sg
set_option linter.unusedSectionVars false
variable [Glob]
set_option maxRecDepth 100000
set_option linter.unusedSimpArgs false
set_option linter.unusedVariables false
set_option maxHeartbeats 4000000
end Go.Proofs.YtnmfmeehmieifaaGreatDoor
namespace Go.Proofs.YtnmfmeehmieifaaGreatDoor
open Go Sg
set_option maxRecDepth 100000
set_option linter.unusedSimpArgs false
set_option linter.unusedVariables false
set_option linter.unusedSectionVars false
set_option maxHeartbeats 4000000
variable [Glob]
theorem eqI_same (a b : List Int) : eqI a b = same a b := by
  unfold eqI
  by_cases h : a.length = b.length
  · rw [if_neg (by simp [h])]
    refine range_ext h (fun x y => !(x != y)) fun i hi => ?_
    by_cases hx : a.getD i 0 = b.getD i 0
    · show (!(a.getD i 0 != b.getD i 0)) = same (a.getD i 0) (b.getD i 0)
      rw [hx, same_self]; simp
    · show (!(a.getD i 0 != b.getD i 0)) = same (a.getD i 0) (b.getD i 0)
      rw [same_no hx]; simpa using hx
  · rw [if_pos (by simpa using (by omega : ¬ (a.length : Int) = b.length)), same_no (fun e => h (by rw [e]))]
theorem same_tr (t u : Trn) : (same t.fr u.fr && same t.to' u.to' && same t.w u.w) = same t u := by
  rw [Bool.eq_iff_iff]
  simp only [Bool.and_eq_true, same_iff]
  constructor
  · rintro ⟨⟨h1, h2⟩, h3⟩
    cases t; cases u
    simp only at h1 h2 h3
    rw [h1, h2, h3]
  · rintro rfl; simp
def eqAcB (x y : GAct) : Bool := x.kind == y.kind && x.step == y.step && x.to'.kind == y.to'.kind && x.to'.at' == y.to'.at'
theorem eqAcB_same (x y : GAct) : eqAcB x y = same x y := by
  rw [Bool.eq_iff_iff, same_iff]
  obtain ⟨a, b, ⟨c, d⟩⟩ := x
  obtain ⟨a', b', ⟨c', d'⟩⟩ := y
  simp [eqAcB, and_assoc]
theorem same_ch (a b : Cht) : (a.steps == b.steps && same a.ts b.ts && same a.as' b.as') = same a b := by
  rw [Bool.eq_iff_iff]
  simp only [Bool.and_eq_true, beq_iff_eq, same_iff]
  constructor
  · rintro ⟨⟨h1, h2⟩, h3⟩
    cases a; cases b
    simp only at h1 h2 h3
    rw [h1, h2, h3]
  · rintro rfl; simp
theorem len_same {α : Type} [Inhabited α] (a b : List α) : (a.length == b.length && (List.range a.length).all fun i => same (a.getD i default) (b.getD i default)) = same a b := by
  by_cases h : a.length = b.length
  · rw [range_ext h same fun _ _ => rfl]; simp [h]
  · rw [same_no (fun e => h (by rw [e]))]
    have : (a.length == b.length) = false := by simpa using h
    rw [this]; rfl
end Go.Proofs.YtnmfmeehmieifaaGreatDoor
